/- Part of the proof that wellspringlaw27's MarginTells answers true whatever the input reads, and leaves it as it was; no condition. -/
import Derived.Test.YtmadbodaleaaeaaGreatTabA
set_option linter.unusedVariables false
set_option linter.unusedSimpArgs false
namespace Go.Proofs.YtmadbodaleaaeaaGreat
open Go Go.Vc Go.Proofs
set_option maxRecDepth 1000000

/-- wellspring/wellspringref01.RankOf -/
abbrev wellspringref01_RankOf_id : FuncId := 22
noncomputable def wellspringref01_RankOf_m (p_0 : Int × Int × Int) (seed_1 : Int) (ids_2 : Sl) (R : Value → Heap → Prop) (h : Heap) : Prop :=
  RunsA Tryz.prog (Instr.box 23 (.agg #[(.int .i64 p_0.1), (.int .i64 p_0.2.1), (.int .i64 p_0.2.2)])) h fun a1 h1 =>
  ∃ x2 : Int × Int × Int, cellsAt h1 a1 0 [(.int .i64 x2.1), (.int .i64 x2.2.1), (.int .i64 x2.2.2)] ∧
  CallM Tryz.prog 42 #[(.agg #[(.int .i64 x2.1), (.int .i64 x2.2.1), (.int .i64 x2.2.2)]), (.int .u32 seed_1), (.slice ids_2.ptr ids_2.len ids_2.cap)] (.one (.sc .slc)) h1 fun r3 h2 =>
  CallM Tryz.prog 41 #[(.slice r3.ptr r3.len r3.cap)] (.one (.sc (.int .i64))) h2 fun r4 h3 =>
  R (.int .i64 r4) h3
noncomputable def wellspringref01_RankOf_ann : Ann := .n
theorem wellspringref01_RankOf_eq (p_0 : Int × Int × Int) (seed_1 : Int) (ids_2 : Sl) (R : Value → Heap → Prop) (h : Heap) : fnV C Tryz.f22 300 wellspringref01_RankOf_ann [(.agg #[(.int .i64 p_0.1), (.int .i64 p_0.2.1), (.int .i64 p_0.2.2)]), (.int .u32 seed_1), (.slice ids_2.ptr ids_2.len ids_2.cap)] R h = wellspringref01_RankOf_m p_0 seed_1 ids_2 R h := by kernel_rfl
theorem wellspringref01_RankOf_run (p_0 : Int × Int × Int) (seed_1 : Int) (ids_2 : Sl) {R : Value → Heap → Prop} {h : Heap} (hm : wellspringref01_RankOf_m p_0 seed_1 ids_2 R h) : Meets Tryz.prog 22 #[(.agg #[(.int .i64 p_0.1), (.int .i64 p_0.2.1), (.int .i64 p_0.2.2)]), (.int .u32 seed_1), (.slice ids_2.ptr ids_2.len ids_2.cap)] h R :=
  fn_spec C_ok (f := 22) (fn := Tryz.f22) (args := [(.agg #[(.int .i64 p_0.1), (.int .i64 p_0.2.1), (.int .i64 p_0.2.2)]), (.int .u32 seed_1), (.slice ids_2.ptr ids_2.len ids_2.cap)]) Tryz.func22 (by rw [Tryz.ntmps22]; exact Nat.le_of_ble_eq_true rfl) (cast (wellspringref01_RankOf_eq p_0 seed_1 ids_2 R h).symm hm)
/-- wellspring/wellspringref21.others -/
abbrev wellspringref21_others_id : FuncId := 23
noncomputable def wellspringref21_others_m (where_0 : Sl) (gone_1 : Sl) (R : Value → Heap → Prop) (h : Heap) : Prop :=
  LoopM (σ := Sl × Int) (fun s1 K1 h1 =>
  Br (decide (s1.2 < ((where_0.len : Nat) : Int)))
  (CallM Tryz.prog 43 #[(.slice gone_1.ptr gone_1.len gone_1.cap), (.int .i64 s1.2)] (.one (.sc .bool)) h1 fun r2 h2 =>
  Br (!r2)
  (∃ a3 : Addr, (where_0.ptr = some a3 ∧ 0 ≤ s1.2 ∧ s1.2 < ((where_0.len : Nat) : Int)) ∧
  ∃ x4 : Sl, cellOf h2 (a3.add (s1.2.toNat * 1)) = some (.slice x4.ptr x4.len x4.cap) ∧
  RunsR Tryz.prog (Builtin.append_ #[25, 25] 25 #[(.slice s1.1.ptr s1.1.len s1.1.cap), (.slice x4.ptr x4.len x4.cap)]) (.one (.sc .slc)) h2 fun v5 h3 =>
  K1 ((⟨v5.ptr, v5.len, v5.cap⟩ : Sl), IntKind.wrap .i64 (s1.2 + (1 : Int))) h3)
  (K1 ((⟨s1.1.ptr, s1.1.len, s1.1.cap⟩ : Sl), IntKind.wrap .i64 (s1.2 + (1 : Int))) h2))
  (R (.slice s1.1.ptr s1.1.len s1.1.cap) h1)) ((⟨none, 0, 0⟩ : Sl), (0 : Int)) h
noncomputable def wellspringref21_others_ann : Ann := (.two .n (.two .n (.two (.two .n (.inn (.loop [(5, (.sc .slc)), (9, (.sc (.int .i64)))] [(5, 7), (9, 23)] .n))) .n)))
theorem wellspringref21_others_eq (where_0 : Sl) (gone_1 : Sl) (R : Value → Heap → Prop) (h : Heap) : fnV C Tryz.f23 300 wellspringref21_others_ann [(.slice where_0.ptr where_0.len where_0.cap), (.slice gone_1.ptr gone_1.len gone_1.cap)] R h = wellspringref21_others_m where_0 gone_1 R h := by kernel_rfl
theorem wellspringref21_others_run (where_0 : Sl) (gone_1 : Sl) {R : Value → Heap → Prop} {h : Heap} (hm : wellspringref21_others_m where_0 gone_1 R h) : Meets Tryz.prog 23 #[(.slice where_0.ptr where_0.len where_0.cap), (.slice gone_1.ptr gone_1.len gone_1.cap)] h R :=
  fn_spec C_ok (f := 23) (fn := Tryz.f23) (args := [(.slice where_0.ptr where_0.len where_0.cap), (.slice gone_1.ptr gone_1.len gone_1.cap)]) Tryz.func23 (by rw [Tryz.ntmps23]; exact Nat.le_of_ble_eq_true rfl) (cast (wellspringref21_others_eq where_0 gone_1 R h).symm hm)
/-- wellspring/pre.May -/
abbrev pre_May_id : FuncId := 24
noncomputable def pre_May_m (p_0 : Int × Int × Int) (R : Value → Heap → Prop) (h : Heap) : Prop :=
  RunsA Tryz.prog (Instr.box 23 (.agg #[(.int .i64 p_0.1), (.int .i64 p_0.2.1), (.int .i64 p_0.2.2)])) h fun a1 h1 =>
  ∃ x2 : Int, cellOf h1 a1 = some (.int .i64 x2) ∧
  Br (decide (x2 ≥ (1 : Int))) (∃ x3 : Int, cellOf h1 a1 = some (.int .i64 x3) ∧
  Br (decide (x3 ≤ (16 : Int))) (∃ x4 : Int, cellOf h1 (a1.add 1) = some (.int .i64 x4) ∧
  Br (decide (x4 ≥ (1 : Int))) (∃ x5 : Int, cellOf h1 (a1.add 1) = some (.int .i64 x5) ∧
  Br (decide (x5 ≤ (4 : Int))) (∃ x6 : Int, cellOf h1 (a1.add 2) = some (.int .i64 x6) ∧
  Br (decide (x6 ≥ (1 : Int))) (∃ x7 : Int, cellOf h1 (a1.add 2) = some (.int .i64 x7) ∧
  R (.bool (decide (x7 ≤ (24 : Int)))) h1) (R (.bool false) h1)) (R (.bool false) h1)) (R (.bool false) h1)) (R (.bool false) h1)) (R (.bool false) h1)
noncomputable def pre_May_ann : Ann := .n
theorem pre_May_eq (p_0 : Int × Int × Int) (R : Value → Heap → Prop) (h : Heap) : fnV C Tryz.f24 300 pre_May_ann [(.agg #[(.int .i64 p_0.1), (.int .i64 p_0.2.1), (.int .i64 p_0.2.2)])] R h = pre_May_m p_0 R h := by kernel_rfl
theorem pre_May_run (p_0 : Int × Int × Int) {R : Value → Heap → Prop} {h : Heap} (hm : pre_May_m p_0 R h) : Meets Tryz.prog 24 #[(.agg #[(.int .i64 p_0.1), (.int .i64 p_0.2.1), (.int .i64 p_0.2.2)])] h R :=
  fn_spec C_ok (f := 24) (fn := Tryz.f24) (args := [(.agg #[(.int .i64 p_0.1), (.int .i64 p_0.2.1), (.int .i64 p_0.2.2)])]) Tryz.func24 (by rw [Tryz.ntmps24]; exact Nat.le_of_ble_eq_true rfl) (cast (pre_May_eq p_0 R h).symm hm)
/-- wellspring/sets.All -/
abbrev sets_All_id : FuncId := 25
noncomputable def sets_All_m (n_0 : Int) (t_1 : Int) (R : Value → Heap → Prop) (h : Heap) : Prop :=
  CallM Tryz.prog 44 #[(.int .i64 n_0), (.int .i64 t_1)] (.one (.sc .bool)) h fun r1 h1 =>
  Br (!r1)
  (R (.tuple #[(.slice none 0 0), (.int .i64 (1 : Int))]) h1)
  (CallM Tryz.prog 45 #[(.int .i64 n_0), (.int .i64 t_1)] (.one (.sc (.int .i64))) h1 fun r2 h2 =>
  Br (decide (r2 > (4096 : Int)))
  (R (.tuple #[(.slice none 0 0), (.int .i64 (13 : Int))]) h2)
  (RunsR Tryz.prog (Instr.makeSlice 25 (.int .i64 t_1) (.int .i64 t_1)) (.one (.sc .slc)) h2 fun v3 h3 =>
  LoopM (σ := Int) (fun s4 K1 h4 =>
  Br (decide (s4 < ((v3.len : Nat) : Int)))
  (∃ a5 : Addr, (v3.ptr = some a5 ∧ 0 ≤ s4 ∧ s4 < ((v3.len : Nat) : Int)) ∧
  Runs Tryz.prog (Instr.storeAt 3 (.pointer (some (a5.add (s4.toNat * 1)))) (.int .i64 s4)) h4 fun _ h5 =>
  K1 (IntKind.wrap .i64 (s4 + (1 : Int))) h5)
  (CallM Tryz.prog 46 #[(.slice v3.ptr v3.len v3.cap)] (.one (.sc .slc)) h4 fun r6 h6 =>
  RunsR Tryz.prog (Instr.buildSlice 26 1 #[(0, (.slice r6.ptr r6.len r6.cap))]) (.one (.sc .slc)) h6 fun v7 h7 =>
  LoopM (σ := Sl) (fun s8 K2 h8 =>
  CallM Tryz.prog 47 #[(.slice v3.ptr v3.len v3.cap), (.int .i64 n_0)] (.one (.sc .bool)) h8 fun r9 h9 =>
  Br r9
  (CallM Tryz.prog 46 #[(.slice v3.ptr v3.len v3.cap)] (.one (.sc .slc)) h9 fun r10 h10 =>
  RunsR Tryz.prog (Instr.buildSlice 26 1 #[(0, (.slice r10.ptr r10.len r10.cap))]) (.one (.sc .slc)) h10 fun v11 h11 =>
  RunsR Tryz.prog (Builtin.append_ #[26, 26] 26 #[(.slice s8.ptr s8.len s8.cap), (.slice v11.ptr v11.len v11.cap)]) (.one (.sc .slc)) h11 fun v12 h12 =>
  K2 (⟨v12.ptr, v12.len, v12.cap⟩ : Sl) h12)
  (R (.tuple #[(.slice s8.ptr s8.len s8.cap), (.int .i64 (0 : Int))]) h9)) (⟨v7.ptr, v7.len, v7.cap⟩ : Sl) h7)) (0 : Int) h3))
noncomputable def sets_All_ann : Ann := (.two .n (.two .n (.two .n (.two (.two .n (.inn (.loop [(23, (.sc (.int .i64)))] [(7, 8), (23, 31)] .n))) (.two .n (.two (.inn (.loop [(8, (.sc .slc))] [(8, 9), (34, 42)] .n)) .n))))))
theorem sets_All_eq (n_0 : Int) (t_1 : Int) (R : Value → Heap → Prop) (h : Heap) : fnV C Tryz.f25 300 sets_All_ann [(.int .i64 n_0), (.int .i64 t_1)] R h = sets_All_m n_0 t_1 R h := by kernel_rfl
theorem sets_All_run (n_0 : Int) (t_1 : Int) {R : Value → Heap → Prop} {h : Heap} (hm : sets_All_m n_0 t_1 R h) : Meets Tryz.prog 25 #[(.int .i64 n_0), (.int .i64 t_1)] h R :=
  fn_spec C_ok (f := 25) (fn := Tryz.f25) (args := [(.int .i64 n_0), (.int .i64 t_1)]) Tryz.func25 (by rw [Tryz.ntmps25]; exact Nat.le_of_ble_eq_true rfl) (cast (sets_All_eq n_0 t_1 R h).symm hm)
/-- wellspring/pre.Cols -/
abbrev pre_Cols_id : FuncId := 26
noncomputable def pre_Cols_m (p_0 : Int × Int × Int) (R : Value → Heap → Prop) (h : Heap) : Prop :=
  RunsA Tryz.prog (Instr.box 23 (.agg #[(.int .i64 p_0.1), (.int .i64 p_0.2.1), (.int .i64 p_0.2.2)])) h fun a1 h1 =>
  ∃ x2 : Int × Int × Int, cellsAt h1 a1 0 [(.int .i64 x2.1), (.int .i64 x2.2.1), (.int .i64 x2.2.2)] ∧
  CallM Tryz.prog 24 #[(.agg #[(.int .i64 x2.1), (.int .i64 x2.2.1), (.int .i64 x2.2.2)])] (.one (.sc .bool)) h1 fun r3 h2 =>
  Br (!r3)
  (R (.int .i64 (0 : Int)) h2)
  (∃ x4 : Int, cellOf h2 a1 = some (.int .i64 x4) ∧
  ∃ x5 : Int, cellOf h2 (a1.add 1) = some (.int .i64 x5) ∧
  R (.int .i64 (IntKind.wrap .i64 (x4 + x5))) h2)
noncomputable def pre_Cols_ann : Ann := .n
theorem pre_Cols_eq (p_0 : Int × Int × Int) (R : Value → Heap → Prop) (h : Heap) : fnV C Tryz.f26 300 pre_Cols_ann [(.agg #[(.int .i64 p_0.1), (.int .i64 p_0.2.1), (.int .i64 p_0.2.2)])] R h = pre_Cols_m p_0 R h := by kernel_rfl
theorem pre_Cols_run (p_0 : Int × Int × Int) {R : Value → Heap → Prop} {h : Heap} (hm : pre_Cols_m p_0 R h) : Meets Tryz.prog 26 #[(.agg #[(.int .i64 p_0.1), (.int .i64 p_0.2.1), (.int .i64 p_0.2.2)])] h R :=
  fn_spec C_ok (f := 26) (fn := Tryz.f26) (args := [(.agg #[(.int .i64 p_0.1), (.int .i64 p_0.2.1), (.int .i64 p_0.2.2)])]) Tryz.func26 (by rw [Tryz.ntmps26]; exact Nat.le_of_ble_eq_true rfl) (cast (pre_Cols_eq p_0 R h).symm hm)
/-- wellspring/span.New -/
abbrev span_New_id : FuncId := 27
noncomputable def span_New_m (f_0 : Option Addr) (n_1 : Int) (R : Value → Heap → Prop) (h : Heap) : Prop :=
  JoinM (σ := Unit) (fun _ h1 =>
  JoinM (σ := Option Addr) (fun s3 h3 =>
  RunsA Tryz.prog (Instr.box 71 (.agg #[(.pointer s3), (.int .i64 n_1), (.slice none 0 0)])) h3 fun a4 h4 =>
  R (.pointer (some a4)) h4)
  (fun K2 =>
  Br (Option.isNone f_0)
  (CallM Tryz.prog 28 #[] (.one (.sc .ptr)) h1 fun r2 h2 =>
  K2 r2 h2)
  (K2 f_0 h1)))
  (fun K1 =>
  Br (decide (n_1 < (0 : Int))) (R (.pointer none) h) (Br (decide (n_1 > (64 : Int)))
  (R (.pointer none) h)
  (K1 () h)))
noncomputable def span_New_ann : Ann := (.two .n (.two (.join [] [(4, 11)] .n) (.two (.join [(0, (.sc .ptr))] [(0, 1), (11, 14)] .n) .n)))
theorem span_New_eq (f_0 : Option Addr) (n_1 : Int) (R : Value → Heap → Prop) (h : Heap) : fnV C Tryz.f27 300 span_New_ann [(.pointer f_0), (.int .i64 n_1)] R h = span_New_m f_0 n_1 R h := by kernel_rfl
theorem span_New_run (f_0 : Option Addr) (n_1 : Int) {R : Value → Heap → Prop} {h : Heap} (hm : span_New_m f_0 n_1 R h) : Meets Tryz.prog 27 #[(.pointer f_0), (.int .i64 n_1)] h R :=
  fn_spec C_ok (f := 27) (fn := Tryz.f27) (args := [(.pointer f_0), (.int .i64 n_1)]) Tryz.func27 (by rw [Tryz.ntmps27]; exact Nat.le_of_ble_eq_true rfl) (cast (span_New_eq f_0 n_1 R h).symm hm)
/-- wellspring/gf.New -/
abbrev gf_New_id : FuncId := 28
noncomputable def gf_New_m  (R : Value → Heap → Prop) (h : Heap) : Prop :=
  CallM Tryz.prog 48 #[] (.one (.arr (.int .u8))) h fun r1 h1 =>
  RunsA Tryz.prog (Instr.alloc 72 true (.tuple #[])) h1 fun a2 h2 =>
  Runs Tryz.prog (Instr.storeAt 72 (.pointer (some a2)) (.agg (r1.map (Sc.enc (.int .u8))).toArray)) h2 fun _ h3 =>
  ∃ x3 : List (Int), (x3.length = 255 ∧ cellsAt h3 a2 0 (x3.map (Sc.enc (.int .u8)))) ∧
  ∃ x4 : List (Int), (x4.length = 255 ∧ cellsAt h3 a2 0 (x4.map (Sc.enc (.int .u8)))) ∧
  CallM Tryz.prog 49 #[(.agg (x4.map (Sc.enc (.int .u8))).toArray)] (.one (.arr (.int .i64))) h3 fun r5 h4 =>
  (Held.ok (cellList a2 0 (x3.map (Sc.enc (.int .u8))) []) h4) ∧
  ∃ v6 : Value, (AlwaysV Tryz.prog (Instr.build 77 #[(0, (.agg (x3.map (Sc.enc (.int .u8))).toArray)), (1, (.agg (r5.map (Sc.enc (.int .i64))).toArray))]) v6) ∧
  RunsA Tryz.prog (Instr.box 77 v6) h4 fun a7 h5 =>
  (Held.ok (cellList a2 0 (x3.map (Sc.enc (.int .u8))) []) h5) ∧
  R (.pointer (some a7)) h5
noncomputable def gf_New_ann : Ann := .n
theorem gf_New_eq  (R : Value → Heap → Prop) (h : Heap) : fnV C Tryz.f28 300 gf_New_ann [] R h = gf_New_m  R h := by kernel_rfl
theorem gf_New_run  {R : Value → Heap → Prop} {h : Heap} (hm : gf_New_m  R h) : Meets Tryz.prog 28 #[] h R :=
  fn_spec C_ok (f := 28) (fn := Tryz.f28) (args := []) Tryz.func28 (by rw [Tryz.ntmps28]; exact Nat.le_of_ble_eq_true rfl) (cast (gf_New_eq  R h).symm hm)
/-- wellspring/pre.Rows -/
abbrev pre_Rows_id : FuncId := 29
noncomputable def pre_Rows_m (p_0 : Int × Int × Int) (R : Value → Heap → Prop) (h : Heap) : Prop :=
  RunsA Tryz.prog (Instr.box 23 (.agg #[(.int .i64 p_0.1), (.int .i64 p_0.2.1), (.int .i64 p_0.2.2)])) h fun a1 h1 =>
  ∃ x2 : Int × Int × Int, cellsAt h1 a1 0 [(.int .i64 x2.1), (.int .i64 x2.2.1), (.int .i64 x2.2.2)] ∧
  CallM Tryz.prog 24 #[(.agg #[(.int .i64 x2.1), (.int .i64 x2.2.1), (.int .i64 x2.2.2)])] (.one (.sc .bool)) h1 fun r3 h2 =>
  Br (!r3)
  (R (.slice none 0 0) h2)
  (CallM Tryz.prog 28 #[] (.one (.sc .ptr)) h2 fun r4 h3 =>
  ∃ x5 : Int, cellOf h3 (a1.add 1) = some (.int .i64 x5) ∧
  LoopM (σ := Sl × Int) (fun s6 K1 h4 =>
  Br (decide (s6.2 < x5))
  (JoinM (σ := Sl) (fun s11 h7 =>
  ∃ x12 : Int, cellOf h7 a1 = some (.int .i64 x12) ∧
  LoopM (σ := Int) (fun s13 K3 h8 =>
  Br (decide (s13 < x12))
  (CallM Tryz.prog 51 #[(.pointer r4), (.int .i64 (IntKind.wrap .i64 ((IntKind.wrap .i64 (s6.2 + (1 : Int))) * (IntKind.wrap .i64 (s13 + (1 : Int))))))] (.one (.sc (.int .u8))) h8 fun r14 h9 =>
  ∃ a15 : Addr, (s11.ptr = some a15 ∧ 0 ≤ s13 ∧ s13 < ((s11.len : Nat) : Int)) ∧
  Runs Tryz.prog (Instr.storeAt 5 (.pointer (some (a15.add (s13.toNat * 1)))) (.int .u8 r14)) h9 fun _ h10 =>
  K3 (IntKind.wrap .i64 (s13 + (1 : Int))) h10)
  (RunsR Tryz.prog (Instr.buildSlice 56 1 #[(0, (.slice s11.ptr s11.len s11.cap))]) (.one (.sc .slc)) h8 fun v16 h11 =>
  RunsR Tryz.prog (Builtin.append_ #[56, 56] 56 #[(.slice s6.1.ptr s6.1.len s6.1.cap), (.slice v16.ptr v16.len v16.cap)]) (.one (.sc .slc)) h11 fun v17 h12 =>
  K1 ((⟨v17.ptr, v17.len, v17.cap⟩ : Sl), IntKind.wrap .i64 (s6.2 + (1 : Int))) h12)) (0 : Int) h7)
  (fun K2 =>
  ∃ x7 : Int × Int × Int, cellsAt h4 a1 0 [(.int .i64 x7.1), (.int .i64 x7.2.1), (.int .i64 x7.2.2)] ∧
  ∃ x8 : Int, cellOf h4 a1 = some (.int .i64 x8) ∧
  CallM Tryz.prog 26 #[(.agg #[(.int .i64 x7.1), (.int .i64 x7.2.1), (.int .i64 x7.2.2)])] (.one (.sc (.int .i64))) h4 fun r9 h5 =>
  (Held.ok [(a1, (.int .i64 x8))] h5) ∧
  CallM Tryz.prog 50 #[(.int .i64 r9), (.int .i64 (IntKind.wrap .i64 (x8 + s6.2)))] (.one (.sc .slc)) h5 fun r10 h6 =>
  (Held.ok [(a1, (.int .i64 x8))] h6) ∧
  K2 (⟨r10.ptr, r10.len, r10.cap⟩ : Sl) h6))
  (R (.slice s6.1.ptr s6.1.len s6.1.cap) h4)) ((⟨none, 0, 0⟩ : Sl), (0 : Int)) h3)
noncomputable def pre_Rows_ann : Ann := (.two .n (.two .n (.two .n (.two .n (.two (.two .n (.inn (.loop [(4, (.sc .slc)), (14, (.sc (.int .i64)))] [(4, 8), (14, 45)] (.two .n (.two .n (.two (.inn (.two .n (.two (.join [(6, (.sc .slc))] [(6, 7), (17, 24)] .n) (.two (.two .n (.inn (.loop [(26, (.sc (.int .i64)))] [(7, 8), (26, 40)] .n))) .n)))) .n)))))) .n)))))
theorem pre_Rows_eq (p_0 : Int × Int × Int) (R : Value → Heap → Prop) (h : Heap) : fnV C Tryz.f29 300 pre_Rows_ann [(.agg #[(.int .i64 p_0.1), (.int .i64 p_0.2.1), (.int .i64 p_0.2.2)])] R h = pre_Rows_m p_0 R h := by kernel_rfl
theorem pre_Rows_run (p_0 : Int × Int × Int) {R : Value → Heap → Prop} {h : Heap} (hm : pre_Rows_m p_0 R h) : Meets Tryz.prog 29 #[(.agg #[(.int .i64 p_0.1), (.int .i64 p_0.2.1), (.int .i64 p_0.2.2)])] h R :=
  fn_spec C_ok (f := 29) (fn := Tryz.f29) (args := [(.agg #[(.int .i64 p_0.1), (.int .i64 p_0.2.1), (.int .i64 p_0.2.2)])]) Tryz.func29 (by rw [Tryz.ntmps29]; exact Nat.le_of_ble_eq_true rfl) (cast (pre_Rows_eq p_0 R h).symm hm)
/-- (*wellspring/span.Span).Add -/
abbrev span_Span_Add_id : FuncId := 30
noncomputable def span_Span_Add_m (s_0 : Option Addr) (r_1 : Sl) (R : Value → Heap → Prop) (h : Heap) : Prop :=
  CallM Tryz.prog 52 #[(.pointer s_0), (.slice r_1.ptr r_1.len r_1.cap)] (.many [(.sc .slc), (.sc .bool)]) h fun r1 h1 =>
  JoinM (σ := Unit) (fun _ h3 =>
  ∃ a4 : Addr, (s_0 = some a4) ∧
  ∃ x5 : Option Addr, cellOf h3 a4 = some (.pointer x5) ∧
  ∃ a6 : Addr, (s_0 = some a6) ∧
  ∃ x7 : Sl, cellOf h3 (a6.add 2) = some (.slice x7.ptr x7.len x7.cap) ∧
  RunsR Tryz.prog (Instr.buildSlice 56 1 #[(0, (.slice r1.1.ptr r1.1.len r1.1.cap))]) (.one (.sc .slc)) h3 fun v8 h4 =>
  (Held.ok [(a6.add 2, (.slice x7.ptr x7.len x7.cap)), (a4, (.pointer x5))] h4) ∧
  RunsR Tryz.prog (Builtin.append_ #[56, 56] 56 #[(.slice x7.ptr x7.len x7.cap), (.slice v8.ptr v8.len v8.cap)]) (.one (.sc .slc)) h4 fun v9 h5 =>
  (Held.ok [(a4, (.pointer x5))] h5) ∧
  CallM Tryz.prog 54 #[(.pointer x5), (.slice v9.ptr v9.len v9.cap)] (.one (.sc .slc)) h5 fun r10 h6 =>
  (Held.ok [] h6) ∧
  ∃ a11 : Addr, (s_0 = some a11) ∧
  Runs Tryz.prog (Instr.storeAt 56 (.pointer (some (a11.add 2))) (.slice r10.ptr r10.len r10.cap)) h6 fun _ h7 =>
  (Held.ok [] h7) ∧
  R (.bool true) h7)
  (fun K1 =>
  Br (!r1.2) (R (.bool false) h1) (CallM Tryz.prog 53 #[(.slice r1.1.ptr r1.1.len r1.1.cap)] (.one (.sc (.int .i64))) h1 fun r2 h2 =>
  Br (decide (r2 < (0 : Int)))
  (R (.bool false) h2)
  (K1 () h2)))
noncomputable def span_Span_Add_ann : Ann := (.two .n (.two .n (.two (.join [] [(4, 5), (13, 20)] .n) .n)))
theorem span_Span_Add_eq (s_0 : Option Addr) (r_1 : Sl) (R : Value → Heap → Prop) (h : Heap) : fnV C Tryz.f30 300 span_Span_Add_ann [(.pointer s_0), (.slice r_1.ptr r_1.len r_1.cap)] R h = span_Span_Add_m s_0 r_1 R h := by kernel_rfl
theorem span_Span_Add_run (s_0 : Option Addr) (r_1 : Sl) {R : Value → Heap → Prop} {h : Heap} (hm : span_Span_Add_m s_0 r_1 R h) : Meets Tryz.prog 30 #[(.pointer s_0), (.slice r_1.ptr r_1.len r_1.cap)] h R :=
  fn_spec C_ok (f := 30) (fn := Tryz.f30) (args := [(.pointer s_0), (.slice r_1.ptr r_1.len r_1.cap)]) Tryz.func30 (by rw [Tryz.ntmps30]; exact Nat.le_of_ble_eq_true rfl) (cast (span_Span_Add_eq s_0 r_1 R h).symm hm)
/-- wellspring/margin.rows -/
abbrev margin_rows_id : FuncId := 31
noncomputable def margin_rows_m (p_0 : Int × Int × Int) (seed_1 : Int) (where_2 : Sl) (R : Value → Heap → Prop) (h : Heap) : Prop :=
  RunsA Tryz.prog (Instr.box 23 (.agg #[(.int .i64 p_0.1), (.int .i64 p_0.2.1), (.int .i64 p_0.2.2)])) h fun a1 h1 =>
  LoopM (σ := Sl × Int) (fun s2 K1 h2 =>
  Br (decide (s2.2 < ((where_2.len : Nat) : Int)))
  (∃ a3 : Addr, (where_2.ptr = some a3 ∧ 0 ≤ s2.2 ∧ s2.2 < ((where_2.len : Nat) : Int)) ∧
  ∃ x4 : Sl, cellOf h2 (a3.add (s2.2.toNat * 1)) = some (.slice x4.ptr x4.len x4.cap) ∧
  LoopM (σ := Sl × Int) (fun s5 K2 h3 =>
  Br (decide (s5.2 < ((x4.len : Nat) : Int)))
  (∃ a6 : Addr, (x4.ptr = some a6 ∧ 0 ≤ s5.2 ∧ s5.2 < ((x4.len : Nat) : Int)) ∧
  ∃ x7 : Int, cellOf h3 (a6.add (s5.2.toNat * 1)) = some (.int .i64 x7) ∧
  ∃ x8 : Int × Int × Int, cellsAt h3 a1 0 [(.int .i64 x8.1), (.int .i64 x8.2.1), (.int .i64 x8.2.2)] ∧
  CallM Tryz.prog 55 #[(.agg #[(.int .i64 x8.1), (.int .i64 x8.2.1), (.int .i64 x8.2.2)]), (.int .u32 seed_1), (.int .i64 x7)] (.one (.sc .slc)) h3 fun r9 h4 =>
  Br (!(Option.isNone r9.ptr))
  (RunsR Tryz.prog (Instr.buildSlice 56 1 #[(0, (.slice r9.ptr r9.len r9.cap))]) (.one (.sc .slc)) h4 fun v10 h5 =>
  RunsR Tryz.prog (Builtin.append_ #[56, 56] 56 #[(.slice s5.1.ptr s5.1.len s5.1.cap), (.slice v10.ptr v10.len v10.cap)]) (.one (.sc .slc)) h5 fun v11 h6 =>
  K2 ((⟨v11.ptr, v11.len, v11.cap⟩ : Sl), IntKind.wrap .i64 (s5.2 + (1 : Int))) h6)
  (K2 ((⟨s5.1.ptr, s5.1.len, s5.1.cap⟩ : Sl), IntKind.wrap .i64 (s5.2 + (1 : Int))) h4))
  (RunsR Tryz.prog (Instr.buildSlice 60 1 #[(0, (.slice s5.1.ptr s5.1.len s5.1.cap))]) (.one (.sc .slc)) h3 fun v12 h7 =>
  RunsR Tryz.prog (Builtin.append_ #[60, 60] 60 #[(.slice s2.1.ptr s2.1.len s2.1.cap), (.slice v12.ptr v12.len v12.cap)]) (.one (.sc .slc)) h7 fun v13 h8 =>
  K1 ((⟨v13.ptr, v13.len, v13.cap⟩ : Sl), IntKind.wrap .i64 (s2.2 + (1 : Int))) h8)) ((⟨none, 0, 0⟩ : Sl), (0 : Int)) h2)
  (R (.slice s2.1.ptr s2.1.len s2.1.cap) h2)) ((⟨none, 0, 0⟩ : Sl), (0 : Int)) h1
noncomputable def margin_rows_ann : Ann := (.two .n (.two .n (.two (.two .n (.inn (.loop [(7, (.sc .slc)), (16, (.sc (.int .i64)))] [(7, 8), (9, 11), (12, 14), (16, 42)] (.two .n (.two .n (.two (.inn (.two .n (.two .n (.two (.two .n (.inn (.loop [(10, (.sc .slc)), (22, (.sc (.int .i64)))] [(10, 11), (12, 14), (22, 37)] .n))) .n)))) .n)))))) .n)))
theorem margin_rows_eq (p_0 : Int × Int × Int) (seed_1 : Int) (where_2 : Sl) (R : Value → Heap → Prop) (h : Heap) : fnV C Tryz.f31 300 margin_rows_ann [(.agg #[(.int .i64 p_0.1), (.int .i64 p_0.2.1), (.int .i64 p_0.2.2)]), (.int .u32 seed_1), (.slice where_2.ptr where_2.len where_2.cap)] R h = margin_rows_m p_0 seed_1 where_2 R h := by kernel_rfl
theorem margin_rows_run (p_0 : Int × Int × Int) (seed_1 : Int) (where_2 : Sl) {R : Value → Heap → Prop} {h : Heap} (hm : margin_rows_m p_0 seed_1 where_2 R h) : Meets Tryz.prog 31 #[(.agg #[(.int .i64 p_0.1), (.int .i64 p_0.2.1), (.int .i64 p_0.2.2)]), (.int .u32 seed_1), (.slice where_2.ptr where_2.len where_2.cap)] h R :=
  fn_spec C_ok (f := 31) (fn := Tryz.f31) (args := [(.agg #[(.int .i64 p_0.1), (.int .i64 p_0.2.1), (.int .i64 p_0.2.2)]), (.int .u32 seed_1), (.slice where_2.ptr where_2.len where_2.cap)]) Tryz.func31 (by rw [Tryz.ntmps31]; exact Nat.le_of_ble_eq_true rfl) (cast (margin_rows_eq p_0 seed_1 where_2 R h).symm hm)
/-- wellspring/margin.full -/
abbrev margin_full_id : FuncId := 32
noncomputable def margin_full_m (ahead_0 : Option Addr) (l_1 : Sl) (gone_2 : Sl) (cols_3 : Int) (R : Value → Heap → Prop) (h : Heap) : Prop :=
  CallM Tryz.prog 56 #[(.pointer ahead_0)] (.one (.sc .ptr)) h fun r1 h1 =>
  LoopM (σ := Int) (fun s2 K1 h2 =>
  Br (decide (s2 < ((l_1.len : Nat) : Int)))
  (∃ a3 : Addr, (l_1.ptr = some a3 ∧ 0 ≤ s2 ∧ s2 < ((l_1.len : Nat) : Int)) ∧
  ∃ x4 : Sl, cellOf h2 (a3.add (s2.toNat * 1)) = some (.slice x4.ptr x4.len x4.cap) ∧
  CallM Tryz.prog 20 #[(.slice gone_2.ptr gone_2.len gone_2.cap), (.int .i64 s2)] (.one (.sc .bool)) h2 fun r5 h3 =>
  Br r5
  (K1 (IntKind.wrap .i64 (s2 + (1 : Int))) h3)
  (LoopM (σ := Int) (fun s6 K2 h4 =>
  Br (decide (s6 < ((x4.len : Nat) : Int)))
  (∃ a7 : Addr, (x4.ptr = some a7 ∧ 0 ≤ s6 ∧ s6 < ((x4.len : Nat) : Int)) ∧
  ∃ x8 : Sl, cellOf h4 (a7.add (s6.toNat * 1)) = some (.slice x8.ptr x8.len x8.cap) ∧
  CallM Tryz.prog 57 #[(.pointer r1)] (.one (.sc (.int .i64))) h4 fun r9 h5 =>
  Br (r9 == cols_3)
  (R (.bool true) h5)
  (CallM Tryz.prog 30 #[(.pointer r1), (.slice x8.ptr x8.len x8.cap)] (.one (.sc .bool)) h5 fun _ h6 =>
  K2 (IntKind.wrap .i64 (s6 + (1 : Int))) h6))
  (K1 (IntKind.wrap .i64 (s2 + (1 : Int))) h4)) (0 : Int) h3))
  (CallM Tryz.prog 57 #[(.pointer r1)] (.one (.sc (.int .i64))) h2 fun r11 h7 =>
  R (.bool (r11 == cols_3)) h7)) (0 : Int) h1
noncomputable def margin_full_ann : Ann := (.two .n (.two .n (.two (.two .n (.inn (.loop [(18, (.sc (.int .i64)))] [(8, 9), (10, 12), (13, 14), (18, 41)] (.two .n (.two .n (.two (.inn (.two .n (.two .n (.two .n (.inn (.loop [(28, (.sc (.int .i64)))] [(8, 9), (13, 14), (28, 40)] .n)))))) .n)))))) .n)))
theorem margin_full_eq (ahead_0 : Option Addr) (l_1 : Sl) (gone_2 : Sl) (cols_3 : Int) (R : Value → Heap → Prop) (h : Heap) : fnV C Tryz.f32 300 margin_full_ann [(.pointer ahead_0), (.slice l_1.ptr l_1.len l_1.cap), (.slice gone_2.ptr gone_2.len gone_2.cap), (.int .i64 cols_3)] R h = margin_full_m ahead_0 l_1 gone_2 cols_3 R h := by kernel_rfl
theorem margin_full_run (ahead_0 : Option Addr) (l_1 : Sl) (gone_2 : Sl) (cols_3 : Int) {R : Value → Heap → Prop} {h : Heap} (hm : margin_full_m ahead_0 l_1 gone_2 cols_3 R h) : Meets Tryz.prog 32 #[(.pointer ahead_0), (.slice l_1.ptr l_1.len l_1.cap), (.slice gone_2.ptr gone_2.len gone_2.cap), (.int .i64 cols_3)] h R :=
  fn_spec C_ok (f := 32) (fn := Tryz.f32) (args := [(.pointer ahead_0), (.slice l_1.ptr l_1.len l_1.cap), (.slice gone_2.ptr gone_2.len gone_2.cap), (.int .i64 cols_3)]) Tryz.func32 (by rw [Tryz.ntmps32]; exact Nat.le_of_ble_eq_true rfl) (cast (margin_full_eq ahead_0 l_1 gone_2 cols_3 R h).symm hm)
/-- wellspring/wellspringref01.May -/
abbrev wellspringref01_May_id : FuncId := 33
noncomputable def wellspringref01_May_m (p_0 : Int × Int × Int) (R : Value → Heap → Prop) (h : Heap) : Prop :=
  RunsA Tryz.prog (Instr.box 23 (.agg #[(.int .i64 p_0.1), (.int .i64 p_0.2.1), (.int .i64 p_0.2.2)])) h fun a1 h1 =>
  ∃ x2 : Int, cellOf h1 a1 = some (.int .i64 x2) ∧
  Br (decide (x2 ≥ (1 : Int))) (∃ x3 : Int, cellOf h1 a1 = some (.int .i64 x3) ∧
  Br (decide (x3 ≤ (16 : Int))) (∃ x4 : Int, cellOf h1 (a1.add 1) = some (.int .i64 x4) ∧
  Br (decide (x4 ≥ (1 : Int))) (∃ x5 : Int, cellOf h1 (a1.add 1) = some (.int .i64 x5) ∧
  Br (decide (x5 ≤ (4 : Int))) (∃ x6 : Int, cellOf h1 (a1.add 2) = some (.int .i64 x6) ∧
  Br (decide (x6 ≥ (1 : Int))) (∃ x7 : Int, cellOf h1 (a1.add 2) = some (.int .i64 x7) ∧
  R (.bool (decide (x7 ≤ (24 : Int)))) h1) (R (.bool false) h1)) (R (.bool false) h1)) (R (.bool false) h1)) (R (.bool false) h1)) (R (.bool false) h1)
noncomputable def wellspringref01_May_ann : Ann := .n
theorem wellspringref01_May_eq (p_0 : Int × Int × Int) (R : Value → Heap → Prop) (h : Heap) : fnV C Tryz.f33 300 wellspringref01_May_ann [(.agg #[(.int .i64 p_0.1), (.int .i64 p_0.2.1), (.int .i64 p_0.2.2)])] R h = wellspringref01_May_m p_0 R h := by kernel_rfl
theorem wellspringref01_May_run (p_0 : Int × Int × Int) {R : Value → Heap → Prop} {h : Heap} (hm : wellspringref01_May_m p_0 R h) : Meets Tryz.prog 33 #[(.agg #[(.int .i64 p_0.1), (.int .i64 p_0.2.1), (.int .i64 p_0.2.2)])] h R :=
  fn_spec C_ok (f := 33) (fn := Tryz.f33) (args := [(.agg #[(.int .i64 p_0.1), (.int .i64 p_0.2.1), (.int .i64 p_0.2.2)])]) Tryz.func33 (by rw [Tryz.ntmps33]; exact Nat.le_of_ble_eq_true rfl) (cast (wellspringref01_May_eq p_0 R h).symm hm)
/-- wellspring/wellspringref21.All -/
abbrev wellspringref21_All_id : FuncId := 34
noncomputable def wellspringref21_All_m (n_0 : Int) (t_1 : Int) (R : Value → Heap → Prop) (h : Heap) : Prop :=
  CallM Tryz.prog 58 #[(.int .i64 n_0), (.int .i64 t_1)] (.one (.sc (.int .i64))) h fun r1 h1 =>
  Br (r1 == (0 : Int))
  (R (.tuple #[(.slice none 0 0), (.int .i64 (1 : Int))]) h1)
  (Br (decide (r1 > (4096 : Int)))
  (R (.tuple #[(.slice none 0 0), (.int .i64 (13 : Int))]) h1)
  (CallM Tryz.prog 59 #[(.int .i64 (0 : Int)), (.int .i64 n_0), (.int .i64 t_1)] (.one (.sc .slc)) h1 fun r2 h2 =>
  R (.tuple #[(.slice r2.ptr r2.len r2.cap), (.int .i64 (0 : Int))]) h2))
noncomputable def wellspringref21_All_ann : Ann := .n
theorem wellspringref21_All_eq (n_0 : Int) (t_1 : Int) (R : Value → Heap → Prop) (h : Heap) : fnV C Tryz.f34 300 wellspringref21_All_ann [(.int .i64 n_0), (.int .i64 t_1)] R h = wellspringref21_All_m n_0 t_1 R h := by kernel_rfl
theorem wellspringref21_All_run (n_0 : Int) (t_1 : Int) {R : Value → Heap → Prop} {h : Heap} (hm : wellspringref21_All_m n_0 t_1 R h) : Meets Tryz.prog 34 #[(.int .i64 n_0), (.int .i64 t_1)] h R :=
  fn_spec C_ok (f := 34) (fn := Tryz.f34) (args := [(.int .i64 n_0), (.int .i64 t_1)]) Tryz.func34 (by rw [Tryz.ntmps34]; exact Nat.le_of_ble_eq_true rfl) (cast (wellspringref21_All_eq n_0 t_1 R h).symm hm)
/-- wellspring/wellspringref01.Full -/
abbrev wellspringref01_Full_id : FuncId := 35
noncomputable def wellspringref01_Full_m (p_0 : Int × Int × Int) (seed_1 : Int) (ids_2 : Sl) (R : Value → Heap → Prop) (h : Heap) : Prop :=
  RunsA Tryz.prog (Instr.box 23 (.agg #[(.int .i64 p_0.1), (.int .i64 p_0.2.1), (.int .i64 p_0.2.2)])) h fun a1 h1 =>
  ∃ x2 : Int × Int × Int, cellsAt h1 a1 0 [(.int .i64 x2.1), (.int .i64 x2.2.1), (.int .i64 x2.2.2)] ∧
  CallM Tryz.prog 33 #[(.agg #[(.int .i64 x2.1), (.int .i64 x2.2.1), (.int .i64 x2.2.2)])] (.one (.sc .bool)) h1 fun r3 h2 =>
  (Held.ok [] h2) ∧
  Br r3 (∃ x4 : Int × Int × Int, cellsAt h2 a1 0 [(.int .i64 x4.1), (.int .i64 x4.2.1), (.int .i64 x4.2.2)] ∧
  ∃ x5 : Int × Int × Int, cellsAt h2 a1 0 [(.int .i64 x5.1), (.int .i64 x5.2.1), (.int .i64 x5.2.2)] ∧
  CallM Tryz.prog 22 #[(.agg #[(.int .i64 x4.1), (.int .i64 x4.2.1), (.int .i64 x4.2.2)]), (.int .u32 seed_1), (.slice ids_2.ptr ids_2.len ids_2.cap)] (.one (.sc (.int .i64))) h2 fun r6 h3 =>
  (Held.ok [(a1, (.int .i64 x5.1)), (a1.add 1, (.int .i64 x5.2.1)), (a1.add 2, (.int .i64 x5.2.2))] h3) ∧
  CallM Tryz.prog 60 #[(.agg #[(.int .i64 x5.1), (.int .i64 x5.2.1), (.int .i64 x5.2.2)])] (.one (.sc (.int .i64))) h3 fun r7 h4 =>
  (Held.ok [] h4) ∧
  R (.bool (r6 == r7)) h4) ((Held.ok [] h2) ∧
  (Held.ok [] h2) ∧
  R (.bool false) h2)
noncomputable def wellspringref01_Full_ann : Ann := .n
theorem wellspringref01_Full_eq (p_0 : Int × Int × Int) (seed_1 : Int) (ids_2 : Sl) (R : Value → Heap → Prop) (h : Heap) : fnV C Tryz.f35 300 wellspringref01_Full_ann [(.agg #[(.int .i64 p_0.1), (.int .i64 p_0.2.1), (.int .i64 p_0.2.2)]), (.int .u32 seed_1), (.slice ids_2.ptr ids_2.len ids_2.cap)] R h = wellspringref01_Full_m p_0 seed_1 ids_2 R h := by kernel_rfl
theorem wellspringref01_Full_run (p_0 : Int × Int × Int) (seed_1 : Int) (ids_2 : Sl) {R : Value → Heap → Prop} {h : Heap} (hm : wellspringref01_Full_m p_0 seed_1 ids_2 R h) : Meets Tryz.prog 35 #[(.agg #[(.int .i64 p_0.1), (.int .i64 p_0.2.1), (.int .i64 p_0.2.2)]), (.int .u32 seed_1), (.slice ids_2.ptr ids_2.len ids_2.cap)] h R :=
  fn_spec C_ok (f := 35) (fn := Tryz.f35) (args := [(.agg #[(.int .i64 p_0.1), (.int .i64 p_0.2.1), (.int .i64 p_0.2.2)]), (.int .u32 seed_1), (.slice ids_2.ptr ids_2.len ids_2.cap)]) Tryz.func35 (by rw [Tryz.ntmps35]; exact Nat.le_of_ble_eq_true rfl) (cast (wellspringref01_Full_eq p_0 seed_1 ids_2 R h).symm hm)
/-- wellspring/system.Full -/
abbrev system_Full_id : FuncId := 36
noncomputable def system_Full_m (p_0 : Int × Int × Int) (seed_1 : Int) (ids_2 : Sl) (R : Value → Heap → Prop) (h : Heap) : Prop :=
  RunsA Tryz.prog (Instr.box 23 (.agg #[(.int .i64 p_0.1), (.int .i64 p_0.2.1), (.int .i64 p_0.2.2)])) h fun a1 h1 =>
  ∃ x2 : Int × Int × Int, cellsAt h1 a1 0 [(.int .i64 x2.1), (.int .i64 x2.2.1), (.int .i64 x2.2.2)] ∧
  CallM Tryz.prog 24 #[(.agg #[(.int .i64 x2.1), (.int .i64 x2.2.1), (.int .i64 x2.2.2)])] (.one (.sc .bool)) h1 fun r3 h2 =>
  (Held.ok [] h2) ∧
  Br r3 (∃ x4 : Int × Int × Int, cellsAt h2 a1 0 [(.int .i64 x4.1), (.int .i64 x4.2.1), (.int .i64 x4.2.2)] ∧
  ∃ x5 : Int × Int × Int, cellsAt h2 a1 0 [(.int .i64 x5.1), (.int .i64 x5.2.1), (.int .i64 x5.2.2)] ∧
  CallM Tryz.prog 21 #[(.agg #[(.int .i64 x4.1), (.int .i64 x4.2.1), (.int .i64 x4.2.2)]), (.int .u32 seed_1), (.slice ids_2.ptr ids_2.len ids_2.cap)] (.one (.sc (.int .i64))) h2 fun r6 h3 =>
  (Held.ok [(a1, (.int .i64 x5.1)), (a1.add 1, (.int .i64 x5.2.1)), (a1.add 2, (.int .i64 x5.2.2))] h3) ∧
  CallM Tryz.prog 26 #[(.agg #[(.int .i64 x5.1), (.int .i64 x5.2.1), (.int .i64 x5.2.2)])] (.one (.sc (.int .i64))) h3 fun r7 h4 =>
  (Held.ok [] h4) ∧
  R (.bool (r6 == r7)) h4) ((Held.ok [] h2) ∧
  (Held.ok [] h2) ∧
  R (.bool false) h2)
noncomputable def system_Full_ann : Ann := .n
theorem system_Full_eq (p_0 : Int × Int × Int) (seed_1 : Int) (ids_2 : Sl) (R : Value → Heap → Prop) (h : Heap) : fnV C Tryz.f36 300 system_Full_ann [(.agg #[(.int .i64 p_0.1), (.int .i64 p_0.2.1), (.int .i64 p_0.2.2)]), (.int .u32 seed_1), (.slice ids_2.ptr ids_2.len ids_2.cap)] R h = system_Full_m p_0 seed_1 ids_2 R h := by kernel_rfl
theorem system_Full_run (p_0 : Int × Int × Int) (seed_1 : Int) (ids_2 : Sl) {R : Value → Heap → Prop} {h : Heap} (hm : system_Full_m p_0 seed_1 ids_2 R h) : Meets Tryz.prog 36 #[(.agg #[(.int .i64 p_0.1), (.int .i64 p_0.2.1), (.int .i64 p_0.2.2)]), (.int .u32 seed_1), (.slice ids_2.ptr ids_2.len ids_2.cap)] h R :=
  fn_spec C_ok (f := 36) (fn := Tryz.f36) (args := [(.agg #[(.int .i64 p_0.1), (.int .i64 p_0.2.1), (.int .i64 p_0.2.2)]), (.int .u32 seed_1), (.slice ids_2.ptr ids_2.len ids_2.cap)]) Tryz.func36 (by rw [Tryz.ntmps36]; exact Nat.le_of_ble_eq_true rfl) (cast (system_Full_eq p_0 seed_1 ids_2 R h).symm hm)
/-- wellspring/system.First -/
abbrev system_First_id : FuncId := 37
noncomputable def system_First_m (p_0 : Int × Int × Int) (R : Value → Heap → Prop) (h : Heap) : Prop :=
  RunsA Tryz.prog (Instr.box 23 (.agg #[(.int .i64 p_0.1), (.int .i64 p_0.2.1), (.int .i64 p_0.2.2)])) h fun a1 h1 =>
  ∃ x2 : Int, cellOf h1 a1 = some (.int .i64 x2) ∧
  LoopM (σ := Sl × Int) (fun s3 K1 h2 =>
  Br (decide (s3.2 < (if (if (16 : Int) < x2 then (16 : Int) else x2) > (0 : Int) then (if (16 : Int) < x2 then (16 : Int) else x2) else (0 : Int))))
  (RunsR Tryz.prog (Instr.buildSlice 25 1 #[(0, (.int .i64 s3.2))]) (.one (.sc .slc)) h2 fun v4 h3 =>
  RunsR Tryz.prog (Builtin.append_ #[25, 25] 25 #[(.slice s3.1.ptr s3.1.len s3.1.cap), (.slice v4.ptr v4.len v4.cap)]) (.one (.sc .slc)) h3 fun v5 h4 =>
  K1 ((⟨v5.ptr, v5.len, v5.cap⟩ : Sl), IntKind.wrap .i64 (s3.2 + (1 : Int))) h4)
  (R (.slice s3.1.ptr s3.1.len s3.1.cap) h2)) ((⟨none, 0, 0⟩ : Sl), (0 : Int)) h1
noncomputable def system_First_ann : Ann := (.two .n (.two .n (.two (.two .n (.inn (.loop [(3, (.sc .slc)), (9, (.sc (.int .i64)))] [(3, 5), (9, 17)] .n))) .n)))
theorem system_First_eq (p_0 : Int × Int × Int) (R : Value → Heap → Prop) (h : Heap) : fnV C Tryz.f37 300 system_First_ann [(.agg #[(.int .i64 p_0.1), (.int .i64 p_0.2.1), (.int .i64 p_0.2.2)])] R h = system_First_m p_0 R h := by kernel_rfl
theorem system_First_run (p_0 : Int × Int × Int) {R : Value → Heap → Prop} {h : Heap} (hm : system_First_m p_0 R h) : Meets Tryz.prog 37 #[(.agg #[(.int .i64 p_0.1), (.int .i64 p_0.2.1), (.int .i64 p_0.2.2)])] h R :=
  fn_spec C_ok (f := 37) (fn := Tryz.f37) (args := [(.agg #[(.int .i64 p_0.1), (.int .i64 p_0.2.1), (.int .i64 p_0.2.2)])]) Tryz.func37 (by rw [Tryz.ntmps37]; exact Nat.le_of_ble_eq_true rfl) (cast (system_First_eq p_0 R h).symm hm)
/-- slices.Index[[]int,int] -/
abbrev slices_Index_int_int_id : FuncId := 38
noncomputable def slices_Index_int_int_m (s_0 : Sl) (v_1 : Int) (R : Value → Heap → Prop) (h : Heap) : Prop :=
  LoopM (σ := Int) (fun s1 K1 h1 =>
  Br (decide (s1 < ((s_0.len : Nat) : Int)))
  (∃ a2 : Addr, (s_0.ptr = some a2 ∧ 0 ≤ s1 ∧ s1 < ((s_0.len : Nat) : Int)) ∧
  ∃ x3 : Int, cellOf h1 (a2.add (s1.toNat * 1)) = some (.int .i64 x3) ∧
  Br (v_1 == x3)
  (R (.int .i64 s1) h1)
  (K1 (IntKind.wrap .i64 (s1 + (1 : Int))) h1))
  (R (.int .i64 (-1 : Int)) h1)) (0 : Int) h
noncomputable def slices_Index_int_int_ann : Ann := (.two .n (.two (.two .n (.inn (.loop [(8, (.sc (.int .i64)))] [(4, 6), (8, 19)] .n))) .n))
theorem slices_Index_int_int_eq (s_0 : Sl) (v_1 : Int) (R : Value → Heap → Prop) (h : Heap) : fnV C Tryz.f38 300 slices_Index_int_int_ann [(.slice s_0.ptr s_0.len s_0.cap), (.int .i64 v_1)] R h = slices_Index_int_int_m s_0 v_1 R h := by kernel_rfl
theorem slices_Index_int_int_run (s_0 : Sl) (v_1 : Int) {R : Value → Heap → Prop} {h : Heap} (hm : slices_Index_int_int_m s_0 v_1 R h) : Meets Tryz.prog 38 #[(.slice s_0.ptr s_0.len s_0.cap), (.int .i64 v_1)] h R :=
  fn_spec C_ok (f := 38) (fn := Tryz.f38) (args := [(.slice s_0.ptr s_0.len s_0.cap), (.int .i64 v_1)]) Tryz.func38 (by rw [Tryz.ntmps38]; exact Nat.le_of_ble_eq_true rfl) (cast (slices_Index_int_int_eq s_0 v_1 R h).symm hm)
/-- wellspring/mat.Rank -/
abbrev mat_Rank_id : FuncId := 39
noncomputable def mat_Rank_m (f_0 : Option Addr) (a_1 : Sl) (R : Value → Heap → Prop) (h : Heap) : Prop :=
  CallM Tryz.prog 54 #[(.pointer f_0), (.slice a_1.ptr a_1.len a_1.cap)] (.one (.sc .slc)) h fun r1 h1 =>
  R (.int .i64 ((r1.len : Nat) : Int)) h1
noncomputable def mat_Rank_ann : Ann := .n
theorem mat_Rank_eq (f_0 : Option Addr) (a_1 : Sl) (R : Value → Heap → Prop) (h : Heap) : fnV C Tryz.f39 300 mat_Rank_ann [(.pointer f_0), (.slice a_1.ptr a_1.len a_1.cap)] R h = mat_Rank_m f_0 a_1 R h := by kernel_rfl
theorem mat_Rank_run (f_0 : Option Addr) (a_1 : Sl) {R : Value → Heap → Prop} {h : Heap} (hm : mat_Rank_m f_0 a_1 R h) : Meets Tryz.prog 39 #[(.pointer f_0), (.slice a_1.ptr a_1.len a_1.cap)] h R :=
  fn_spec C_ok (f := 39) (fn := Tryz.f39) (args := [(.pointer f_0), (.slice a_1.ptr a_1.len a_1.cap)]) Tryz.func39 (by rw [Tryz.ntmps39]; exact Nat.le_of_ble_eq_true rfl) (cast (mat_Rank_eq f_0 a_1 R h).symm hm)
/-- wellspring/system.Matrix -/
abbrev system_Matrix_id : FuncId := 40
noncomputable def system_Matrix_m (p_0 : Int × Int × Int) (seed_1 : Int) (ids_2 : Sl) (R : Value → Heap → Prop) (h : Heap) : Prop :=
  RunsA Tryz.prog (Instr.box 23 (.agg #[(.int .i64 p_0.1), (.int .i64 p_0.2.1), (.int .i64 p_0.2.2)])) h fun a1 h1 =>
  ∃ x2 : Int × Int × Int, cellsAt h1 a1 0 [(.int .i64 x2.1), (.int .i64 x2.2.1), (.int .i64 x2.2.2)] ∧
  CallM Tryz.prog 29 #[(.agg #[(.int .i64 x2.1), (.int .i64 x2.2.1), (.int .i64 x2.2.2)])] (.one (.sc .slc)) h1 fun r3 h2 =>
  LoopM (σ := Sl × Int) (fun s4 K1 h3 =>
  Br (decide (s4.2 < ((ids_2.len : Nat) : Int)))
  (∃ a5 : Addr, (ids_2.ptr = some a5 ∧ 0 ≤ s4.2 ∧ s4.2 < ((ids_2.len : Nat) : Int)) ∧
  ∃ x6 : Int, cellOf h3 (a5.add (s4.2.toNat * 1)) = some (.int .i64 x6) ∧
  ∃ x7 : Int × Int × Int, cellsAt h3 a1 0 [(.int .i64 x7.1), (.int .i64 x7.2.1), (.int .i64 x7.2.2)] ∧
  CallM Tryz.prog 55 #[(.agg #[(.int .i64 x7.1), (.int .i64 x7.2.1), (.int .i64 x7.2.2)]), (.int .u32 seed_1), (.int .i64 x6)] (.one (.sc .slc)) h3 fun r8 h4 =>
  Br (!(Option.isNone r8.ptr))
  (RunsR Tryz.prog (Instr.buildSlice 56 1 #[(0, (.slice r8.ptr r8.len r8.cap))]) (.one (.sc .slc)) h4 fun v9 h5 =>
  RunsR Tryz.prog (Builtin.append_ #[56, 56] 56 #[(.slice s4.1.ptr s4.1.len s4.1.cap), (.slice v9.ptr v9.len v9.cap)]) (.one (.sc .slc)) h5 fun v10 h6 =>
  K1 ((⟨v10.ptr, v10.len, v10.cap⟩ : Sl), IntKind.wrap .i64 (s4.2 + (1 : Int))) h6)
  (K1 ((⟨s4.1.ptr, s4.1.len, s4.1.cap⟩ : Sl), IntKind.wrap .i64 (s4.2 + (1 : Int))) h4))
  (R (.slice s4.1.ptr s4.1.len s4.1.cap) h3)) ((⟨r3.ptr, r3.len, r3.cap⟩ : Sl), (0 : Int)) h2
noncomputable def system_Matrix_ann : Ann := (.two .n (.two .n (.two (.two .n (.inn (.loop [(7, (.sc .slc)), (15, (.sc (.int .i64)))] [(7, 8), (9, 11), (15, 30)] .n))) .n)))
theorem system_Matrix_eq (p_0 : Int × Int × Int) (seed_1 : Int) (ids_2 : Sl) (R : Value → Heap → Prop) (h : Heap) : fnV C Tryz.f40 300 system_Matrix_ann [(.agg #[(.int .i64 p_0.1), (.int .i64 p_0.2.1), (.int .i64 p_0.2.2)]), (.int .u32 seed_1), (.slice ids_2.ptr ids_2.len ids_2.cap)] R h = system_Matrix_m p_0 seed_1 ids_2 R h := by kernel_rfl
theorem system_Matrix_run (p_0 : Int × Int × Int) (seed_1 : Int) (ids_2 : Sl) {R : Value → Heap → Prop} {h : Heap} (hm : system_Matrix_m p_0 seed_1 ids_2 R h) : Meets Tryz.prog 40 #[(.agg #[(.int .i64 p_0.1), (.int .i64 p_0.2.1), (.int .i64 p_0.2.2)]), (.int .u32 seed_1), (.slice ids_2.ptr ids_2.len ids_2.cap)] h R :=
  fn_spec C_ok (f := 40) (fn := Tryz.f40) (args := [(.agg #[(.int .i64 p_0.1), (.int .i64 p_0.2.1), (.int .i64 p_0.2.2)]), (.int .u32 seed_1), (.slice ids_2.ptr ids_2.len ids_2.cap)]) Tryz.func40 (by rw [Tryz.ntmps40]; exact Nat.le_of_ble_eq_true rfl) (cast (system_Matrix_eq p_0 seed_1 ids_2 R h).symm hm)
/-- wellspring/wellspringref01.Rank -/
abbrev wellspringref01_Rank_id : FuncId := 41
noncomputable def wellspringref01_Rank_m (a_0 : Sl) (R : Value → Heap → Prop) (h : Heap) : Prop :=
  CallM Tryz.prog 61 #[(.slice a_0.ptr a_0.len a_0.cap)] (.one (.sc .slc)) h fun r1 h1 =>
  R (.int .i64 ((r1.len : Nat) : Int)) h1
noncomputable def wellspringref01_Rank_ann : Ann := .n
theorem wellspringref01_Rank_eq (a_0 : Sl) (R : Value → Heap → Prop) (h : Heap) : fnV C Tryz.f41 300 wellspringref01_Rank_ann [(.slice a_0.ptr a_0.len a_0.cap)] R h = wellspringref01_Rank_m a_0 R h := by kernel_rfl
theorem wellspringref01_Rank_run (a_0 : Sl) {R : Value → Heap → Prop} {h : Heap} (hm : wellspringref01_Rank_m a_0 R h) : Meets Tryz.prog 41 #[(.slice a_0.ptr a_0.len a_0.cap)] h R :=
  fn_spec C_ok (f := 41) (fn := Tryz.f41) (args := [(.slice a_0.ptr a_0.len a_0.cap)]) Tryz.func41 (by rw [Tryz.ntmps41]; exact Nat.le_of_ble_eq_true rfl) (cast (wellspringref01_Rank_eq a_0 R h).symm hm)
/-- wellspring/wellspringref01.Matrix -/
abbrev wellspringref01_Matrix_id : FuncId := 42
noncomputable def wellspringref01_Matrix_m (p_0 : Int × Int × Int) (seed_1 : Int) (ids_2 : Sl) (R : Value → Heap → Prop) (h : Heap) : Prop :=
  RunsA Tryz.prog (Instr.box 23 (.agg #[(.int .i64 p_0.1), (.int .i64 p_0.2.1), (.int .i64 p_0.2.2)])) h fun a1 h1 =>
  ∃ x2 : Int × Int × Int, cellsAt h1 a1 0 [(.int .i64 x2.1), (.int .i64 x2.2.1), (.int .i64 x2.2.2)] ∧
  CallM Tryz.prog 33 #[(.agg #[(.int .i64 x2.1), (.int .i64 x2.2.1), (.int .i64 x2.2.2)])] (.one (.sc .bool)) h1 fun r3 h2 =>
  Br (!r3)
  (R (.slice none 0 0) h2)
  (∃ x4 : Int × Int × Int, cellsAt h2 a1 0 [(.int .i64 x4.1), (.int .i64 x4.2.1), (.int .i64 x4.2.2)] ∧
  CallM Tryz.prog 62 #[(.agg #[(.int .i64 x4.1), (.int .i64 x4.2.1), (.int .i64 x4.2.2)])] (.one (.sc .slc)) h2 fun r5 h3 =>
  LoopM (σ := Sl × Int) (fun s6 K1 h4 =>
  Br (decide (s6.2 < ((ids_2.len : Nat) : Int)))
  (∃ a7 : Addr, (ids_2.ptr = some a7 ∧ 0 ≤ s6.2 ∧ s6.2 < ((ids_2.len : Nat) : Int)) ∧
  ∃ x8 : Int, cellOf h4 (a7.add (s6.2.toNat * 1)) = some (.int .i64 x8) ∧
  CallM Tryz.prog 63 #[(.int .i64 x8)] (.one (.sc .bool)) h4 fun r9 h5 =>
  Br r9
  (∃ x10 : Int × Int × Int, cellsAt h5 a1 0 [(.int .i64 x10.1), (.int .i64 x10.2.1), (.int .i64 x10.2.2)] ∧
  CallM Tryz.prog 64 #[(.agg #[(.int .i64 x10.1), (.int .i64 x10.2.1), (.int .i64 x10.2.2)]), (.int .u32 seed_1), (.int .i64 x8)] (.one (.sc .slc)) h5 fun r11 h6 =>
  RunsR Tryz.prog (Instr.buildSlice 56 1 #[(0, (.slice r11.ptr r11.len r11.cap))]) (.one (.sc .slc)) h6 fun v12 h7 =>
  RunsR Tryz.prog (Builtin.append_ #[56, 56] 56 #[(.slice s6.1.ptr s6.1.len s6.1.cap), (.slice v12.ptr v12.len v12.cap)]) (.one (.sc .slc)) h7 fun v13 h8 =>
  K1 ((⟨v13.ptr, v13.len, v13.cap⟩ : Sl), IntKind.wrap .i64 (s6.2 + (1 : Int))) h8)
  (K1 ((⟨s6.1.ptr, s6.1.len, s6.1.cap⟩ : Sl), IntKind.wrap .i64 (s6.2 + (1 : Int))) h5))
  (R (.slice s6.1.ptr s6.1.len s6.1.cap) h4)) ((⟨r5.ptr, r5.len, r5.cap⟩ : Sl), (0 : Int)) h3)
noncomputable def wellspringref01_Matrix_ann : Ann := (.two .n (.two .n (.two .n (.two (.two .n (.inn (.loop [(7, (.sc .slc)), (17, (.sc (.int .i64)))] [(7, 8), (9, 10), (17, 31)] .n))) .n))))
theorem wellspringref01_Matrix_eq (p_0 : Int × Int × Int) (seed_1 : Int) (ids_2 : Sl) (R : Value → Heap → Prop) (h : Heap) : fnV C Tryz.f42 300 wellspringref01_Matrix_ann [(.agg #[(.int .i64 p_0.1), (.int .i64 p_0.2.1), (.int .i64 p_0.2.2)]), (.int .u32 seed_1), (.slice ids_2.ptr ids_2.len ids_2.cap)] R h = wellspringref01_Matrix_m p_0 seed_1 ids_2 R h := by kernel_rfl
theorem wellspringref01_Matrix_run (p_0 : Int × Int × Int) (seed_1 : Int) (ids_2 : Sl) {R : Value → Heap → Prop} {h : Heap} (hm : wellspringref01_Matrix_m p_0 seed_1 ids_2 R h) : Meets Tryz.prog 42 #[(.agg #[(.int .i64 p_0.1), (.int .i64 p_0.2.1), (.int .i64 p_0.2.2)]), (.int .u32 seed_1), (.slice ids_2.ptr ids_2.len ids_2.cap)] h R :=
  fn_spec C_ok (f := 42) (fn := Tryz.f42) (args := [(.agg #[(.int .i64 p_0.1), (.int .i64 p_0.2.1), (.int .i64 p_0.2.2)]), (.int .u32 seed_1), (.slice ids_2.ptr ids_2.len ids_2.cap)]) Tryz.func42 (by rw [Tryz.ntmps42]; exact Nat.le_of_ble_eq_true rfl) (cast (wellspringref01_Matrix_eq p_0 seed_1 ids_2 R h).symm hm)
/-- wellspring/wellspringkeep.Member[int] -/
abbrev wellspringkeep_Member_int_id : FuncId := 43
noncomputable def wellspringkeep_Member_int_m (l_0 : Sl) (x_1 : Int) (R : Value → Heap → Prop) (h : Heap) : Prop :=
  LoopM (σ := Int) (fun s1 K1 h1 =>
  Br (decide (s1 < ((l_0.len : Nat) : Int)))
  (∃ a2 : Addr, (l_0.ptr = some a2 ∧ 0 ≤ s1 ∧ s1 < ((l_0.len : Nat) : Int)) ∧
  ∃ x3 : Int, cellOf h1 (a2.add (s1.toNat * 1)) = some (.int .i64 x3) ∧
  Br (x3 == x_1)
  (R (.bool true) h1)
  (K1 (IntKind.wrap .i64 (s1 + (1 : Int))) h1))
  (R (.bool false) h1)) (0 : Int) h
noncomputable def wellspringkeep_Member_int_ann : Ann := (.two .n (.two (.two .n (.inn (.loop [(8, (.sc (.int .i64)))] [(4, 6), (8, 18)] .n))) .n))
theorem wellspringkeep_Member_int_eq (l_0 : Sl) (x_1 : Int) (R : Value → Heap → Prop) (h : Heap) : fnV C Tryz.f43 300 wellspringkeep_Member_int_ann [(.slice l_0.ptr l_0.len l_0.cap), (.int .i64 x_1)] R h = wellspringkeep_Member_int_m l_0 x_1 R h := by kernel_rfl
theorem wellspringkeep_Member_int_run (l_0 : Sl) (x_1 : Int) {R : Value → Heap → Prop} {h : Heap} (hm : wellspringkeep_Member_int_m l_0 x_1 R h) : Meets Tryz.prog 43 #[(.slice l_0.ptr l_0.len l_0.cap), (.int .i64 x_1)] h R :=
  fn_spec C_ok (f := 43) (fn := Tryz.f43) (args := [(.slice l_0.ptr l_0.len l_0.cap), (.int .i64 x_1)]) Tryz.func43 (by rw [Tryz.ntmps43]; exact Nat.le_of_ble_eq_true rfl) (cast (wellspringkeep_Member_int_eq l_0 x_1 R h).symm hm)
/-- wellspring/sets.right -/
abbrev sets_right_id : FuncId := 44
noncomputable def sets_right_m (n_0 : Int) (t_1 : Int) (R : Value → Heap → Prop) (h : Heap) : Prop :=
  Br (decide (n_0 ≥ (0 : Int))) (Br (decide (n_0 ≤ (64 : Int))) (Br (decide (t_1 ≥ (0 : Int))) (R (.bool (decide (t_1 ≤ n_0))) h) (R (.bool false) h)) (R (.bool false) h)) (R (.bool false) h)
noncomputable def sets_right_ann : Ann := .n
theorem sets_right_eq (n_0 : Int) (t_1 : Int) (R : Value → Heap → Prop) (h : Heap) : fnV C Tryz.f44 300 sets_right_ann [(.int .i64 n_0), (.int .i64 t_1)] R h = sets_right_m n_0 t_1 R h := by kernel_rfl
theorem sets_right_run (n_0 : Int) (t_1 : Int) {R : Value → Heap → Prop} {h : Heap} (hm : sets_right_m n_0 t_1 R h) : Meets Tryz.prog 44 #[(.int .i64 n_0), (.int .i64 t_1)] h R :=
  fn_spec C_ok (f := 44) (fn := Tryz.f44) (args := [(.int .i64 n_0), (.int .i64 t_1)]) Tryz.func44 (by rw [Tryz.ntmps44]; exact Nat.le_of_ble_eq_true rfl) (cast (sets_right_eq n_0 t_1 R h).symm hm)
/-- wellspring/sets.Count -/
abbrev sets_Count_id : FuncId := 45
noncomputable def sets_Count_m (n_0 : Int) (t_1 : Int) (R : Value → Heap → Prop) (h : Heap) : Prop :=
  CallM Tryz.prog 44 #[(.int .i64 n_0), (.int .i64 t_1)] (.one (.sc .bool)) h fun r1 h1 =>
  Br (!r1)
  (R (.int .i64 (0 : Int)) h1)
  (LoopM (σ := Int × Int) (fun s2 K1 h2 =>
  Br (decide (s2.2 < (if (IntKind.wrap .i64 (n_0 - t_1)) < t_1 then IntKind.wrap .i64 (n_0 - t_1) else t_1)))
  (((IntKind.wrap .i64 (s2.2 + (1 : Int))) ≠ 0) ∧
  Br (decide ((IntKind.wrap .i64 (Int.tdiv (IntKind.wrap .i64 (s2.1 * (IntKind.wrap .i64 (n_0 - s2.2)))) (IntKind.wrap .i64 (s2.2 + (1 : Int))))) > (4096 : Int)))
  (R (.int .i64 (4097 : Int)) h2)
  (K1 (IntKind.wrap .i64 (Int.tdiv (IntKind.wrap .i64 (s2.1 * (IntKind.wrap .i64 (n_0 - s2.2)))) (IntKind.wrap .i64 (s2.2 + (1 : Int)))), IntKind.wrap .i64 (s2.2 + (1 : Int))) h2))
  (R (.int .i64 s2.1) h2)) ((1 : Int), (0 : Int)) h1)
noncomputable def sets_Count_ann : Ann := (.two .n (.two .n (.two .n (.two (.two .n (.inn (.loop [(5, (.sc (.int .i64))), (16, (.sc (.int .i64)))] [(4, 7), (16, 30)] .n))) .n))))
theorem sets_Count_eq (n_0 : Int) (t_1 : Int) (R : Value → Heap → Prop) (h : Heap) : fnV C Tryz.f45 300 sets_Count_ann [(.int .i64 n_0), (.int .i64 t_1)] R h = sets_Count_m n_0 t_1 R h := by kernel_rfl
theorem sets_Count_run (n_0 : Int) (t_1 : Int) {R : Value → Heap → Prop} {h : Heap} (hm : sets_Count_m n_0 t_1 R h) : Meets Tryz.prog 45 #[(.int .i64 n_0), (.int .i64 t_1)] h R :=
  fn_spec C_ok (f := 45) (fn := Tryz.f45) (args := [(.int .i64 n_0), (.int .i64 t_1)]) Tryz.func45 (by rw [Tryz.ntmps45]; exact Nat.le_of_ble_eq_true rfl) (cast (sets_Count_eq n_0 t_1 R h).symm hm)
/-- slices.Clone[[]int,int] -/
abbrev slices_Clone_int_int_id : FuncId := 46
noncomputable def slices_Clone_int_int_m (s_0 : Sl) (R : Value → Heap → Prop) (h : Heap) : Prop :=
  Br (Option.isNone s_0.ptr)
  (R (.slice none 0 0) h)
  (RunsR Tryz.prog (Instr.buildSlice 25 0 #[]) (.one (.sc .slc)) h fun v1 h1 =>
  RunsR Tryz.prog (Builtin.append_ #[25, 25] 25 #[(.slice v1.ptr v1.len v1.cap), (.slice s_0.ptr s_0.len s_0.cap)]) (.one (.sc .slc)) h1 fun v2 h2 =>
  R (.slice v2.ptr v2.len v2.cap) h2)
noncomputable def slices_Clone_int_int_ann : Ann := .n
theorem slices_Clone_int_int_eq (s_0 : Sl) (R : Value → Heap → Prop) (h : Heap) : fnV C Tryz.f46 300 slices_Clone_int_int_ann [(.slice s_0.ptr s_0.len s_0.cap)] R h = slices_Clone_int_int_m s_0 R h := by kernel_rfl
theorem slices_Clone_int_int_run (s_0 : Sl) {R : Value → Heap → Prop} {h : Heap} (hm : slices_Clone_int_int_m s_0 R h) : Meets Tryz.prog 46 #[(.slice s_0.ptr s_0.len s_0.cap)] h R :=
  fn_spec C_ok (f := 46) (fn := Tryz.f46) (args := [(.slice s_0.ptr s_0.len s_0.cap)]) Tryz.func46 (by rw [Tryz.ntmps46]; exact Nat.le_of_ble_eq_true rfl) (cast (slices_Clone_int_int_eq s_0 R h).symm hm)
/-- wellspring/sets.next -/
abbrev sets_next_id : FuncId := 47
noncomputable def sets_next_m (l_0 : Sl) (n_1 : Int) (R : Value → Heap → Prop) (h : Heap) : Prop :=
  LoopM (σ := Int) (fun s1 K1 h1 =>
  Br (decide (s1 ≥ (0 : Int)))
  (∃ a2 : Addr, (l_0.ptr = some a2 ∧ 0 ≤ s1 ∧ s1 < ((l_0.len : Nat) : Int)) ∧
  ∃ x3 : Int, cellOf h1 (a2.add (s1.toNat * 1)) = some (.int .i64 x3) ∧
  Br (decide (x3 < (IntKind.wrap .i64 ((IntKind.wrap .i64 (n_1 - ((l_0.len : Nat) : Int))) + s1))))
  (∃ a4 : Addr, (l_0.ptr = some a4 ∧ 0 ≤ s1 ∧ s1 < ((l_0.len : Nat) : Int)) ∧
  ∃ x5 : Int, cellOf h1 (a4.add (s1.toNat * 1)) = some (.int .i64 x5) ∧
  ∃ a6 : Addr, (l_0.ptr = some a6 ∧ 0 ≤ s1 ∧ s1 < ((l_0.len : Nat) : Int)) ∧
  Runs Tryz.prog (Instr.storeAt 3 (.pointer (some (a6.add (s1.toNat * 1)))) (.int .i64 (IntKind.wrap .i64 (x5 + (1 : Int))))) h1 fun _ h2 =>
  LoopM (σ := Int) (fun s7 K2 h3 =>
  Br (decide (s7 < ((l_0.len : Nat) : Int)))
  (∃ a8 : Addr, (l_0.ptr = some a8 ∧ 0 ≤ (IntKind.wrap .i64 (s7 - (1 : Int))) ∧ (IntKind.wrap .i64 (s7 - (1 : Int))) < ((l_0.len : Nat) : Int)) ∧
  ∃ x9 : Int, cellOf h3 (a8.add ((IntKind.wrap .i64 (s7 - (1 : Int))).toNat * 1)) = some (.int .i64 x9) ∧
  ∃ a10 : Addr, (l_0.ptr = some a10 ∧ 0 ≤ s7 ∧ s7 < ((l_0.len : Nat) : Int)) ∧
  Runs Tryz.prog (Instr.storeAt 3 (.pointer (some (a10.add (s7.toNat * 1)))) (.int .i64 (IntKind.wrap .i64 (x9 + (1 : Int))))) h3 fun _ h4 =>
  K2 (IntKind.wrap .i64 (s7 + (1 : Int))) h4)
  (R (.bool true) h3)) (IntKind.wrap .i64 (s1 + (1 : Int))) h2)
  (K1 (IntKind.wrap .i64 (s1 - (1 : Int))) h1))
  (R (.bool false) h1)) (IntKind.wrap .i64 (((l_0.len : Nat) : Int) - (1 : Int))) h
noncomputable def sets_next_ann : Ann := (.two .n (.two (.two .n (.inn (.loop [(5, (.sc (.int .i64)))] [(4, 7), (10, 48)] (.two .n (.two (.inn (.two .n (.two (.two .n (.two (.two .n (.inn (.loop [(6, (.sc (.int .i64)))] [(6, 7), (33, 48)] .n))) .n)) .n))) .n))))) .n))
theorem sets_next_eq (l_0 : Sl) (n_1 : Int) (R : Value → Heap → Prop) (h : Heap) : fnV C Tryz.f47 300 sets_next_ann [(.slice l_0.ptr l_0.len l_0.cap), (.int .i64 n_1)] R h = sets_next_m l_0 n_1 R h := by kernel_rfl
theorem sets_next_run (l_0 : Sl) (n_1 : Int) {R : Value → Heap → Prop} {h : Heap} (hm : sets_next_m l_0 n_1 R h) : Meets Tryz.prog 47 #[(.slice l_0.ptr l_0.len l_0.cap), (.int .i64 n_1)] h R :=
  fn_spec C_ok (f := 47) (fn := Tryz.f47) (args := [(.slice l_0.ptr l_0.len l_0.cap), (.int .i64 n_1)]) Tryz.func47 (by rw [Tryz.ntmps47]; exact Nat.le_of_ble_eq_true rfl) (cast (sets_next_eq l_0 n_1 R h).symm hm)
/-- wellspring/gf.powers -/
abbrev gf_powers_id : FuncId := 48
noncomputable def gf_powers_m  (R : Value → Heap → Prop) (h : Heap) : Prop :=
  RunsA Tryz.prog (Instr.alloc 72 true (.tuple #[])) h fun a1 h1 =>
  LoopM (σ := Int × Int) (fun s2 K1 h2 =>
  Br (decide (s2.2 < (255 : Int)))
  ((0 ≤ s2.2 ∧ s2.2 < ((255 : Nat) : Int)) ∧
  Runs Tryz.prog (Instr.storeAt 5 (.pointer (some (a1.add (s2.2.toNat * 1)))) (.int .u8 s2.1)) h2 fun _ h3 =>
  CallM Tryz.prog 65 #[(.int .u8 s2.1), (.int .u8 (3 : Int))] (.one (.sc (.int .u8))) h3 fun r3 h4 =>
  K1 (r3, IntKind.wrap .i64 (s2.2 + (1 : Int))) h4)
  (∃ x4 : List (Int), (x4.length = 255 ∧ cellsAt h2 a1 0 (x4.map (Sc.enc (.int .u8)))) ∧
  Runs Tryz.prog (Instr.storeAt 72 (.pointer (some a1)) (.agg (x4.map (Sc.enc (.int .u8))).toArray)) h2 fun _ h5 =>
  ∃ res5 : List (Int), (res5.length = 255 ∧ cellsAt h5 a1 0 (res5.map (Sc.enc (.int .u8)))) ∧
  R (.agg (res5.map (Sc.enc (.int .u8))).toArray) h5)) ((1 : Int), (0 : Int)) h1
noncomputable def gf_powers_ann : Ann := (.two .n (.two .n (.two (.two .n (.inn (.loop [(1, (.sc (.int .u8))), (3, (.sc (.int .i64)))] [(1, 12)] .n))) .n)))
theorem gf_powers_eq  (R : Value → Heap → Prop) (h : Heap) : fnV C Tryz.f48 300 gf_powers_ann [] R h = gf_powers_m  R h := by kernel_rfl
theorem gf_powers_run  {R : Value → Heap → Prop} {h : Heap} (hm : gf_powers_m  R h) : Meets Tryz.prog 48 #[] h R :=
  fn_spec C_ok (f := 48) (fn := Tryz.f48) (args := []) Tryz.func48 (by rw [Tryz.ntmps48]; exact Nat.le_of_ble_eq_true rfl) (cast (gf_powers_eq  R h).symm hm)
/-- wellspring/gf.logs -/
abbrev gf_logs_id : FuncId := 49
noncomputable def gf_logs_m (l_0 : List (Int)) (R : Value → Heap → Prop) (h : Heap) : Prop :=
  RunsA Tryz.prog (Instr.box 72 (.agg (l_0.map (Sc.enc (.int .u8))).toArray)) h fun a1 h1 =>
  RunsA Tryz.prog (Instr.alloc 74 true (.tuple #[])) h1 fun a2 h2 =>
  ∃ x3 : List (Int), (x3.length = 255 ∧ cellsAt h2 a1 0 (x3.map (Sc.enc (.int .u8)))) ∧
  LoopM (σ := Int) (fun s4 K1 h3 =>
  Br (decide (s4 < (255 : Int)))
  (∃ x5 : Int, (0 ≤ s4 ∧ s4 < ((255 : Nat) : Int) ∧ ((x3.map (Sc.enc (.int .u8))).toArray : Array Value)[s4.toNat]? = some (.int .u8 x5)) ∧
  (0 ≤ x5 ∧ x5 < ((256 : Nat) : Int)) ∧
  Runs Tryz.prog (Instr.storeAt 3 (.pointer (some (a2.add (x5.toNat * 1)))) (.int .i64 s4)) h3 fun _ h4 =>
  K1 (IntKind.wrap .i64 (s4 + (1 : Int))) h4)
  (∃ x6 : List (Int), (x6.length = 256 ∧ cellsAt h3 a2 0 (x6.map (Sc.enc (.int .i64)))) ∧
  Runs Tryz.prog (Instr.storeAt 74 (.pointer (some a2)) (.agg (x6.map (Sc.enc (.int .i64))).toArray)) h3 fun _ h5 =>
  ∃ res7 : List (Int), (res7.length = 256 ∧ cellsAt h5 a2 0 (res7.map (Sc.enc (.int .i64)))) ∧
  R (.agg (res7.map (Sc.enc (.int .i64))).toArray) h5)) (0 : Int) h2
noncomputable def gf_logs_ann : Ann := (.two .n (.two (.two .n (.inn (.loop [(6, (.sc (.int .i64)))] [(3, 5), (6, 14)] .n))) .n))
theorem gf_logs_eq (l_0 : List (Int)) (R : Value → Heap → Prop) (h : Heap) : fnV C Tryz.f49 300 gf_logs_ann [(.agg (l_0.map (Sc.enc (.int .u8))).toArray)] R h = gf_logs_m l_0 R h := by kernel_rfl
theorem gf_logs_run (l_0 : List (Int)) {R : Value → Heap → Prop} {h : Heap} (hm : gf_logs_m l_0 R h) : Meets Tryz.prog 49 #[(.agg (l_0.map (Sc.enc (.int .u8))).toArray)] h R :=
  fn_spec C_ok (f := 49) (fn := Tryz.f49) (args := [(.agg (l_0.map (Sc.enc (.int .u8))).toArray)]) Tryz.func49 (by rw [Tryz.ntmps49]; exact Nat.le_of_ble_eq_true rfl) (cast (gf_logs_eq l_0 R h).symm hm)
/-- wellspring/row.Unit -/
abbrev row_Unit_id : FuncId := 50
noncomputable def row_Unit_m (n_0 : Int) (at_1 : Int) (R : Value → Heap → Prop) (h : Heap) : Prop :=
  JoinM (σ := Unit) (fun _ h1 =>
  RunsR Tryz.prog (Instr.makeSlice 58 (.int .i64 n_0) (.int .i64 n_0)) (.one (.sc .slc)) h1 fun v2 h2 =>
  ∃ a3 : Addr, (v2.ptr = some a3 ∧ 0 ≤ at_1 ∧ at_1 < ((v2.len : Nat) : Int)) ∧
  Runs Tryz.prog (Instr.storeAt 5 (.pointer (some (a3.add (at_1.toNat * 1)))) (.int .u8 (1 : Int))) h2 fun _ h3 =>
  R (.slice v2.ptr v2.len v2.cap) h3)
  (fun K1 =>
  Br (decide (n_0 < (1 : Int))) (R (.slice none 0 0) h) (Br (decide (n_0 > (64 : Int))) (R (.slice none 0 0) h) (Br (decide (at_1 < (0 : Int))) (R (.slice none 0 0) h) (Br (decide (at_1 ≥ n_0))
  (R (.slice none 0 0) h)
  (K1 () h)))))
noncomputable def row_Unit_ann : Ann := (.two .n (.two (.join [] [(4, 5), (6, 21)] .n) .n))
theorem row_Unit_eq (n_0 : Int) (at_1 : Int) (R : Value → Heap → Prop) (h : Heap) : fnV C Tryz.f50 300 row_Unit_ann [(.int .i64 n_0), (.int .i64 at_1)] R h = row_Unit_m n_0 at_1 R h := by kernel_rfl
theorem row_Unit_run (n_0 : Int) (at_1 : Int) {R : Value → Heap → Prop} {h : Heap} (hm : row_Unit_m n_0 at_1 R h) : Meets Tryz.prog 50 #[(.int .i64 n_0), (.int .i64 at_1)] h R :=
  fn_spec C_ok (f := 50) (fn := Tryz.f50) (args := [(.int .i64 n_0), (.int .i64 at_1)]) Tryz.func50 (by rw [Tryz.ntmps50]; exact Nat.le_of_ble_eq_true rfl) (cast (row_Unit_eq n_0 at_1 R h).symm hm)
/-- (*wellspring/gf.Field).Exp -/
abbrev gf_Field_Exp_id : FuncId := 51
noncomputable def gf_Field_Exp_m (f_0 : Option Addr) (n_1 : Int) (R : Value → Heap → Prop) (h : Heap) : Prop :=
  ((255 : Int) ≠ 0) ∧
  JoinM (σ := Int) (fun s1 h1 =>
  CallM Tryz.prog 66 #[(.pointer f_0)] (.one (.sc .ptr)) h1 fun r2 h2 =>
  ∃ a3 : Addr, (r2 = some a3) ∧
  (0 ≤ s1 ∧ s1 < ((255 : Nat) : Int)) ∧
  ∃ x4 : Int, cellOf h2 (a3.add (s1.toNat * 1)) = some (.int .u8 x4) ∧
  R (.int .u8 x4) h2)
  (fun K1 =>
  Br (decide ((Int.tmod n_1 (255 : Int)) < (0 : Int)))
  (K1 (IntKind.wrap .i64 ((Int.tmod n_1 (255 : Int)) + (255 : Int))) h)
  (K1 (Int.tmod n_1 (255 : Int)) h))
noncomputable def gf_Field_Exp_ann : Ann := (.two .n (.two .n (.two (.join [(1, (.sc (.int .i64)))] [(1, 2), (7, 11)] .n) .n)))
theorem gf_Field_Exp_eq (f_0 : Option Addr) (n_1 : Int) (R : Value → Heap → Prop) (h : Heap) : fnV C Tryz.f51 300 gf_Field_Exp_ann [(.pointer f_0), (.int .i64 n_1)] R h = gf_Field_Exp_m f_0 n_1 R h := by kernel_rfl
theorem gf_Field_Exp_run (f_0 : Option Addr) (n_1 : Int) {R : Value → Heap → Prop} {h : Heap} (hm : gf_Field_Exp_m f_0 n_1 R h) : Meets Tryz.prog 51 #[(.pointer f_0), (.int .i64 n_1)] h R :=
  fn_spec C_ok (f := 51) (fn := Tryz.f51) (args := [(.pointer f_0), (.int .i64 n_1)]) Tryz.func51 (by rw [Tryz.ntmps51]; exact Nat.le_of_ble_eq_true rfl) (cast (gf_Field_Exp_eq f_0 n_1 R h).symm hm)
/-- (*wellspring/span.Span).Rest -/
abbrev span_Span_Rest_id : FuncId := 52
noncomputable def span_Span_Rest_m (s_0 : Option Addr) (r_1 : Sl) (R : Value → Heap → Prop) (h : Heap) : Prop :=
  JoinM (σ := Unit) (fun _ h1 =>
  CallM Tryz.prog 67 #[(.slice r_1.ptr r_1.len r_1.cap)] (.one (.sc .slc)) h1 fun r4 h2 =>
  ∃ a5 : Addr, (s_0 = some a5) ∧
  ∃ x6 : Sl, cellOf h2 (a5.add 2) = some (.slice x6.ptr x6.len x6.cap) ∧
  LoopM (σ := Sl × Int) (fun s7 K2 h3 =>
  Br (decide (s7.2 < ((x6.len : Nat) : Int)))
  (∃ a8 : Addr, (x6.ptr = some a8 ∧ 0 ≤ s7.2 ∧ s7.2 < ((x6.len : Nat) : Int)) ∧
  ∃ x9 : Sl, cellOf h3 (a8.add (s7.2.toNat * 1)) = some (.slice x9.ptr x9.len x9.cap) ∧
  CallM Tryz.prog 53 #[(.slice x9.ptr x9.len x9.cap)] (.one (.sc (.int .i64))) h3 fun r10 h4 =>
  ∃ a11 : Addr, (s7.1.ptr = some a11 ∧ 0 ≤ r10 ∧ r10 < ((s7.1.len : Nat) : Int)) ∧
  ∃ x12 : Int, cellOf h4 (a11.add (r10.toNat * 1)) = some (.int .u8 x12) ∧
  Br (x12 != (0 : Int))
  (∃ a13 : Addr, (s_0 = some a13) ∧
  ∃ x14 : Option Addr, cellOf h4 a13 = some (.pointer x14) ∧
  CallM Tryz.prog 68 #[(.pointer x14), (.int .u8 x12), (.slice x9.ptr x9.len x9.cap), (.slice s7.1.ptr s7.1.len s7.1.cap)] (.many [(.sc .slc), (.sc .bool)]) h4 fun r15 h5 =>
  K2 ((⟨r15.1.ptr, r15.1.len, r15.1.cap⟩ : Sl), IntKind.wrap .i64 (s7.2 + (1 : Int))) h5)
  (K2 ((⟨s7.1.ptr, s7.1.len, s7.1.cap⟩ : Sl), IntKind.wrap .i64 (s7.2 + (1 : Int))) h4))
  (R (.tuple #[(.slice s7.1.ptr s7.1.len s7.1.cap), (.bool true)]) h3)) ((⟨r4.ptr, r4.len, r4.cap⟩ : Sl), (0 : Int)) h2)
  (fun K1 =>
  Br (Option.isNone s_0) (R (.tuple #[(.slice none 0 0), (.bool false)]) h) (∃ a1 : Addr, (s_0 = some a1) ∧
  ∃ x2 : Int, cellOf h (a1.add 1) = some (.int .i64 x2) ∧
  Br (((r_1.len : Nat) : Int) != x2)
  (R (.tuple #[(.slice none 0 0), (.bool false)]) h)
  (K1 () h)))
noncomputable def span_Span_Rest_ann : Ann := (.two .n (.two (.join [] [(4, 6), (10, 21)] .n) (.two .n (.two (.two .n (.inn (.loop [(6, (.sc .slc)), (28, (.sc (.int .i64)))] [(6, 7), (8, 10), (28, 51)] .n))) .n))))
theorem span_Span_Rest_eq (s_0 : Option Addr) (r_1 : Sl) (R : Value → Heap → Prop) (h : Heap) : fnV C Tryz.f52 300 span_Span_Rest_ann [(.pointer s_0), (.slice r_1.ptr r_1.len r_1.cap)] R h = span_Span_Rest_m s_0 r_1 R h := by kernel_rfl
theorem span_Span_Rest_run (s_0 : Option Addr) (r_1 : Sl) {R : Value → Heap → Prop} {h : Heap} (hm : span_Span_Rest_m s_0 r_1 R h) : Meets Tryz.prog 52 #[(.pointer s_0), (.slice r_1.ptr r_1.len r_1.cap)] h R :=
  fn_spec C_ok (f := 52) (fn := Tryz.f52) (args := [(.pointer s_0), (.slice r_1.ptr r_1.len r_1.cap)]) Tryz.func52 (by rw [Tryz.ntmps52]; exact Nat.le_of_ble_eq_true rfl) (cast (span_Span_Rest_eq s_0 r_1 R h).symm hm)
/-- wellspring/row.Lead -/
abbrev row_Lead_id : FuncId := 53
noncomputable def row_Lead_m (a_0 : Sl) (R : Value → Heap → Prop) (h : Heap) : Prop :=
  CallM Tryz.prog 69 #[(.slice a_0.ptr a_0.len a_0.cap), (.func (.func 70) #[] #[])] (.one (.sc (.int .i64))) h fun r1 h1 =>
  R (.int .i64 r1) h1
noncomputable def row_Lead_ann : Ann := .n
theorem row_Lead_eq (a_0 : Sl) (R : Value → Heap → Prop) (h : Heap) : fnV C Tryz.f53 300 row_Lead_ann [(.slice a_0.ptr a_0.len a_0.cap)] R h = row_Lead_m a_0 R h := by kernel_rfl
theorem row_Lead_run (a_0 : Sl) {R : Value → Heap → Prop} {h : Heap} (hm : row_Lead_m a_0 R h) : Meets Tryz.prog 53 #[(.slice a_0.ptr a_0.len a_0.cap)] h R :=
  fn_spec C_ok (f := 53) (fn := Tryz.f53) (args := [(.slice a_0.ptr a_0.len a_0.cap)]) Tryz.func53 (by rw [Tryz.ntmps53]; exact Nat.le_of_ble_eq_true rfl) (cast (row_Lead_eq a_0 R h).symm hm)
/-- wellspring/mat.Reduce -/
abbrev mat_Reduce_id : FuncId := 54
noncomputable def mat_Reduce_m (f_0 : Option Addr) (a_1 : Sl) (R : Value → Heap → Prop) (h : Heap) : Prop :=
  CallM Tryz.prog 71 #[(.slice a_1.ptr a_1.len a_1.cap)] (.one (.sc .bool)) h fun r1 h1 =>
  Br (!r1)
  (R (.slice none 0 0) h1)
  (CallM Tryz.prog 72 #[(.slice a_1.ptr a_1.len a_1.cap)] (.one (.sc .slc)) h1 fun r2 h2 =>
  CallM Tryz.prog 74 #[(.pointer f_0)] (.one (.sc .ptr)) h2 fun r3 h3 =>
  CallM Tryz.prog 75 #[(.slice r2.ptr r2.len r2.cap)] (.one (.sc (.int .i64))) h3 fun r4 h4 =>
  CallM Tryz.prog 73 #[(.pointer r3), (.slice r2.ptr r2.len r2.cap), (.int .i64 r4)] (.one (.sc (.int .i64))) h4 fun r5 h5 =>
  (0 ≤ r5 ∧ r5 ≤ ((r2.cap : Nat) : Int)) ∧
  R (.slice r2.ptr r5.toNat r2.cap) h5)
noncomputable def mat_Reduce_ann : Ann := .n
theorem mat_Reduce_eq (f_0 : Option Addr) (a_1 : Sl) (R : Value → Heap → Prop) (h : Heap) : fnV C Tryz.f54 300 mat_Reduce_ann [(.pointer f_0), (.slice a_1.ptr a_1.len a_1.cap)] R h = mat_Reduce_m f_0 a_1 R h := by kernel_rfl
theorem mat_Reduce_run (f_0 : Option Addr) (a_1 : Sl) {R : Value → Heap → Prop} {h : Heap} (hm : mat_Reduce_m f_0 a_1 R h) : Meets Tryz.prog 54 #[(.pointer f_0), (.slice a_1.ptr a_1.len a_1.cap)] h R :=
  fn_spec C_ok (f := 54) (fn := Tryz.f54) (args := [(.pointer f_0), (.slice a_1.ptr a_1.len a_1.cap)]) Tryz.func54 (by rw [Tryz.ntmps54]; exact Nat.le_of_ble_eq_true rfl) (cast (mat_Reduce_eq f_0 a_1 R h).symm hm)
/-- wellspring/lt.Row -/
abbrev lt_Row_id : FuncId := 55
noncomputable def lt_Row_m (p_0 : Int × Int × Int) (seed_1 : Int) (id_2 : Int) (R : Value → Heap → Prop) (h : Heap) : Prop :=
  RunsA Tryz.prog (Instr.box 23 (.agg #[(.int .i64 p_0.1), (.int .i64 p_0.2.1), (.int .i64 p_0.2.2)])) h fun a1 h1 =>
  JoinM (σ := Unit) (fun _ h3 =>
  ∃ x5 : Int × Int × Int, cellsAt h3 a1 0 [(.int .i64 x5.1), (.int .i64 x5.2.1), (.int .i64 x5.2.2)] ∧
  CallM Tryz.prog 26 #[(.agg #[(.int .i64 x5.1), (.int .i64 x5.2.1), (.int .i64 x5.2.2)])] (.one (.sc (.int .i64))) h3 fun r6 h4 =>
  RunsR Tryz.prog (Instr.makeSlice 58 (.int .i64 r6) (.int .i64 r6)) (.one (.sc .slc)) h4 fun v7 h5 =>
  ∃ x8 : Int × Int × Int, cellsAt h5 a1 0 [(.int .i64 x8.1), (.int .i64 x8.2.1), (.int .i64 x8.2.2)] ∧
  CallM Tryz.prog 76 #[(.agg #[(.int .i64 x8.1), (.int .i64 x8.2.1), (.int .i64 x8.2.2)]), (.int .u32 seed_1), (.int .i64 id_2)] (.one (.sc .slc)) h5 fun r9 h6 =>
  LoopM (σ := Int) (fun s10 K2 h7 =>
  Br (decide (s10 < ((r9.len : Nat) : Int)))
  (∃ a11 : Addr, (r9.ptr = some a11 ∧ 0 ≤ s10 ∧ s10 < ((r9.len : Nat) : Int)) ∧
  ∃ x12 : Int, cellOf h7 (a11.add (s10.toNat * 1)) = some (.int .i64 x12) ∧
  ∃ a13 : Addr, (v7.ptr = some a13 ∧ 0 ≤ x12 ∧ x12 < ((v7.len : Nat) : Int)) ∧
  Runs Tryz.prog (Instr.storeAt 5 (.pointer (some (a13.add (x12.toNat * 1)))) (.int .u8 (1 : Int))) h7 fun _ h8 =>
  K2 (IntKind.wrap .i64 (s10 + (1 : Int))) h8)
  (R (.slice v7.ptr v7.len v7.cap) h7)) (0 : Int) h6)
  (fun K1 =>
  ∃ x2 : Int × Int × Int, cellsAt h1 a1 0 [(.int .i64 x2.1), (.int .i64 x2.2.1), (.int .i64 x2.2.2)] ∧
  CallM Tryz.prog 24 #[(.agg #[(.int .i64 x2.1), (.int .i64 x2.2.1), (.int .i64 x2.2.2)])] (.one (.sc .bool)) h1 fun r3 h2 =>
  Br (!r3) (R (.slice none 0 0) h2) (Br (decide (id_2 < (0 : Int))) (R (.slice none 0 0) h2) (Br (decide (id_2 > (65535 : Int)))
  (R (.slice none 0 0) h2)
  (K1 () h2))))
noncomputable def lt_Row_ann : Ann := (.two .n (.two (.join [] [(6, 7), (10, 21)] .n) (.two .n (.two (.two .n (.inn (.loop [(29, (.sc (.int .i64)))] [(9, 10), (29, 37)] .n))) .n))))
theorem lt_Row_eq (p_0 : Int × Int × Int) (seed_1 : Int) (id_2 : Int) (R : Value → Heap → Prop) (h : Heap) : fnV C Tryz.f55 300 lt_Row_ann [(.agg #[(.int .i64 p_0.1), (.int .i64 p_0.2.1), (.int .i64 p_0.2.2)]), (.int .u32 seed_1), (.int .i64 id_2)] R h = lt_Row_m p_0 seed_1 id_2 R h := by kernel_rfl
theorem lt_Row_run (p_0 : Int × Int × Int) (seed_1 : Int) (id_2 : Int) {R : Value → Heap → Prop} {h : Heap} (hm : lt_Row_m p_0 seed_1 id_2 R h) : Meets Tryz.prog 55 #[(.agg #[(.int .i64 p_0.1), (.int .i64 p_0.2.1), (.int .i64 p_0.2.2)]), (.int .u32 seed_1), (.int .i64 id_2)] h R :=
  fn_spec C_ok (f := 55) (fn := Tryz.f55) (args := [(.agg #[(.int .i64 p_0.1), (.int .i64 p_0.2.1), (.int .i64 p_0.2.2)]), (.int .u32 seed_1), (.int .i64 id_2)]) Tryz.func55 (by rw [Tryz.ntmps55]; exact Nat.le_of_ble_eq_true rfl) (cast (lt_Row_eq p_0 seed_1 id_2 R h).symm hm)
/-- (*wellspring/span.Span).Clone -/
abbrev span_Span_Clone_id : FuncId := 56
noncomputable def span_Span_Clone_m (s_0 : Option Addr) (R : Value → Heap → Prop) (h : Heap) : Prop :=
  Br (Option.isNone s_0)
  (R (.pointer none) h)
  (∃ a1 : Addr, (s_0 = some a1) ∧
  ∃ x2 : Option Addr, cellOf h a1 = some (.pointer x2) ∧
  ∃ a3 : Addr, (s_0 = some a3) ∧
  ∃ x4 : Int, cellOf h (a3.add 1) = some (.int .i64 x4) ∧
  CallM Tryz.prog 77 #[(.pointer s_0)] (.one (.sc .slc)) h fun r5 h1 =>
  (Held.ok [(a3.add 1, (.int .i64 x4)), (a1, (.pointer x2))] h1) ∧
  RunsA Tryz.prog (Instr.box 71 (.agg #[(.pointer x2), (.int .i64 x4), (.slice r5.ptr r5.len r5.cap)])) h1 fun a6 h2 =>
  (Held.ok [(a3.add 1, (.int .i64 x4)), (a1, (.pointer x2))] h2) ∧
  R (.pointer (some a6)) h2)
noncomputable def span_Span_Clone_ann : Ann := .n
theorem span_Span_Clone_eq (s_0 : Option Addr) (R : Value → Heap → Prop) (h : Heap) : fnV C Tryz.f56 300 span_Span_Clone_ann [(.pointer s_0)] R h = span_Span_Clone_m s_0 R h := by kernel_rfl
theorem span_Span_Clone_run (s_0 : Option Addr) {R : Value → Heap → Prop} {h : Heap} (hm : span_Span_Clone_m s_0 R h) : Meets Tryz.prog 56 #[(.pointer s_0)] h R :=
  fn_spec C_ok (f := 56) (fn := Tryz.f56) (args := [(.pointer s_0)]) Tryz.func56 (by rw [Tryz.ntmps56]; exact Nat.le_of_ble_eq_true rfl) (cast (span_Span_Clone_eq s_0 R h).symm hm)
/-- (*wellspring/span.Span).Rank -/
abbrev span_Span_Rank_id : FuncId := 57
noncomputable def span_Span_Rank_m (s_0 : Option Addr) (R : Value → Heap → Prop) (h : Heap) : Prop :=
  Br (Option.isNone s_0)
  (R (.int .i64 (0 : Int)) h)
  (∃ a1 : Addr, (s_0 = some a1) ∧
  ∃ x2 : Sl, cellOf h (a1.add 2) = some (.slice x2.ptr x2.len x2.cap) ∧
  R (.int .i64 ((x2.len : Nat) : Int)) h)
noncomputable def span_Span_Rank_ann : Ann := .n
theorem span_Span_Rank_eq (s_0 : Option Addr) (R : Value → Heap → Prop) (h : Heap) : fnV C Tryz.f57 300 span_Span_Rank_ann [(.pointer s_0)] R h = span_Span_Rank_m s_0 R h := by kernel_rfl
theorem span_Span_Rank_run (s_0 : Option Addr) {R : Value → Heap → Prop} {h : Heap} (hm : span_Span_Rank_m s_0 R h) : Meets Tryz.prog 57 #[(.pointer s_0)] h R :=
  fn_spec C_ok (f := 57) (fn := Tryz.f57) (args := [(.pointer s_0)]) Tryz.func57 (by rw [Tryz.ntmps57]; exact Nat.le_of_ble_eq_true rfl) (cast (span_Span_Rank_eq s_0 R h).symm hm)
/-- wellspring/wellspringref21.Count -/
abbrev wellspringref21_Count_id : FuncId := 58
noncomputable def wellspringref21_Count_m (n_0 : Int) (t_1 : Int) (R : Value → Heap → Prop) (h : Heap) : Prop :=
  JoinM (σ := Unit) (fun _ h1 =>
  RunsR Tryz.prog (Instr.makeSlice 25 (.int .i64 (IntKind.wrap .i64 (t_1 + (1 : Int)))) (.int .i64 (IntKind.wrap .i64 (t_1 + (1 : Int))))) (.one (.sc .slc)) h1 fun v2 h2 =>
  ∃ a3 : Addr, (v2.ptr = some a3 ∧ 0 ≤ (0 : Int) ∧ (0 : Int) < ((v2.len : Nat) : Int)) ∧
  Runs Tryz.prog (Instr.storeAt 3 (.pointer (some (a3.add ((0 : Int).toNat * 1)))) (.int .i64 (1 : Int))) h2 fun _ h3 =>
  LoopM (σ := Int) (fun s4 K2 h4 =>
  Br (decide (s4 < n_0))
  (LoopM (σ := Int) (fun s5 K3 h5 =>
  Br (decide (s5 > (0 : Int)))
  (∃ a6 : Addr, (v2.ptr = some a6 ∧ 0 ≤ s5 ∧ s5 < ((v2.len : Nat) : Int)) ∧
  ∃ x7 : Int, cellOf h5 (a6.add (s5.toNat * 1)) = some (.int .i64 x7) ∧
  ∃ a8 : Addr, (v2.ptr = some a8 ∧ 0 ≤ (IntKind.wrap .i64 (s5 - (1 : Int))) ∧ (IntKind.wrap .i64 (s5 - (1 : Int))) < ((v2.len : Nat) : Int)) ∧
  ∃ x9 : Int, cellOf h5 (a8.add ((IntKind.wrap .i64 (s5 - (1 : Int))).toNat * 1)) = some (.int .i64 x9) ∧
  ∃ a10 : Addr, (v2.ptr = some a10 ∧ 0 ≤ s5 ∧ s5 < ((v2.len : Nat) : Int)) ∧
  Runs Tryz.prog (Instr.storeAt 3 (.pointer (some (a10.add (s5.toNat * 1)))) (.int .i64 (if (4097 : Int) < (IntKind.wrap .i64 (x7 + x9)) then (4097 : Int) else IntKind.wrap .i64 (x7 + x9)))) h5 fun _ h6 =>
  (Held.ok [] h6) ∧
  K3 (IntKind.wrap .i64 (s5 - (1 : Int))) h6)
  (K2 (IntKind.wrap .i64 (s4 + (1 : Int))) h5)) t_1 h4)
  (∃ a11 : Addr, (v2.ptr = some a11 ∧ 0 ≤ t_1 ∧ t_1 < ((v2.len : Nat) : Int)) ∧
  ∃ x12 : Int, cellOf h4 (a11.add (t_1.toNat * 1)) = some (.int .i64 x12) ∧
  R (.int .i64 x12) h4)) (0 : Int) h3)
  (fun K1 =>
  Br (decide (n_0 < (0 : Int))) (R (.int .i64 (0 : Int)) h) (Br (decide (n_0 > (64 : Int))) (R (.int .i64 (0 : Int)) h) (Br (decide (t_1 < (0 : Int))) (R (.int .i64 (0 : Int)) h) (Br (decide (t_1 > n_0))
  (R (.int .i64 (0 : Int)) h)
  (K1 () h)))))
noncomputable def wellspringref21_Count_ann : Ann := (.two .n (.two (.join [] [(4, 5), (8, 23)] .n) (.two .n (.two .n (.two (.two .n (.inn (.loop [(6, (.sc (.int .i64)))] [(6, 8), (28, 52)] (.two .n (.two (.inn (.two .n (.inn (.loop [(7, (.sc (.int .i64)))] [(7, 8), (34, 52)] .n)))) .n))))) .n)))))
theorem wellspringref21_Count_eq (n_0 : Int) (t_1 : Int) (R : Value → Heap → Prop) (h : Heap) : fnV C Tryz.f58 300 wellspringref21_Count_ann [(.int .i64 n_0), (.int .i64 t_1)] R h = wellspringref21_Count_m n_0 t_1 R h := by kernel_rfl
theorem wellspringref21_Count_run (n_0 : Int) (t_1 : Int) {R : Value → Heap → Prop} {h : Heap} (hm : wellspringref21_Count_m n_0 t_1 R h) : Meets Tryz.prog 58 #[(.int .i64 n_0), (.int .i64 t_1)] h R :=
  fn_spec C_ok (f := 58) (fn := Tryz.f58) (args := [(.int .i64 n_0), (.int .i64 t_1)]) Tryz.func58 (by rw [Tryz.ntmps58]; exact Nat.le_of_ble_eq_true rfl) (cast (wellspringref21_Count_eq n_0 t_1 R h).symm hm)
/-- wellspring/wellspringref21.from -/
abbrev wellspringref21_from_id : FuncId := 59
noncomputable def wellspringref21_from_m (at_0 : Int) (n_1 : Int) (t_2 : Int) (R : Value → Heap → Prop) (h : Heap) : Prop :=
  Br (t_2 == (0 : Int))
  (RunsR Tryz.prog (Instr.buildSlice 26 1 #[(0, (.slice none 0 0))]) (.one (.sc .slc)) h fun v1 h1 =>
  R (.slice v1.ptr v1.len v1.cap) h1)
  (LoopM (σ := Sl × Int) (fun s2 K1 h2 =>
  Br (decide ((IntKind.wrap .i64 (s2.2 + t_2)) ≤ n_1))
  (CallM Tryz.prog 59 #[(.int .i64 (IntKind.wrap .i64 (s2.2 + (1 : Int)))), (.int .i64 n_1), (.int .i64 (IntKind.wrap .i64 (t_2 - (1 : Int))))] (.one (.sc .slc)) h2 fun r3 h3 =>
  LoopM (σ := Sl × Int) (fun s4 K2 h4 =>
  Br (decide (s4.2 < ((r3.len : Nat) : Int)))
  (∃ a5 : Addr, (r3.ptr = some a5 ∧ 0 ≤ s4.2 ∧ s4.2 < ((r3.len : Nat) : Int)) ∧
  ∃ x6 : Sl, cellOf h4 (a5.add (s4.2.toNat * 1)) = some (.slice x6.ptr x6.len x6.cap) ∧
  RunsR Tryz.prog (Instr.buildSlice 25 1 #[(0, (.int .i64 s2.2))]) (.one (.sc .slc)) h4 fun v7 h5 =>
  RunsR Tryz.prog (Builtin.append_ #[25, 25] 25 #[(.slice v7.ptr v7.len v7.cap), (.slice x6.ptr x6.len x6.cap)]) (.one (.sc .slc)) h5 fun v8 h6 =>
  RunsR Tryz.prog (Instr.buildSlice 26 1 #[(0, (.slice v8.ptr v8.len v8.cap))]) (.one (.sc .slc)) h6 fun v9 h7 =>
  RunsR Tryz.prog (Builtin.append_ #[26, 26] 26 #[(.slice s4.1.ptr s4.1.len s4.1.cap), (.slice v9.ptr v9.len v9.cap)]) (.one (.sc .slc)) h7 fun v10 h8 =>
  K2 ((⟨v10.ptr, v10.len, v10.cap⟩ : Sl), IntKind.wrap .i64 (s4.2 + (1 : Int))) h8)
  (K1 ((⟨s4.1.ptr, s4.1.len, s4.1.cap⟩ : Sl), IntKind.wrap .i64 (s2.2 + (1 : Int))) h4)) ((⟨s2.1.ptr, s2.1.len, s2.1.cap⟩ : Sl), (0 : Int)) h3)
  (R (.slice s2.1.ptr s2.1.len s2.1.cap) h2)) ((⟨none, 0, 0⟩ : Sl), at_0) h)
noncomputable def wellspringref21_from_ann : Ann := (.two .n (.two .n (.two .n (.two (.two .n (.inn (.loop [(7, (.sc .slc)), (8, (.sc (.int .i64)))] [(7, 9), (10, 11), (15, 41)] (.two .n (.two (.inn (.two .n (.inn (.loop [(7, (.sc .slc)), (29, (.sc (.int .i64)))] [(7, 8), (10, 11), (29, 41)] .n)))) .n))))) .n))))
theorem wellspringref21_from_eq (at_0 : Int) (n_1 : Int) (t_2 : Int) (R : Value → Heap → Prop) (h : Heap) : fnV C Tryz.f59 300 wellspringref21_from_ann [(.int .i64 at_0), (.int .i64 n_1), (.int .i64 t_2)] R h = wellspringref21_from_m at_0 n_1 t_2 R h := by kernel_rfl
theorem wellspringref21_from_run (at_0 : Int) (n_1 : Int) (t_2 : Int) {R : Value → Heap → Prop} {h : Heap} (hm : wellspringref21_from_m at_0 n_1 t_2 R h) : Meets Tryz.prog 59 #[(.int .i64 at_0), (.int .i64 n_1), (.int .i64 t_2)] h R :=
  fn_spec C_ok (f := 59) (fn := Tryz.f59) (args := [(.int .i64 at_0), (.int .i64 n_1), (.int .i64 t_2)]) Tryz.func59 (by rw [Tryz.ntmps59]; exact Nat.le_of_ble_eq_true rfl) (cast (wellspringref21_from_eq at_0 n_1 t_2 R h).symm hm)
/-- wellspring/wellspringref01.Cols -/
abbrev wellspringref01_Cols_id : FuncId := 60
noncomputable def wellspringref01_Cols_m (p_0 : Int × Int × Int) (R : Value → Heap → Prop) (h : Heap) : Prop :=
  RunsA Tryz.prog (Instr.box 23 (.agg #[(.int .i64 p_0.1), (.int .i64 p_0.2.1), (.int .i64 p_0.2.2)])) h fun a1 h1 =>
  ∃ x2 : Int × Int × Int, cellsAt h1 a1 0 [(.int .i64 x2.1), (.int .i64 x2.2.1), (.int .i64 x2.2.2)] ∧
  CallM Tryz.prog 33 #[(.agg #[(.int .i64 x2.1), (.int .i64 x2.2.1), (.int .i64 x2.2.2)])] (.one (.sc .bool)) h1 fun r3 h2 =>
  Br (!r3)
  (R (.int .i64 (0 : Int)) h2)
  (∃ x4 : Int, cellOf h2 a1 = some (.int .i64 x4) ∧
  ∃ x5 : Int, cellOf h2 (a1.add 1) = some (.int .i64 x5) ∧
  R (.int .i64 (IntKind.wrap .i64 (x4 + x5))) h2)
noncomputable def wellspringref01_Cols_ann : Ann := .n
theorem wellspringref01_Cols_eq (p_0 : Int × Int × Int) (R : Value → Heap → Prop) (h : Heap) : fnV C Tryz.f60 300 wellspringref01_Cols_ann [(.agg #[(.int .i64 p_0.1), (.int .i64 p_0.2.1), (.int .i64 p_0.2.2)])] R h = wellspringref01_Cols_m p_0 R h := by kernel_rfl
theorem wellspringref01_Cols_run (p_0 : Int × Int × Int) {R : Value → Heap → Prop} {h : Heap} (hm : wellspringref01_Cols_m p_0 R h) : Meets Tryz.prog 60 #[(.agg #[(.int .i64 p_0.1), (.int .i64 p_0.2.1), (.int .i64 p_0.2.2)])] h R :=
  fn_spec C_ok (f := 60) (fn := Tryz.f60) (args := [(.agg #[(.int .i64 p_0.1), (.int .i64 p_0.2.1), (.int .i64 p_0.2.2)])]) Tryz.func60 (by rw [Tryz.ntmps60]; exact Nat.le_of_ble_eq_true rfl) (cast (wellspringref01_Cols_eq p_0 R h).symm hm)
/-- wellspring/wellspringref01.Reduce -/
abbrev wellspringref01_Reduce_id : FuncId := 61
noncomputable def wellspringref01_Reduce_m (a_0 : Sl) (R : Value → Heap → Prop) (h : Heap) : Prop :=
  CallM Tryz.prog 78 #[(.slice a_0.ptr a_0.len a_0.cap)] (.one (.sc .bool)) h fun r1 h1 =>
  Br (!r1)
  (R (.slice none 0 0) h1)
  (LoopM (σ := Sl × Int) (fun s2 K1 h2 =>
  Br (decide (s2.2 < ((a_0.len : Nat) : Int)))
  (∃ a3 : Addr, (a_0.ptr = some a3 ∧ 0 ≤ s2.2 ∧ s2.2 < ((a_0.len : Nat) : Int)) ∧
  ∃ x4 : Sl, cellOf h2 (a3.add (s2.2.toNat * 1)) = some (.slice x4.ptr x4.len x4.cap) ∧
  RunsR Tryz.prog (Builtin.append_ #[58, 58] 58 #[(.slice none 0 0), (.slice x4.ptr x4.len x4.cap)]) (.one (.sc .slc)) h2 fun v5 h3 =>
  RunsR Tryz.prog (Instr.buildSlice 56 1 #[(0, (.slice v5.ptr v5.len v5.cap))]) (.one (.sc .slc)) h3 fun v6 h4 =>
  RunsR Tryz.prog (Builtin.append_ #[56, 56] 56 #[(.slice s2.1.ptr s2.1.len s2.1.cap), (.slice v6.ptr v6.len v6.cap)]) (.one (.sc .slc)) h4 fun v7 h5 =>
  K1 ((⟨v7.ptr, v7.len, v7.cap⟩ : Sl), IntKind.wrap .i64 (s2.2 + (1 : Int))) h5)
  (JoinM (σ := Int) (fun s50 h20 =>
  (0 ≤ s50 ∧ s50 ≤ ((s2.1.cap : Nat) : Int)) ∧
  R (.slice s2.1.ptr s50.toNat s2.1.cap) h20)
  (fun K2 =>
  LoopM (σ := Int × Int) (fun s8 K3 h6 =>
  JoinM (σ := Unit) (fun _ h7 =>
  LoopM (σ := Int × Int) (fun s12 K5 h8 =>
  Br (decide (s12.2 < ((s2.1.len : Nat) : Int)))
  (∃ a13 : Addr, (s2.1.ptr = some a13 ∧ 0 ≤ s12.2 ∧ s12.2 < ((s2.1.len : Nat) : Int)) ∧
  ∃ x14 : Sl, cellOf h8 (a13.add (s12.2.toNat * 1)) = some (.slice x14.ptr x14.len x14.cap) ∧
  ∃ a15 : Addr, (x14.ptr = some a15 ∧ 0 ≤ s8.2 ∧ s8.2 < ((x14.len : Nat) : Int)) ∧
  ∃ x16 : Int, cellOf h8 (a15.add (s8.2.toNat * 1)) = some (.int .u8 x16) ∧
  Br (x16 != (0 : Int)) (Br (decide (s12.1 < (0 : Int)))
  (K5 (s12.2, IntKind.wrap .i64 (s12.2 + (1 : Int))) h8)
  (K5 (s12.1, IntKind.wrap .i64 (s12.2 + (1 : Int))) h8)) (K5 (s12.1, IntKind.wrap .i64 (s12.2 + (1 : Int))) h8))
  (Br (decide (s12.1 < (0 : Int)))
  (K3 (s8.1, IntKind.wrap .i64 (s8.2 + (1 : Int))) h8)
  (JoinM (σ := Unit) (fun _ h11 =>
  JoinM (σ := Unit) (fun _ h15 =>
  LoopM (σ := Int) (fun s34 K8 h16 =>
  Br (decide (s34 < ((s2.1.len : Nat) : Int)))
  (JoinM (σ := Bool) (fun s39 h17 =>
  Br s39
  (∃ a40 : Addr, (s2.1.ptr = some a40 ∧ 0 ≤ s34 ∧ s34 < ((s2.1.len : Nat) : Int)) ∧
  ∃ x41 : Sl, cellOf h17 (a40.add (s34.toNat * 1)) = some (.slice x41.ptr x41.len x41.cap) ∧
  ∃ a42 : Addr, (x41.ptr = some a42 ∧ 0 ≤ s8.2 ∧ s8.2 < ((x41.len : Nat) : Int)) ∧
  ∃ x43 : Int, cellOf h17 (a42.add (s8.2.toNat * 1)) = some (.int .u8 x43) ∧
  ∃ a44 : Addr, (s2.1.ptr = some a44 ∧ 0 ≤ s8.1 ∧ s8.1 < ((s2.1.len : Nat) : Int)) ∧
  ∃ x45 : Sl, cellOf h17 (a44.add (s8.1.toNat * 1)) = some (.slice x45.ptr x45.len x45.cap) ∧
  ∃ a46 : Addr, (s2.1.ptr = some a46 ∧ 0 ≤ s34 ∧ s34 < ((s2.1.len : Nat) : Int)) ∧
  ∃ x47 : Sl, cellOf h17 (a46.add (s34.toNat * 1)) = some (.slice x47.ptr x47.len x47.cap) ∧
  CallM Tryz.prog 81 #[(.int .u8 x43), (.slice x45.ptr x45.len x45.cap), (.slice x47.ptr x47.len x47.cap)] (.one (.sc .slc)) h17 fun r48 h18 =>
  (Held.ok [(a40.add (s34.toNat * 1), (.slice x41.ptr x41.len x41.cap))] h18) ∧
  ∃ a49 : Addr, (s2.1.ptr = some a49 ∧ 0 ≤ s34 ∧ s34 < ((s2.1.len : Nat) : Int)) ∧
  Runs Tryz.prog (Instr.storeAt 58 (.pointer (some (a49.add (s34.toNat * 1)))) (.slice r48.ptr r48.len r48.cap)) h18 fun _ h19 =>
  (Held.ok [] h19) ∧
  K8 (IntKind.wrap .i64 (s34 + (1 : Int))) h19)
  (K8 (IntKind.wrap .i64 (s34 + (1 : Int))) h17))
  (fun K9 =>
  Br (s34 != s8.1) (∃ a35 : Addr, (s2.1.ptr = some a35 ∧ 0 ≤ s34 ∧ s34 < ((s2.1.len : Nat) : Int)) ∧
  ∃ x36 : Sl, cellOf h16 (a35.add (s34.toNat * 1)) = some (.slice x36.ptr x36.len x36.cap) ∧
  ∃ a37 : Addr, (x36.ptr = some a37 ∧ 0 ≤ s8.2 ∧ s8.2 < ((x36.len : Nat) : Int)) ∧
  ∃ x38 : Int, cellOf h16 (a37.add (s8.2.toNat * 1)) = some (.int .u8 x38) ∧
  K9 (x38 != (0 : Int)) h16) (K9 false h16)))
  (K3 (IntKind.wrap .i64 (s8.1 + (1 : Int)), IntKind.wrap .i64 (s8.2 + (1 : Int))) h16)) (0 : Int) h15)
  (fun K7 =>
  ∃ a24 : Addr, (s2.1.ptr = some a24 ∧ 0 ≤ s8.1 ∧ s8.1 < ((s2.1.len : Nat) : Int)) ∧
  ∃ x25 : Sl, cellOf h11 (a24.add (s8.1.toNat * 1)) = some (.slice x25.ptr x25.len x25.cap) ∧
  ∃ a26 : Addr, (x25.ptr = some a26 ∧ 0 ≤ s8.2 ∧ s8.2 < ((x25.len : Nat) : Int)) ∧
  ∃ x27 : Int, cellOf h11 (a26.add (s8.2.toNat * 1)) = some (.int .u8 x27) ∧
  ∃ a28 : Addr, (s2.1.ptr = some a28 ∧ 0 ≤ s8.1 ∧ s8.1 < ((s2.1.len : Nat) : Int)) ∧
  ∃ x29 : Sl, cellOf h11 (a28.add (s8.1.toNat * 1)) = some (.slice x29.ptr x29.len x29.cap) ∧
  CallM Tryz.prog 80 #[(.int .u8 x27)] (.one (.sc (.int .u8))) h11 fun r30 h12 =>
  (Held.ok [(a28.add (s8.1.toNat * 1), (.slice x29.ptr x29.len x29.cap)), (a24.add (s8.1.toNat * 1), (.slice x25.ptr x25.len x25.cap))] h12) ∧
  CallM Tryz.prog 79 #[(.int .u8 r30), (.slice x29.ptr x29.len x29.cap)] (.one (.sc .slc)) h12 fun r31 h13 =>
  (Held.ok [(a24.add (s8.1.toNat * 1), (.slice x25.ptr x25.len x25.cap))] h13) ∧
  ∃ a32 : Addr, (s2.1.ptr = some a32 ∧ 0 ≤ s8.1 ∧ s8.1 < ((s2.1.len : Nat) : Int)) ∧
  Runs Tryz.prog (Instr.storeAt 58 (.pointer (some (a32.add (s8.1.toNat * 1)))) (.slice r31.ptr r31.len r31.cap)) h13 fun _ h14 =>
  (Held.ok [] h14) ∧
  K7 () h14))
  (fun K6 =>
  ∃ a17 : Addr, (s2.1.ptr = some a17 ∧ 0 ≤ s8.1 ∧ s8.1 < ((s2.1.len : Nat) : Int)) ∧
  ∃ x18 : Sl, cellOf h8 (a17.add (s8.1.toNat * 1)) = some (.slice x18.ptr x18.len x18.cap) ∧
  ∃ a19 : Addr, (s2.1.ptr = some a19 ∧ 0 ≤ s12.1 ∧ s12.1 < ((s2.1.len : Nat) : Int)) ∧
  ∃ x20 : Sl, cellOf h8 (a19.add (s12.1.toNat * 1)) = some (.slice x20.ptr x20.len x20.cap) ∧
  ∃ a21 : Addr, (s2.1.ptr = some a21 ∧ 0 ≤ s12.1 ∧ s12.1 < ((s2.1.len : Nat) : Int)) ∧
  Runs Tryz.prog (Instr.storeAt 58 (.pointer (some (a21.add (s12.1.toNat * 1)))) (.slice x18.ptr x18.len x18.cap)) h8 fun _ h9 =>
  (Held.ok [] h9) ∧
  ∃ a22 : Addr, (s2.1.ptr = some a22 ∧ 0 ≤ s8.1 ∧ s8.1 < ((s2.1.len : Nat) : Int)) ∧
  Runs Tryz.prog (Instr.storeAt 58 (.pointer (some (a22.add (s8.1.toNat * 1)))) (.slice x20.ptr x20.len x20.cap)) h9 fun _ h10 =>
  (Held.ok [] h10) ∧
  K6 () h10)))) ((-1 : Int), s8.1) h7)
  (fun K4 =>
  Br (decide (((s2.1.len : Nat) : Int) > (0 : Int))) (∃ a9 : Addr, (s2.1.ptr = some a9 ∧ 0 ≤ (0 : Int) ∧ (0 : Int) < ((s2.1.len : Nat) : Int)) ∧
  ∃ x10 : Sl, cellOf h6 (a9.add ((0 : Int).toNat * 1)) = some (.slice x10.ptr x10.len x10.cap) ∧
  Br (decide (s8.2 < ((x10.len : Nat) : Int)))
  (K4 () h6)
  (K2 s8.1 h6)) (K2 s8.1 h6))) ((0 : Int), (0 : Int)) h2))) ((⟨none, 0, 0⟩ : Sl), (0 : Int)) h1)
noncomputable def wellspringref01_Reduce_ann : Ann := (.two .n (.two .n (.two .n (.two (.two .n (.inn (.loop [(3, (.sc .slc)), (15, (.sc (.int .i64)))] [(3, 5), (15, 27)] .n))) (.two .n (.two (.join [(5, (.sc (.int .i64)))] [(5, 10), (27, 132)] (.two .n (.inn (.loop [(5, (.sc (.int .i64))), (6, (.sc (.int .i64)))] [(5, 10), (27, 132)] (.two (.join [] [(27, 38)] .n) (.two (.inn (.two .n (.two (.two .n (.inn (.loop [(7, (.sc (.int .i64))), (8, (.sc (.int .i64)))] [(7, 9), (41, 60)] .n))) (.two .n (.two (.join [] [(62, 76)] .n) (.two (.join [] [(76, 92)] .n) (.two (.two .n (.inn (.loop [(94, (.sc (.int .i64)))] [(9, 10), (94, 130)] (.two .n (.two .n (.two (.inn (.two .n (.two (.join [(109, (.sc .bool))] [(97, 110)] .n) .n))) .n)))))) .n))))))) .n)))))) .n))))))
theorem wellspringref01_Reduce_eq (a_0 : Sl) (R : Value → Heap → Prop) (h : Heap) : fnV C Tryz.f61 300 wellspringref01_Reduce_ann [(.slice a_0.ptr a_0.len a_0.cap)] R h = wellspringref01_Reduce_m a_0 R h := by kernel_rfl
theorem wellspringref01_Reduce_run (a_0 : Sl) {R : Value → Heap → Prop} {h : Heap} (hm : wellspringref01_Reduce_m a_0 R h) : Meets Tryz.prog 61 #[(.slice a_0.ptr a_0.len a_0.cap)] h R :=
  fn_spec C_ok (f := 61) (fn := Tryz.f61) (args := [(.slice a_0.ptr a_0.len a_0.cap)]) Tryz.func61 (by rw [Tryz.ntmps61]; exact Nat.le_of_ble_eq_true rfl) (cast (wellspringref01_Reduce_eq a_0 R h).symm hm)
/-- wellspring/wellspringref01.Ahead -/
abbrev wellspringref01_Ahead_id : FuncId := 62
noncomputable def wellspringref01_Ahead_m (p_0 : Int × Int × Int) (R : Value → Heap → Prop) (h : Heap) : Prop :=
  RunsA Tryz.prog (Instr.box 23 (.agg #[(.int .i64 p_0.1), (.int .i64 p_0.2.1), (.int .i64 p_0.2.2)])) h fun a1 h1 =>
  JoinM (σ := Sl) (fun s18 h12 =>
  R (.slice s18.ptr s18.len s18.cap) h12)
  (fun K1 =>
  LoopM (σ := Sl × Int) (fun s2 K2 h2 =>
  JoinM (σ := Unit) (fun _ h4 =>
  ∃ x7 : Int, cellOf h4 a1 = some (.int .i64 x7) ∧
  ∃ x8 : Int, cellOf h4 (a1.add 1) = some (.int .i64 x8) ∧
  RunsR Tryz.prog (Instr.makeSlice 58 (.int .i64 (IntKind.wrap .i64 (x7 + x8))) (.int .i64 (IntKind.wrap .i64 (x7 + x8)))) (.one (.sc .slc)) h4 fun v9 h5 =>
  LoopM (σ := Int) (fun s10 K4 h6 =>
  ∃ x11 : Int, cellOf h6 a1 = some (.int .i64 x11) ∧
  Br (decide (s10 < x11))
  (CallM Tryz.prog 82 #[(.int .i64 (IntKind.wrap .i64 ((IntKind.wrap .i64 (s2.2 + (1 : Int))) * (IntKind.wrap .i64 (s10 + (1 : Int))))))] (.one (.sc (.int .u8))) h6 fun r12 h7 =>
  ∃ a13 : Addr, (v9.ptr = some a13 ∧ 0 ≤ s10 ∧ s10 < ((v9.len : Nat) : Int)) ∧
  Runs Tryz.prog (Instr.storeAt 5 (.pointer (some (a13.add (s10.toNat * 1)))) (.int .u8 r12)) h7 fun _ h8 =>
  K4 (IntKind.wrap .i64 (s10 + (1 : Int))) h8)
  (∃ x14 : Int, cellOf h6 a1 = some (.int .i64 x14) ∧
  ∃ a15 : Addr, (v9.ptr = some a15 ∧ 0 ≤ (IntKind.wrap .i64 (x14 + s2.2)) ∧ (IntKind.wrap .i64 (x14 + s2.2)) < ((v9.len : Nat) : Int)) ∧
  Runs Tryz.prog (Instr.storeAt 5 (.pointer (some (a15.add ((IntKind.wrap .i64 (x14 + s2.2)).toNat * 1)))) (.int .u8 (1 : Int))) h6 fun _ h9 =>
  RunsR Tryz.prog (Instr.buildSlice 56 1 #[(0, (.slice v9.ptr v9.len v9.cap))]) (.one (.sc .slc)) h9 fun v16 h10 =>
  RunsR Tryz.prog (Builtin.append_ #[56, 56] 56 #[(.slice s2.1.ptr s2.1.len s2.1.cap), (.slice v16.ptr v16.len v16.cap)]) (.one (.sc .slc)) h10 fun v17 h11 =>
  K2 ((⟨v17.ptr, v17.len, v17.cap⟩ : Sl), IntKind.wrap .i64 (s2.2 + (1 : Int))) h11)) (0 : Int) h5)
  (fun K3 =>
  ∃ x3 : Int, cellOf h2 (a1.add 1) = some (.int .i64 x3) ∧
  Br (decide (s2.2 < x3)) (∃ x4 : Int × Int × Int, cellsAt h2 a1 0 [(.int .i64 x4.1), (.int .i64 x4.2.1), (.int .i64 x4.2.2)] ∧
  CallM Tryz.prog 33 #[(.agg #[(.int .i64 x4.1), (.int .i64 x4.2.1), (.int .i64 x4.2.2)])] (.one (.sc .bool)) h2 fun r5 h3 =>
  Br r5
  (K3 () h3)
  (K1 (⟨s2.1.ptr, s2.1.len, s2.1.cap⟩ : Sl) h3)) (K1 (⟨s2.1.ptr, s2.1.len, s2.1.cap⟩ : Sl) h2))) ((⟨none, 0, 0⟩ : Sl), (0 : Int)) h1)
noncomputable def wellspringref01_Ahead_ann : Ann := (.two .n (.two .n (.two (.join [(3, (.sc .slc))] [(3, 48)] (.two .n (.inn (.loop [(3, (.sc .slc)), (4, (.sc (.int .i64)))] [(3, 48)] (.two (.join [] [(7, 15)] .n) (.two (.inn (.two .n (.two (.two .n (.inn (.loop [(6, (.sc (.int .i64)))] [(6, 7), (23, 38)] .n))) .n))) .n)))))) .n)))
theorem wellspringref01_Ahead_eq (p_0 : Int × Int × Int) (R : Value → Heap → Prop) (h : Heap) : fnV C Tryz.f62 300 wellspringref01_Ahead_ann [(.agg #[(.int .i64 p_0.1), (.int .i64 p_0.2.1), (.int .i64 p_0.2.2)])] R h = wellspringref01_Ahead_m p_0 R h := by kernel_rfl
theorem wellspringref01_Ahead_run (p_0 : Int × Int × Int) {R : Value → Heap → Prop} {h : Heap} (hm : wellspringref01_Ahead_m p_0 R h) : Meets Tryz.prog 62 #[(.agg #[(.int .i64 p_0.1), (.int .i64 p_0.2.1), (.int .i64 p_0.2.2)])] h R :=
  fn_spec C_ok (f := 62) (fn := Tryz.f62) (args := [(.agg #[(.int .i64 p_0.1), (.int .i64 p_0.2.1), (.int .i64 p_0.2.2)])]) Tryz.func62 (by rw [Tryz.ntmps62]; exact Nat.le_of_ble_eq_true rfl) (cast (wellspringref01_Ahead_eq p_0 R h).symm hm)
/-- wellspring/wellspringref01.MayID -/
abbrev wellspringref01_MayID_id : FuncId := 63
noncomputable def wellspringref01_MayID_m (id_0 : Int) (R : Value → Heap → Prop) (h : Heap) : Prop :=
  Br (decide (id_0 ≥ (0 : Int))) (R (.bool (decide (id_0 ≤ (65535 : Int)))) h) (R (.bool false) h)
noncomputable def wellspringref01_MayID_ann : Ann := .n
theorem wellspringref01_MayID_eq (id_0 : Int) (R : Value → Heap → Prop) (h : Heap) : fnV C Tryz.f63 300 wellspringref01_MayID_ann [(.int .i64 id_0)] R h = wellspringref01_MayID_m id_0 R h := by kernel_rfl
theorem wellspringref01_MayID_run (id_0 : Int) {R : Value → Heap → Prop} {h : Heap} (hm : wellspringref01_MayID_m id_0 R h) : Meets Tryz.prog 63 #[(.int .i64 id_0)] h R :=
  fn_spec C_ok (f := 63) (fn := Tryz.f63) (args := [(.int .i64 id_0)]) Tryz.func63 (by rw [Tryz.ntmps63]; exact Nat.le_of_ble_eq_true rfl) (cast (wellspringref01_MayID_eq id_0 R h).symm hm)
/-- wellspring/wellspringref01.Row -/
abbrev wellspringref01_Row_id : FuncId := 64
noncomputable def wellspringref01_Row_m (p_0 : Int × Int × Int) (seed_1 : Int) (id_2 : Int) (R : Value → Heap → Prop) (h : Heap) : Prop :=
  RunsA Tryz.prog (Instr.box 23 (.agg #[(.int .i64 p_0.1), (.int .i64 p_0.2.1), (.int .i64 p_0.2.2)])) h fun a1 h1 =>
  JoinM (σ := Unit) (fun _ h4 =>
  ∃ x6 : Int × Int × Int, cellsAt h4 a1 0 [(.int .i64 x6.1), (.int .i64 x6.2.1), (.int .i64 x6.2.2)] ∧
  CallM Tryz.prog 60 #[(.agg #[(.int .i64 x6.1), (.int .i64 x6.2.1), (.int .i64 x6.2.2)])] (.one (.sc (.int .i64))) h4 fun r7 h5 =>
  RunsR Tryz.prog (Instr.makeSlice 58 (.int .i64 r7) (.int .i64 r7)) (.one (.sc .slc)) h5 fun v8 h6 =>
  ∃ x9 : Int × Int × Int, cellsAt h6 a1 0 [(.int .i64 x9.1), (.int .i64 x9.2.1), (.int .i64 x9.2.2)] ∧
  CallM Tryz.prog 83 #[(.agg #[(.int .i64 x9.1), (.int .i64 x9.2.1), (.int .i64 x9.2.2)]), (.int .u32 seed_1), (.int .i64 id_2)] (.one (.sc .slc)) h6 fun r10 h7 =>
  LoopM (σ := Int) (fun s11 K2 h8 =>
  Br (decide (s11 < ((r10.len : Nat) : Int)))
  (∃ a12 : Addr, (r10.ptr = some a12 ∧ 0 ≤ s11 ∧ s11 < ((r10.len : Nat) : Int)) ∧
  ∃ x13 : Int, cellOf h8 (a12.add (s11.toNat * 1)) = some (.int .i64 x13) ∧
  ∃ a14 : Addr, (v8.ptr = some a14 ∧ 0 ≤ x13 ∧ x13 < ((v8.len : Nat) : Int)) ∧
  Runs Tryz.prog (Instr.storeAt 5 (.pointer (some (a14.add (x13.toNat * 1)))) (.int .u8 (1 : Int))) h8 fun _ h9 =>
  K2 (IntKind.wrap .i64 (s11 + (1 : Int))) h9)
  (R (.slice v8.ptr v8.len v8.cap) h8)) (0 : Int) h7)
  (fun K1 =>
  ∃ x2 : Int × Int × Int, cellsAt h1 a1 0 [(.int .i64 x2.1), (.int .i64 x2.2.1), (.int .i64 x2.2.2)] ∧
  CallM Tryz.prog 33 #[(.agg #[(.int .i64 x2.1), (.int .i64 x2.2.1), (.int .i64 x2.2.2)])] (.one (.sc .bool)) h1 fun r3 h2 =>
  Br (!r3) (R (.slice none 0 0) h2) (CallM Tryz.prog 63 #[(.int .i64 id_2)] (.one (.sc .bool)) h2 fun r4 h3 =>
  Br (!r4)
  (R (.slice none 0 0) h3)
  (K1 () h3)))
noncomputable def wellspringref01_Row_ann : Ann := (.two .n (.two (.join [] [(6, 7), (10, 18)] .n) (.two .n (.two (.two .n (.inn (.loop [(26, (.sc (.int .i64)))] [(9, 10), (26, 34)] .n))) .n))))
theorem wellspringref01_Row_eq (p_0 : Int × Int × Int) (seed_1 : Int) (id_2 : Int) (R : Value → Heap → Prop) (h : Heap) : fnV C Tryz.f64 300 wellspringref01_Row_ann [(.agg #[(.int .i64 p_0.1), (.int .i64 p_0.2.1), (.int .i64 p_0.2.2)]), (.int .u32 seed_1), (.int .i64 id_2)] R h = wellspringref01_Row_m p_0 seed_1 id_2 R h := by kernel_rfl
theorem wellspringref01_Row_run (p_0 : Int × Int × Int) (seed_1 : Int) (id_2 : Int) {R : Value → Heap → Prop} {h : Heap} (hm : wellspringref01_Row_m p_0 seed_1 id_2 R h) : Meets Tryz.prog 64 #[(.agg #[(.int .i64 p_0.1), (.int .i64 p_0.2.1), (.int .i64 p_0.2.2)]), (.int .u32 seed_1), (.int .i64 id_2)] h R :=
  fn_spec C_ok (f := 64) (fn := Tryz.f64) (args := [(.agg #[(.int .i64 p_0.1), (.int .i64 p_0.2.1), (.int .i64 p_0.2.2)]), (.int .u32 seed_1), (.int .i64 id_2)]) Tryz.func64 (by rw [Tryz.ntmps64]; exact Nat.le_of_ble_eq_true rfl) (cast (wellspringref01_Row_eq p_0 seed_1 id_2 R h).symm hm)
/-- wellspring/gf.times -/
abbrev gf_times_id : FuncId := 65
noncomputable def gf_times_m (a_0 : Int) (b_1 : Int) (R : Value → Heap → Prop) (h : Heap) : Prop :=
  LoopM (σ := Int × Int × Int) (fun s1 K1 h1 =>
  Br (s1.2.1 == (0 : Int))
  (R (.int .u8 s1.2.2) h1)
  (JoinM (σ := Int) (fun s2 h2 =>
  (0 ≤ (1 : Int)) ∧
  JoinM (σ := Int) (fun s3 h3 =>
  (0 ≤ (1 : Int)) ∧
  K1 (s3, Int.fdiv s1.2.1 (2 ^ min (1 : Int).toNat (IntKind.bits .u8)), s2) h3)
  (fun K3 =>
  Br ((IntKind.wrap .u8 ((BitVec.ofInt (IntKind.bits .u8) s1.1 &&& (BitVec.ofInt (IntKind.bits .u8) (128 : Int))).toNat : Nat)) != (0 : Int))
  (K3 (IntKind.wrap .u8 ((BitVec.ofInt (IntKind.bits .u8) (IntKind.wrap .u8 (s1.1 * 2 ^ min (1 : Int).toNat (IntKind.bits .u8))) ^^^ (BitVec.ofInt (IntKind.bits .u8) (27 : Int))).toNat : Nat)) h2)
  (K3 (IntKind.wrap .u8 (s1.1 * 2 ^ min (1 : Int).toNat (IntKind.bits .u8))) h2)))
  (fun K2 =>
  Br ((IntKind.wrap .u8 ((BitVec.ofInt (IntKind.bits .u8) s1.2.1 &&& (BitVec.ofInt (IntKind.bits .u8) (1 : Int))).toNat : Nat)) == (1 : Int))
  (K2 (IntKind.wrap .u8 ((BitVec.ofInt (IntKind.bits .u8) s1.2.2 ^^^ (BitVec.ofInt (IntKind.bits .u8) s1.1)).toNat : Nat)) h1)
  (K2 s1.2.2 h1)))) (a_0, b_1, (0 : Int)) h
noncomputable def gf_times_ann : Ann := (.two .n (.scope 0 [(0, (.sc (.int .u8))), (1, (.sc (.int .u8))), (5, (.sc (.int .u8)))] [(0, 2), (4, 26)] [.n] [(.two .n (.two (.join [(5, (.sc (.int .u8)))] [(5, 6), (10, 16)] .n) (.two .n (.two .n (.two (.join [(0, (.sc (.int .u8)))] [(0, 1), (21, 24)] .n) .n)))))] []))
theorem gf_times_eq (a_0 : Int) (b_1 : Int) (R : Value → Heap → Prop) (h : Heap) : fnV C Tryz.f65 300 gf_times_ann [(.int .u8 a_0), (.int .u8 b_1)] R h = gf_times_m a_0 b_1 R h := by kernel_rfl
theorem gf_times_run (a_0 : Int) (b_1 : Int) {R : Value → Heap → Prop} {h : Heap} (hm : gf_times_m a_0 b_1 R h) : Meets Tryz.prog 65 #[(.int .u8 a_0), (.int .u8 b_1)] h R :=
  fn_spec C_ok (f := 65) (fn := Tryz.f65) (args := [(.int .u8 a_0), (.int .u8 b_1)]) Tryz.func65 (by rw [Tryz.ntmps65]; exact Nat.le_of_ble_eq_true rfl) (cast (gf_times_eq a_0 b_1 R h).symm hm)
/-- (*wellspring/gf.Field).own -/
abbrev gf_Field_own_id : FuncId := 66
noncomputable def gf_Field_own_m (f_0 : Option Addr) (R : Value → Heap → Prop) (h : Heap) : Prop :=
  Br (Option.isNone f_0)
  (CallM Tryz.prog 28 #[] (.one (.sc .ptr)) h fun r1 h1 =>
  R (.pointer r1) h1)
  (R (.pointer f_0) h)
noncomputable def gf_Field_own_ann : Ann := .n
theorem gf_Field_own_eq (f_0 : Option Addr) (R : Value → Heap → Prop) (h : Heap) : fnV C Tryz.f66 300 gf_Field_own_ann [(.pointer f_0)] R h = gf_Field_own_m f_0 R h := by kernel_rfl
theorem gf_Field_own_run (f_0 : Option Addr) {R : Value → Heap → Prop} {h : Heap} (hm : gf_Field_own_m f_0 R h) : Meets Tryz.prog 66 #[(.pointer f_0)] h R :=
  fn_spec C_ok (f := 66) (fn := Tryz.f66) (args := [(.pointer f_0)]) Tryz.func66 (by rw [Tryz.ntmps66]; exact Nat.le_of_ble_eq_true rfl) (cast (gf_Field_own_eq f_0 R h).symm hm)
/-- bytes.Clone -/
abbrev bytes_Clone_id : FuncId := 67
noncomputable def bytes_Clone_m (b_0 : Sl) (R : Value → Heap → Prop) (h : Heap) : Prop :=
  Br (Option.isNone b_0.ptr)
  (R (.slice none 0 0) h)
  (RunsR Tryz.prog (Instr.buildSlice 58 0 #[]) (.one (.sc .slc)) h fun v1 h1 =>
  RunsR Tryz.prog (Builtin.append_ #[58, 58] 58 #[(.slice v1.ptr v1.len v1.cap), (.slice b_0.ptr b_0.len b_0.cap)]) (.one (.sc .slc)) h1 fun v2 h2 =>
  R (.slice v2.ptr v2.len v2.cap) h2)
noncomputable def bytes_Clone_ann : Ann := .n
theorem bytes_Clone_eq (b_0 : Sl) (R : Value → Heap → Prop) (h : Heap) : fnV C Tryz.f67 300 bytes_Clone_ann [(.slice b_0.ptr b_0.len b_0.cap)] R h = bytes_Clone_m b_0 R h := by kernel_rfl
theorem bytes_Clone_run (b_0 : Sl) {R : Value → Heap → Prop} {h : Heap} (hm : bytes_Clone_m b_0 R h) : Meets Tryz.prog 67 #[(.slice b_0.ptr b_0.len b_0.cap)] h R :=
  fn_spec C_ok (f := 67) (fn := Tryz.f67) (args := [(.slice b_0.ptr b_0.len b_0.cap)]) Tryz.func67 (by rw [Tryz.ntmps67]; exact Nat.le_of_ble_eq_true rfl) (cast (bytes_Clone_eq b_0 R h).symm hm)
/-- wellspring/row.Axpy -/
abbrev row_Axpy_id : FuncId := 68
noncomputable def row_Axpy_m (f_0 : Option Addr) (c_1 : Int) (a_2 : Sl) (b_3 : Sl) (R : Value → Heap → Prop) (h : Heap) : Prop :=
  CallM Tryz.prog 85 #[(.pointer f_0), (.int .u8 c_1), (.slice a_2.ptr a_2.len a_2.cap)] (.one (.sc .slc)) h fun r1 h1 =>
  CallM Tryz.prog 84 #[(.slice r1.ptr r1.len r1.cap), (.slice b_3.ptr b_3.len b_3.cap)] (.many [(.sc .slc), (.sc .bool)]) h1 fun r2 h2 =>
  R (.tuple #[(.slice r2.1.ptr r2.1.len r2.1.cap), (.bool r2.2)]) h2
noncomputable def row_Axpy_ann : Ann := .n
theorem row_Axpy_eq (f_0 : Option Addr) (c_1 : Int) (a_2 : Sl) (b_3 : Sl) (R : Value → Heap → Prop) (h : Heap) : fnV C Tryz.f68 300 row_Axpy_ann [(.pointer f_0), (.int .u8 c_1), (.slice a_2.ptr a_2.len a_2.cap), (.slice b_3.ptr b_3.len b_3.cap)] R h = row_Axpy_m f_0 c_1 a_2 b_3 R h := by kernel_rfl
theorem row_Axpy_run (f_0 : Option Addr) (c_1 : Int) (a_2 : Sl) (b_3 : Sl) {R : Value → Heap → Prop} {h : Heap} (hm : row_Axpy_m f_0 c_1 a_2 b_3 R h) : Meets Tryz.prog 68 #[(.pointer f_0), (.int .u8 c_1), (.slice a_2.ptr a_2.len a_2.cap), (.slice b_3.ptr b_3.len b_3.cap)] h R :=
  fn_spec C_ok (f := 68) (fn := Tryz.f68) (args := [(.pointer f_0), (.int .u8 c_1), (.slice a_2.ptr a_2.len a_2.cap), (.slice b_3.ptr b_3.len b_3.cap)]) Tryz.func68 (by rw [Tryz.ntmps68]; exact Nat.le_of_ble_eq_true rfl) (cast (row_Axpy_eq f_0 c_1 a_2 b_3 R h).symm hm)
/-- slices.IndexFunc[[]byte,byte] -/
abbrev slices_IndexFunc_byte_byte_id : FuncId := 69
noncomputable def slices_IndexFunc_byte_byte_m (s_0 : Sl) (f_1 : FuncId × Array Value) (R : Value → Heap → Prop) (h : Heap) : Prop :=
  LoopM (σ := Int) (fun s1 K1 h1 =>
  Br (decide (s1 < ((s_0.len : Nat) : Int)))
  (∃ a2 : Addr, (s_0.ptr = some a2 ∧ 0 ≤ s1 ∧ s1 < ((s_0.len : Nat) : Int)) ∧
  ∃ x3 : Int, cellOf h1 (a2.add (s1.toNat * 1)) = some (.int .u8 x3) ∧
  DynM C f_1.1 ([(.int .u8 x3)] ++ f_1.2.toList) (.one (.sc .bool)) h1 fun r4 h2 =>
  Br r4
  (R (.int .i64 s1) h2)
  (K1 (IntKind.wrap .i64 (s1 + (1 : Int))) h2))
  (R (.int .i64 (-1 : Int)) h1)) (0 : Int) h
noncomputable def slices_IndexFunc_byte_byte_ann : Ann := (.two .n (.two (.two .n (.inn (.loop [(8, (.sc (.int .i64)))] [(4, 6), (8, 19)] .n))) .n))
theorem slices_IndexFunc_byte_byte_eq (s_0 : Sl) (f_1 : FuncId × Array Value) (R : Value → Heap → Prop) (h : Heap) : fnV C Tryz.f69 300 slices_IndexFunc_byte_byte_ann [(.slice s_0.ptr s_0.len s_0.cap), (.func (.func f_1.1) #[] f_1.2)] R h = slices_IndexFunc_byte_byte_m s_0 f_1 R h := by kernel_rfl
theorem slices_IndexFunc_byte_byte_run (s_0 : Sl) (f_1 : FuncId × Array Value) {R : Value → Heap → Prop} {h : Heap} (hm : slices_IndexFunc_byte_byte_m s_0 f_1 R h) : Meets Tryz.prog 69 #[(.slice s_0.ptr s_0.len s_0.cap), (.func (.func f_1.1) #[] f_1.2)] h R :=
  fn_spec C_ok (f := 69) (fn := Tryz.f69) (args := [(.slice s_0.ptr s_0.len s_0.cap), (.func (.func f_1.1) #[] f_1.2)]) Tryz.func69 (by rw [Tryz.ntmps69]; exact Nat.le_of_ble_eq_true rfl) (cast (slices_IndexFunc_byte_byte_eq s_0 f_1 R h).symm hm)
/-- wellspring/row.Lead$1 -/
abbrev row_Lead_1_id : FuncId := 70
noncomputable def row_Lead_1_m (x_0 : Int) (R : Value → Heap → Prop) (h : Heap) : Prop :=
  R (.bool (x_0 != (0 : Int))) h
noncomputable def row_Lead_1_ann : Ann := .n
theorem row_Lead_1_eq (x_0 : Int) (R : Value → Heap → Prop) (h : Heap) : fnV C Tryz.f70 300 row_Lead_1_ann [(.int .u8 x_0)] R h = row_Lead_1_m x_0 R h := by kernel_rfl
theorem row_Lead_1_run (x_0 : Int) {R : Value → Heap → Prop} {h : Heap} (hm : row_Lead_1_m x_0 R h) : Meets Tryz.prog 70 #[(.int .u8 x_0)] h R :=
  fn_spec C_ok (f := 70) (fn := Tryz.f70) (args := [(.int .u8 x_0)]) Tryz.func70 (by rw [Tryz.ntmps70]; exact Nat.le_of_ble_eq_true rfl) (cast (row_Lead_1_eq x_0 R h).symm hm)
/-- wellspring/mat.May -/
abbrev mat_May_id : FuncId := 71
noncomputable def mat_May_m (a_0 : Sl) (R : Value → Heap → Prop) (h : Heap) : Prop :=
  LoopM (σ := Int) (fun s1 K1 h1 =>
  Br (decide (s1 < ((a_0.len : Nat) : Int)))
  (∃ a2 : Addr, (a_0.ptr = some a2 ∧ 0 ≤ s1 ∧ s1 < ((a_0.len : Nat) : Int)) ∧
  ∃ x3 : Sl, cellOf h1 (a2.add (s1.toNat * 1)) = some (.slice x3.ptr x3.len x3.cap) ∧
  ∃ a4 : Addr, (a_0.ptr = some a4 ∧ 0 ≤ (0 : Int) ∧ (0 : Int) < ((a_0.len : Nat) : Int)) ∧
  ∃ x5 : Sl, cellOf h1 (a4.add ((0 : Int).toNat * 1)) = some (.slice x5.ptr x5.len x5.cap) ∧
  Br (((x3.len : Nat) : Int) != ((x5.len : Nat) : Int)) (R (.bool false) h1) (Br (decide (((x3.len : Nat) : Int) > (64 : Int)))
  (R (.bool false) h1)
  (K1 (IntKind.wrap .i64 (s1 + (1 : Int))) h1)))
  (R (.bool true) h1)) (0 : Int) h
noncomputable def mat_May_ann : Ann := (.two .n (.two (.two .n (.inn (.loop [(7, (.sc (.int .i64)))] [(2, 3), (4, 5), (7, 24)] .n))) .n))
theorem mat_May_eq (a_0 : Sl) (R : Value → Heap → Prop) (h : Heap) : fnV C Tryz.f71 300 mat_May_ann [(.slice a_0.ptr a_0.len a_0.cap)] R h = mat_May_m a_0 R h := by kernel_rfl
theorem mat_May_run (a_0 : Sl) {R : Value → Heap → Prop} {h : Heap} (hm : mat_May_m a_0 R h) : Meets Tryz.prog 71 #[(.slice a_0.ptr a_0.len a_0.cap)] h R :=
  fn_spec C_ok (f := 71) (fn := Tryz.f71) (args := [(.slice a_0.ptr a_0.len a_0.cap)]) Tryz.func71 (by rw [Tryz.ntmps71]; exact Nat.le_of_ble_eq_true rfl) (cast (mat_May_eq a_0 R h).symm hm)
/-- wellspring/mat.own -/
abbrev mat_own_id : FuncId := 72
noncomputable def mat_own_m (a_0 : Sl) (R : Value → Heap → Prop) (h : Heap) : Prop :=
  RunsR Tryz.prog (Instr.makeSlice 56 (.int .i64 (0 : Int)) (.int .i64 ((a_0.len : Nat) : Int))) (.one (.sc .slc)) h fun v1 h1 =>
  LoopM (σ := Sl × Int) (fun s2 K1 h2 =>
  Br (decide (s2.2 < ((a_0.len : Nat) : Int)))
  (∃ a3 : Addr, (a_0.ptr = some a3 ∧ 0 ≤ s2.2 ∧ s2.2 < ((a_0.len : Nat) : Int)) ∧
  ∃ x4 : Sl, cellOf h2 (a3.add (s2.2.toNat * 1)) = some (.slice x4.ptr x4.len x4.cap) ∧
  CallM Tryz.prog 67 #[(.slice x4.ptr x4.len x4.cap)] (.one (.sc .slc)) h2 fun r5 h3 =>
  RunsR Tryz.prog (Instr.buildSlice 56 1 #[(0, (.slice r5.ptr r5.len r5.cap))]) (.one (.sc .slc)) h3 fun v6 h4 =>
  RunsR Tryz.prog (Builtin.append_ #[56, 56] 56 #[(.slice s2.1.ptr s2.1.len s2.1.cap), (.slice v6.ptr v6.len v6.cap)]) (.one (.sc .slc)) h4 fun v7 h5 =>
  K1 ((⟨v7.ptr, v7.len, v7.cap⟩ : Sl), IntKind.wrap .i64 (s2.2 + (1 : Int))) h5)
  (R (.slice s2.1.ptr s2.1.len s2.1.cap) h2)) ((⟨v1.ptr, v1.len, v1.cap⟩ : Sl), (0 : Int)) h1
noncomputable def mat_own_ann : Ann := (.two .n (.two .n (.two (.two .n (.inn (.loop [(3, (.sc .slc)), (11, (.sc (.int .i64)))] [(3, 4), (5, 6), (11, 21)] .n))) .n)))
theorem mat_own_eq (a_0 : Sl) (R : Value → Heap → Prop) (h : Heap) : fnV C Tryz.f72 300 mat_own_ann [(.slice a_0.ptr a_0.len a_0.cap)] R h = mat_own_m a_0 R h := by kernel_rfl
theorem mat_own_run (a_0 : Sl) {R : Value → Heap → Prop} {h : Heap} (hm : mat_own_m a_0 R h) : Meets Tryz.prog 72 #[(.slice a_0.ptr a_0.len a_0.cap)] h R :=
  fn_spec C_ok (f := 72) (fn := Tryz.f72) (args := [(.slice a_0.ptr a_0.len a_0.cap)]) Tryz.func72 (by rw [Tryz.ntmps72]; exact Nat.le_of_ble_eq_true rfl) (cast (mat_own_eq a_0 R h).symm hm)
/-- wellspring/mat.reduce -/
abbrev mat_reduce_id : FuncId := 73
noncomputable def mat_reduce_m (f_0 : Option Addr) (a_1 : Sl) (cols_2 : Int) (R : Value → Heap → Prop) (h : Heap) : Prop :=
  LoopM (σ := Int × Int) (fun s1 K1 h1 =>
  Br (decide (s1.2 < cols_2))
  (CallM Tryz.prog 86 #[(.slice a_1.ptr a_1.len a_1.cap), (.int .i64 s1.1), (.int .i64 s1.2)] (.one (.sc (.int .i64))) h1 fun r2 h2 =>
  Br (decide (r2 < (0 : Int)))
  (K1 (s1.1, IntKind.wrap .i64 (s1.2 + (1 : Int))) h2)
  (JoinM (σ := Unit) (fun _ h5 =>
  JoinM (σ := Unit) (fun _ h9 =>
  LoopM (σ := Int) (fun s20 K4 h10 =>
  Br (decide (s20 < ((a_1.len : Nat) : Int)))
  (Br (s20 != s1.1)
  (∃ a21 : Addr, (a_1.ptr = some a21 ∧ 0 ≤ s20 ∧ s20 < ((a_1.len : Nat) : Int)) ∧
  ∃ x22 : Sl, cellOf h10 (a21.add (s20.toNat * 1)) = some (.slice x22.ptr x22.len x22.cap) ∧
  ∃ a23 : Addr, (x22.ptr = some a23 ∧ 0 ≤ s1.2 ∧ s1.2 < ((x22.len : Nat) : Int)) ∧
  ∃ x24 : Int, cellOf h10 (a23.add (s1.2.toNat * 1)) = some (.int .u8 x24) ∧
  ∃ a25 : Addr, (a_1.ptr = some a25 ∧ 0 ≤ s1.1 ∧ s1.1 < ((a_1.len : Nat) : Int)) ∧
  ∃ x26 : Sl, cellOf h10 (a25.add (s1.1.toNat * 1)) = some (.slice x26.ptr x26.len x26.cap) ∧
  ∃ a27 : Addr, (a_1.ptr = some a27 ∧ 0 ≤ s20 ∧ s20 < ((a_1.len : Nat) : Int)) ∧
  ∃ x28 : Sl, cellOf h10 (a27.add (s20.toNat * 1)) = some (.slice x28.ptr x28.len x28.cap) ∧
  CallM Tryz.prog 88 #[(.pointer f_0), (.int .u8 x24), (.slice x26.ptr x26.len x26.cap), (.slice x28.ptr x28.len x28.cap)] (.many []) h10 fun _ h11 =>
  (Held.ok [(a21.add (s20.toNat * 1), (.slice x22.ptr x22.len x22.cap))] h11) ∧
  K4 (IntKind.wrap .i64 (s20 + (1 : Int))) h11)
  (K4 (IntKind.wrap .i64 (s20 + (1 : Int))) h10))
  (K1 (IntKind.wrap .i64 (s1.1 + (1 : Int)), IntKind.wrap .i64 (s1.2 + (1 : Int))) h10)) (0 : Int) h9)
  (fun K3 =>
  ∃ a10 : Addr, (a_1.ptr = some a10 ∧ 0 ≤ s1.1 ∧ s1.1 < ((a_1.len : Nat) : Int)) ∧
  ∃ x11 : Sl, cellOf h5 (a10.add (s1.1.toNat * 1)) = some (.slice x11.ptr x11.len x11.cap) ∧
  ∃ a12 : Addr, (x11.ptr = some a12 ∧ 0 ≤ s1.2 ∧ s1.2 < ((x11.len : Nat) : Int)) ∧
  ∃ x13 : Int, cellOf h5 (a12.add (s1.2.toNat * 1)) = some (.int .u8 x13) ∧
  ∃ a14 : Addr, (a_1.ptr = some a14 ∧ 0 ≤ s1.1 ∧ s1.1 < ((a_1.len : Nat) : Int)) ∧
  ∃ x15 : Sl, cellOf h5 (a14.add (s1.1.toNat * 1)) = some (.slice x15.ptr x15.len x15.cap) ∧
  CallM Tryz.prog 87 #[(.pointer f_0), (.int .u8 x13)] (.one (.sc (.int .u8))) h5 fun r16 h6 =>
  (Held.ok [(a14.add (s1.1.toNat * 1), (.slice x15.ptr x15.len x15.cap)), (a10.add (s1.1.toNat * 1), (.slice x11.ptr x11.len x11.cap))] h6) ∧
  CallM Tryz.prog 85 #[(.pointer f_0), (.int .u8 r16), (.slice x15.ptr x15.len x15.cap)] (.one (.sc .slc)) h6 fun r17 h7 =>
  (Held.ok [(a10.add (s1.1.toNat * 1), (.slice x11.ptr x11.len x11.cap))] h7) ∧
  ∃ a18 : Addr, (a_1.ptr = some a18 ∧ 0 ≤ s1.1 ∧ s1.1 < ((a_1.len : Nat) : Int)) ∧
  Runs Tryz.prog (Instr.storeAt 58 (.pointer (some (a18.add (s1.1.toNat * 1)))) (.slice r17.ptr r17.len r17.cap)) h7 fun _ h8 =>
  (Held.ok [] h8) ∧
  K3 () h8))
  (fun K2 =>
  ∃ a3 : Addr, (a_1.ptr = some a3 ∧ 0 ≤ r2 ∧ r2 < ((a_1.len : Nat) : Int)) ∧
  ∃ x4 : Sl, cellOf h2 (a3.add (r2.toNat * 1)) = some (.slice x4.ptr x4.len x4.cap) ∧
  ∃ a5 : Addr, (a_1.ptr = some a5 ∧ 0 ≤ s1.1 ∧ s1.1 < ((a_1.len : Nat) : Int)) ∧
  ∃ x6 : Sl, cellOf h2 (a5.add (s1.1.toNat * 1)) = some (.slice x6.ptr x6.len x6.cap) ∧
  ∃ a7 : Addr, (a_1.ptr = some a7 ∧ 0 ≤ s1.1 ∧ s1.1 < ((a_1.len : Nat) : Int)) ∧
  Runs Tryz.prog (Instr.storeAt 58 (.pointer (some (a7.add (s1.1.toNat * 1)))) (.slice x4.ptr x4.len x4.cap)) h2 fun _ h3 =>
  (Held.ok [] h3) ∧
  ∃ a8 : Addr, (a_1.ptr = some a8 ∧ 0 ≤ r2 ∧ r2 < ((a_1.len : Nat) : Int)) ∧
  Runs Tryz.prog (Instr.storeAt 58 (.pointer (some (a8.add (r2.toNat * 1)))) (.slice x6.ptr x6.len x6.cap)) h3 fun _ h4 =>
  (Held.ok [] h4) ∧
  K2 () h4)))
  (R (.int .i64 s1.1) h1)) ((0 : Int), (0 : Int)) h
noncomputable def mat_reduce_ann : Ann := (.two .n (.two .n (.two (.two .n (.inn (.loop [(7, (.sc (.int .i64))), (12, (.sc (.int .i64)))] [(7, 11), (12, 82)] (.two .n (.two .n (.two (.inn (.two .n (.two .n (.two .n (.two (.join [] [(21, 35)] .n) (.two (.join [] [(35, 53)] .n) (.two (.two .n (.inn (.loop [(55, (.sc (.int .i64)))] [(10, 11), (55, 79)] .n))) .n))))))) .n)))))) .n)))
theorem mat_reduce_eq (f_0 : Option Addr) (a_1 : Sl) (cols_2 : Int) (R : Value → Heap → Prop) (h : Heap) : fnV C Tryz.f73 300 mat_reduce_ann [(.pointer f_0), (.slice a_1.ptr a_1.len a_1.cap), (.int .i64 cols_2)] R h = mat_reduce_m f_0 a_1 cols_2 R h := by kernel_rfl
theorem mat_reduce_run (f_0 : Option Addr) (a_1 : Sl) (cols_2 : Int) {R : Value → Heap → Prop} {h : Heap} (hm : mat_reduce_m f_0 a_1 cols_2 R h) : Meets Tryz.prog 73 #[(.pointer f_0), (.slice a_1.ptr a_1.len a_1.cap), (.int .i64 cols_2)] h R :=
  fn_spec C_ok (f := 73) (fn := Tryz.f73) (args := [(.pointer f_0), (.slice a_1.ptr a_1.len a_1.cap), (.int .i64 cols_2)]) Tryz.func73 (by rw [Tryz.ntmps73]; exact Nat.le_of_ble_eq_true rfl) (cast (mat_reduce_eq f_0 a_1 cols_2 R h).symm hm)
/-- wellspring/mat.sure -/
abbrev mat_sure_id : FuncId := 74
noncomputable def mat_sure_m (f_0 : Option Addr) (R : Value → Heap → Prop) (h : Heap) : Prop :=
  Br (Option.isNone f_0)
  (CallM Tryz.prog 28 #[] (.one (.sc .ptr)) h fun r1 h1 =>
  R (.pointer r1) h1)
  (R (.pointer f_0) h)
noncomputable def mat_sure_ann : Ann := .n
theorem mat_sure_eq (f_0 : Option Addr) (R : Value → Heap → Prop) (h : Heap) : fnV C Tryz.f74 300 mat_sure_ann [(.pointer f_0)] R h = mat_sure_m f_0 R h := by kernel_rfl
theorem mat_sure_run (f_0 : Option Addr) {R : Value → Heap → Prop} {h : Heap} (hm : mat_sure_m f_0 R h) : Meets Tryz.prog 74 #[(.pointer f_0)] h R :=
  fn_spec C_ok (f := 74) (fn := Tryz.f74) (args := [(.pointer f_0)]) Tryz.func74 (by rw [Tryz.ntmps74]; exact Nat.le_of_ble_eq_true rfl) (cast (mat_sure_eq f_0 R h).symm hm)
/-- wellspring/mat.width -/
abbrev mat_width_id : FuncId := 75
noncomputable def mat_width_m (a_0 : Sl) (R : Value → Heap → Prop) (h : Heap) : Prop :=
  Br (((a_0.len : Nat) : Int) == (0 : Int))
  (R (.int .i64 (0 : Int)) h)
  (∃ a1 : Addr, (a_0.ptr = some a1 ∧ 0 ≤ (0 : Int) ∧ (0 : Int) < ((a_0.len : Nat) : Int)) ∧
  ∃ x2 : Sl, cellOf h (a1.add ((0 : Int).toNat * 1)) = some (.slice x2.ptr x2.len x2.cap) ∧
  R (.int .i64 ((x2.len : Nat) : Int)) h)
noncomputable def mat_width_ann : Ann := .n
theorem mat_width_eq (a_0 : Sl) (R : Value → Heap → Prop) (h : Heap) : fnV C Tryz.f75 300 mat_width_ann [(.slice a_0.ptr a_0.len a_0.cap)] R h = mat_width_m a_0 R h := by kernel_rfl
theorem mat_width_run (a_0 : Sl) {R : Value → Heap → Prop} {h : Heap} (hm : mat_width_m a_0 R h) : Meets Tryz.prog 75 #[(.slice a_0.ptr a_0.len a_0.cap)] h R :=
  fn_spec C_ok (f := 75) (fn := Tryz.f75) (args := [(.slice a_0.ptr a_0.len a_0.cap)]) Tryz.func75 (by rw [Tryz.ntmps75]; exact Nat.le_of_ble_eq_true rfl) (cast (mat_width_eq a_0 R h).symm hm)
/-- wellspring/lt.Cols -/
abbrev lt_Cols_id : FuncId := 76
noncomputable def lt_Cols_m (p_0 : Int × Int × Int) (seed_1 : Int) (id_2 : Int) (R : Value → Heap → Prop) (h : Heap) : Prop :=
  RunsA Tryz.prog (Instr.box 23 (.agg #[(.int .i64 p_0.1), (.int .i64 p_0.2.1), (.int .i64 p_0.2.2)])) h fun a1 h1 =>
  JoinM (σ := Unit) (fun _ h3 =>
  ∃ x5 : Int × Int × Int, cellsAt h3 a1 0 [(.int .i64 x5.1), (.int .i64 x5.2.1), (.int .i64 x5.2.2)] ∧
  CallM Tryz.prog 26 #[(.agg #[(.int .i64 x5.1), (.int .i64 x5.2.1), (.int .i64 x5.2.2)])] (.one (.sc (.int .i64))) h3 fun r6 h4 =>
  CallM Tryz.prog 89 #[(.int .u32 (IntKind.wrap .u32 ((BitVec.ofInt (IntKind.bits .u32) seed_1 ^^^ (BitVec.ofInt (IntKind.bits .u32) (IntKind.wrap .u32 ((IntKind.wrap .u32 id_2) * (2654435761 : Int))))).toNat : Nat)))] (.one (.sc .ptr)) h4 fun r7 h5 =>
  CallM Tryz.prog 90 #[(.pointer r7)] (.one (.sc (.int .u32))) h5 fun _ h6 =>
  CallM Tryz.prog 92 #[(.int .i64 r6)] (.one (.sc .slc)) h6 fun r9 h7 =>
  CallM Tryz.prog 91 #[(.slice r9.ptr r9.len r9.cap), (.pointer r7)] (.one (.sc (.int .i64))) h7 fun r10 h8 =>
  CallM Tryz.prog 93 #[(.pointer r7), (.int .i64 r6), (.int .i64 r10)] (.one (.sc .slc)) h8 fun r11 h9 =>
  R (.slice r11.ptr r11.len r11.cap) h9)
  (fun K1 =>
  ∃ x2 : Int × Int × Int, cellsAt h1 a1 0 [(.int .i64 x2.1), (.int .i64 x2.2.1), (.int .i64 x2.2.2)] ∧
  CallM Tryz.prog 24 #[(.agg #[(.int .i64 x2.1), (.int .i64 x2.2.1), (.int .i64 x2.2.2)])] (.one (.sc .bool)) h1 fun r3 h2 =>
  Br (!r3) (R (.slice none 0 0) h2) (Br (decide (id_2 < (0 : Int))) (R (.slice none 0 0) h2) (Br (decide (id_2 > (65535 : Int)))
  (R (.slice none 0 0) h2)
  (K1 () h2))))
noncomputable def lt_Cols_ann : Ann := (.two .n (.two (.join [] [(6, 7), (10, 21)] .n) .n))
theorem lt_Cols_eq (p_0 : Int × Int × Int) (seed_1 : Int) (id_2 : Int) (R : Value → Heap → Prop) (h : Heap) : fnV C Tryz.f76 300 lt_Cols_ann [(.agg #[(.int .i64 p_0.1), (.int .i64 p_0.2.1), (.int .i64 p_0.2.2)]), (.int .u32 seed_1), (.int .i64 id_2)] R h = lt_Cols_m p_0 seed_1 id_2 R h := by kernel_rfl
theorem lt_Cols_run (p_0 : Int × Int × Int) (seed_1 : Int) (id_2 : Int) {R : Value → Heap → Prop} {h : Heap} (hm : lt_Cols_m p_0 seed_1 id_2 R h) : Meets Tryz.prog 76 #[(.agg #[(.int .i64 p_0.1), (.int .i64 p_0.2.1), (.int .i64 p_0.2.2)]), (.int .u32 seed_1), (.int .i64 id_2)] h R :=
  fn_spec C_ok (f := 76) (fn := Tryz.f76) (args := [(.agg #[(.int .i64 p_0.1), (.int .i64 p_0.2.1), (.int .i64 p_0.2.2)]), (.int .u32 seed_1), (.int .i64 id_2)]) Tryz.func76 (by rw [Tryz.ntmps76]; exact Nat.le_of_ble_eq_true rfl) (cast (lt_Cols_eq p_0 seed_1 id_2 R h).symm hm)
/-- (*wellspring/span.Span).Rows -/
abbrev span_Span_Rows_id : FuncId := 77
noncomputable def span_Span_Rows_m (s_0 : Option Addr) (R : Value → Heap → Prop) (h : Heap) : Prop :=
  Br (Option.isNone s_0)
  (R (.slice none 0 0) h)
  (∃ a1 : Addr, (s_0 = some a1) ∧
  ∃ x2 : Sl, cellOf h (a1.add 2) = some (.slice x2.ptr x2.len x2.cap) ∧
  LoopM (σ := Sl × Int) (fun s3 K1 h1 =>
  Br (decide (s3.2 < ((x2.len : Nat) : Int)))
  (∃ a4 : Addr, (x2.ptr = some a4 ∧ 0 ≤ s3.2 ∧ s3.2 < ((x2.len : Nat) : Int)) ∧
  ∃ x5 : Sl, cellOf h1 (a4.add (s3.2.toNat * 1)) = some (.slice x5.ptr x5.len x5.cap) ∧
  CallM Tryz.prog 67 #[(.slice x5.ptr x5.len x5.cap)] (.one (.sc .slc)) h1 fun r6 h2 =>
  RunsR Tryz.prog (Instr.buildSlice 56 1 #[(0, (.slice r6.ptr r6.len r6.cap))]) (.one (.sc .slc)) h2 fun v7 h3 =>
  RunsR Tryz.prog (Builtin.append_ #[56, 56] 56 #[(.slice s3.1.ptr s3.1.len s3.1.cap), (.slice v7.ptr v7.len v7.cap)]) (.one (.sc .slc)) h3 fun v8 h4 =>
  K1 ((⟨v8.ptr, v8.len, v8.cap⟩ : Sl), IntKind.wrap .i64 (s3.2 + (1 : Int))) h4)
  (R (.slice s3.1.ptr s3.1.len s3.1.cap) h1)) ((⟨none, 0, 0⟩ : Sl), (0 : Int)) h)
noncomputable def span_Span_Rows_ann : Ann := (.two .n (.two .n (.two .n (.two (.two .n (.inn (.loop [(3, (.sc .slc)), (13, (.sc (.int .i64)))] [(3, 4), (5, 6), (13, 23)] .n))) .n))))
theorem span_Span_Rows_eq (s_0 : Option Addr) (R : Value → Heap → Prop) (h : Heap) : fnV C Tryz.f77 300 span_Span_Rows_ann [(.pointer s_0)] R h = span_Span_Rows_m s_0 R h := by kernel_rfl
theorem span_Span_Rows_run (s_0 : Option Addr) {R : Value → Heap → Prop} {h : Heap} (hm : span_Span_Rows_m s_0 R h) : Meets Tryz.prog 77 #[(.pointer s_0)] h R :=
  fn_spec C_ok (f := 77) (fn := Tryz.f77) (args := [(.pointer s_0)]) Tryz.func77 (by rw [Tryz.ntmps77]; exact Nat.le_of_ble_eq_true rfl) (cast (span_Span_Rows_eq s_0 R h).symm hm)
/-- wellspring/wellspringref01.MayMat -/
abbrev wellspringref01_MayMat_id : FuncId := 78
noncomputable def wellspringref01_MayMat_m (a_0 : Sl) (R : Value → Heap → Prop) (h : Heap) : Prop :=
  LoopM (σ := Int) (fun s1 K1 h1 =>
  Br (decide (s1 < ((a_0.len : Nat) : Int)))
  (∃ a2 : Addr, (a_0.ptr = some a2 ∧ 0 ≤ s1 ∧ s1 < ((a_0.len : Nat) : Int)) ∧
  ∃ x3 : Sl, cellOf h1 (a2.add (s1.toNat * 1)) = some (.slice x3.ptr x3.len x3.cap) ∧
  ∃ a4 : Addr, (a_0.ptr = some a4 ∧ 0 ≤ (0 : Int) ∧ (0 : Int) < ((a_0.len : Nat) : Int)) ∧
  ∃ x5 : Sl, cellOf h1 (a4.add ((0 : Int).toNat * 1)) = some (.slice x5.ptr x5.len x5.cap) ∧
  Br (((x3.len : Nat) : Int) != ((x5.len : Nat) : Int)) (R (.bool false) h1) (∃ a6 : Addr, (a_0.ptr = some a6 ∧ 0 ≤ s1 ∧ s1 < ((a_0.len : Nat) : Int)) ∧
  ∃ x7 : Sl, cellOf h1 (a6.add (s1.toNat * 1)) = some (.slice x7.ptr x7.len x7.cap) ∧
  Br (decide (((x7.len : Nat) : Int) > (64 : Int)))
  (R (.bool false) h1)
  (K1 (IntKind.wrap .i64 (s1 + (1 : Int))) h1)))
  (R (.bool true) h1)) (0 : Int) h
noncomputable def wellspringref01_MayMat_ann : Ann := (.two .n (.two (.two .n (.inn (.loop [(6, (.sc (.int .i64)))] [(2, 4), (6, 28)] .n))) .n))
theorem wellspringref01_MayMat_eq (a_0 : Sl) (R : Value → Heap → Prop) (h : Heap) : fnV C Tryz.f78 300 wellspringref01_MayMat_ann [(.slice a_0.ptr a_0.len a_0.cap)] R h = wellspringref01_MayMat_m a_0 R h := by kernel_rfl
theorem wellspringref01_MayMat_run (a_0 : Sl) {R : Value → Heap → Prop} {h : Heap} (hm : wellspringref01_MayMat_m a_0 R h) : Meets Tryz.prog 78 #[(.slice a_0.ptr a_0.len a_0.cap)] h R :=
  fn_spec C_ok (f := 78) (fn := Tryz.f78) (args := [(.slice a_0.ptr a_0.len a_0.cap)]) Tryz.func78 (by rw [Tryz.ntmps78]; exact Nat.le_of_ble_eq_true rfl) (cast (wellspringref01_MayMat_eq a_0 R h).symm hm)
/-- wellspring/wellspringref01.Scale -/
abbrev wellspringref01_Scale_id : FuncId := 79
noncomputable def wellspringref01_Scale_m (c_0 : Int) (a_1 : Sl) (R : Value → Heap → Prop) (h : Heap) : Prop :=
  RunsR Tryz.prog (Instr.makeSlice 58 (.int .i64 ((a_1.len : Nat) : Int)) (.int .i64 ((a_1.len : Nat) : Int))) (.one (.sc .slc)) h fun v1 h1 =>
  CallM Tryz.prog 81 #[(.int .u8 c_0), (.slice a_1.ptr a_1.len a_1.cap), (.slice v1.ptr v1.len v1.cap)] (.one (.sc .slc)) h1 fun r2 h2 =>
  R (.slice r2.ptr r2.len r2.cap) h2
noncomputable def wellspringref01_Scale_ann : Ann := .n
theorem wellspringref01_Scale_eq (c_0 : Int) (a_1 : Sl) (R : Value → Heap → Prop) (h : Heap) : fnV C Tryz.f79 300 wellspringref01_Scale_ann [(.int .u8 c_0), (.slice a_1.ptr a_1.len a_1.cap)] R h = wellspringref01_Scale_m c_0 a_1 R h := by kernel_rfl
theorem wellspringref01_Scale_run (c_0 : Int) (a_1 : Sl) {R : Value → Heap → Prop} {h : Heap} (hm : wellspringref01_Scale_m c_0 a_1 R h) : Meets Tryz.prog 79 #[(.int .u8 c_0), (.slice a_1.ptr a_1.len a_1.cap)] h R :=
  fn_spec C_ok (f := 79) (fn := Tryz.f79) (args := [(.int .u8 c_0), (.slice a_1.ptr a_1.len a_1.cap)]) Tryz.func79 (by rw [Tryz.ntmps79]; exact Nat.le_of_ble_eq_true rfl) (cast (wellspringref01_Scale_eq c_0 a_1 R h).symm hm)
/-- wellspring/wellspringref01.Inv -/
abbrev wellspringref01_Inv_id : FuncId := 80
noncomputable def wellspringref01_Inv_m (a_0 : Int) (R : Value → Heap → Prop) (h : Heap) : Prop :=
  LoopM (σ := Int) (fun s1 K1 h1 =>
  Br (decide (s1 < (256 : Int)))
  (CallM Tryz.prog 94 #[(.int .u8 a_0), (.int .u8 (IntKind.wrap .u8 s1))] (.one (.sc (.int .u8))) h1 fun r2 h2 =>
  Br (r2 == (1 : Int))
  (R (.int .u8 (IntKind.wrap .u8 s1)) h2)
  (K1 (IntKind.wrap .i64 (s1 + (1 : Int))) h2))
  (R (.int .u8 (0 : Int)) h1)) (1 : Int) h
noncomputable def wellspringref01_Inv_ann : Ann := (.two .n (.two (.two .n (.inn (.loop [(3, (.sc (.int .i64)))] [(2, 15)] .n))) .n))
theorem wellspringref01_Inv_eq (a_0 : Int) (R : Value → Heap → Prop) (h : Heap) : fnV C Tryz.f80 300 wellspringref01_Inv_ann [(.int .u8 a_0)] R h = wellspringref01_Inv_m a_0 R h := by kernel_rfl
theorem wellspringref01_Inv_run (a_0 : Int) {R : Value → Heap → Prop} {h : Heap} (hm : wellspringref01_Inv_m a_0 R h) : Meets Tryz.prog 80 #[(.int .u8 a_0)] h R :=
  fn_spec C_ok (f := 80) (fn := Tryz.f80) (args := [(.int .u8 a_0)]) Tryz.func80 (by rw [Tryz.ntmps80]; exact Nat.le_of_ble_eq_true rfl) (cast (wellspringref01_Inv_eq a_0 R h).symm hm)
/-- wellspring/wellspringref01.Axpy -/
abbrev wellspringref01_Axpy_id : FuncId := 81
noncomputable def wellspringref01_Axpy_m (c_0 : Int) (a_1 : Sl) (b_2 : Sl) (R : Value → Heap → Prop) (h : Heap) : Prop :=
  RunsR Tryz.prog (Instr.makeSlice 58 (.int .i64 ((b_2.len : Nat) : Int)) (.int .i64 ((b_2.len : Nat) : Int))) (.one (.sc .slc)) h fun v1 h1 =>
  LoopM (σ := Int) (fun s2 K1 h2 =>
  Br (decide (s2 < ((b_2.len : Nat) : Int)))
  (∃ a3 : Addr, (b_2.ptr = some a3 ∧ 0 ≤ s2 ∧ s2 < ((b_2.len : Nat) : Int)) ∧
  ∃ x4 : Int, cellOf h2 (a3.add (s2.toNat * 1)) = some (.int .u8 x4) ∧
  ∃ a5 : Addr, (a_1.ptr = some a5 ∧ 0 ≤ s2 ∧ s2 < ((a_1.len : Nat) : Int)) ∧
  ∃ x6 : Int, cellOf h2 (a5.add (s2.toNat * 1)) = some (.int .u8 x6) ∧
  CallM Tryz.prog 94 #[(.int .u8 c_0), (.int .u8 x6)] (.one (.sc (.int .u8))) h2 fun r7 h3 =>
  (Held.ok [(a3.add (s2.toNat * 1), (.int .u8 x4))] h3) ∧
  ∃ a8 : Addr, (v1.ptr = some a8 ∧ 0 ≤ s2 ∧ s2 < ((v1.len : Nat) : Int)) ∧
  Runs Tryz.prog (Instr.storeAt 5 (.pointer (some (a8.add (s2.toNat * 1)))) (.int .u8 (IntKind.wrap .u8 ((BitVec.ofInt (IntKind.bits .u8) x4 ^^^ (BitVec.ofInt (IntKind.bits .u8) r7)).toNat : Nat)))) h3 fun _ h4 =>
  (Held.ok [] h4) ∧
  K1 (IntKind.wrap .i64 (s2 + (1 : Int))) h4)
  (R (.slice v1.ptr v1.len v1.cap) h2)) (0 : Int) h1
noncomputable def wellspringref01_Axpy_ann : Ann := (.two .n (.two .n (.two (.two .n (.inn (.loop [(14, (.sc (.int .i64)))] [(8, 9), (14, 32)] .n))) .n)))
theorem wellspringref01_Axpy_eq (c_0 : Int) (a_1 : Sl) (b_2 : Sl) (R : Value → Heap → Prop) (h : Heap) : fnV C Tryz.f81 300 wellspringref01_Axpy_ann [(.int .u8 c_0), (.slice a_1.ptr a_1.len a_1.cap), (.slice b_2.ptr b_2.len b_2.cap)] R h = wellspringref01_Axpy_m c_0 a_1 b_2 R h := by kernel_rfl
theorem wellspringref01_Axpy_run (c_0 : Int) (a_1 : Sl) (b_2 : Sl) {R : Value → Heap → Prop} {h : Heap} (hm : wellspringref01_Axpy_m c_0 a_1 b_2 R h) : Meets Tryz.prog 81 #[(.int .u8 c_0), (.slice a_1.ptr a_1.len a_1.cap), (.slice b_2.ptr b_2.len b_2.cap)] h R :=
  fn_spec C_ok (f := 81) (fn := Tryz.f81) (args := [(.int .u8 c_0), (.slice a_1.ptr a_1.len a_1.cap), (.slice b_2.ptr b_2.len b_2.cap)]) Tryz.func81 (by rw [Tryz.ntmps81]; exact Nat.le_of_ble_eq_true rfl) (cast (wellspringref01_Axpy_eq c_0 a_1 b_2 R h).symm hm)
end Go.Proofs.YtmadbodaleaaeaaGreat
