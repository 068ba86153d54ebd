/- Part of the proof that wellspringlaw11's EncodeTells answers true whatever the input reads, and leaves it as it was; no condition. -/
import Derived.Test.YtgcbahhnnphejaaGreatTabA
set_option linter.unusedVariables false
set_option linter.unusedSimpArgs false
namespace Go.Proofs.YtgcbahhnnphejaaGreat
open Go Go.Vc Go.Proofs
set_option maxRecDepth 1000000

/-- wellspring/wellspringref01.Mul -/
abbrev wellspringref01_Mul_id : FuncId := 76
noncomputable def wellspringref01_Mul_m (a_0 : Int) (b_1 : Int) (R : Value → Heap → Prop) (h : Heap) : Prop :=
  LoopM (σ := Int × Int) (fun s1 K1 h1 =>
  Br (decide (s1.2 < (8 : Int)))
  ((0 ≤ s1.2) ∧
  Br ((IntKind.wrap .u8 ((BitVec.ofInt (IntKind.bits .u8) (Int.fdiv b_1 (2 ^ min s1.2.toNat (IntKind.bits .u8))) &&& (BitVec.ofInt (IntKind.bits .u8) (1 : Int))).toNat : Nat)) == (1 : Int))
  ((0 ≤ s1.2) ∧
  K1 (IntKind.wrap .u16 ((BitVec.ofInt (IntKind.bits .u16) s1.1 ^^^ (BitVec.ofInt (IntKind.bits .u16) (IntKind.wrap .u16 ((IntKind.wrap .u16 a_0) * 2 ^ min s1.2.toNat (IntKind.bits .u16))))).toNat : Nat), IntKind.wrap .i64 (s1.2 + (1 : Int))) h1)
  (K1 (s1.1, IntKind.wrap .i64 (s1.2 + (1 : Int))) h1))
  (LoopM (σ := Int × Int) (fun s2 K2 h2 =>
  Br (decide (s2.2 ≥ (8 : Int)))
  ((0 ≤ s2.2) ∧
  Br ((IntKind.wrap .u16 ((BitVec.ofInt (IntKind.bits .u16) (Int.fdiv s2.1 (2 ^ min s2.2.toNat (IntKind.bits .u16))) &&& (BitVec.ofInt (IntKind.bits .u16) (1 : Int))).toNat : Nat)) == (1 : Int))
  ((0 ≤ (IntKind.wrap .i64 (s2.2 - (8 : Int)))) ∧
  K2 (IntKind.wrap .u16 ((BitVec.ofInt (IntKind.bits .u16) s2.1 ^^^ (BitVec.ofInt (IntKind.bits .u16) (IntKind.wrap .u16 ((283 : Int) * 2 ^ min (IntKind.wrap .i64 (s2.2 - (8 : Int))).toNat (IntKind.bits .u16))))).toNat : Nat), IntKind.wrap .i64 (s2.2 - (1 : Int))) h2)
  (K2 (s2.1, IntKind.wrap .i64 (s2.2 - (1 : Int))) h2))
  (R (.int .u8 (IntKind.wrap .u8 s2.1)) h2)) (s1.1, (15 : Int)) h1)) ((0 : Int), (0 : Int)) h
noncomputable def wellspringref01_Mul_ann : Ann := (.two .n (.two .n (.two (.two .n (.inn (.loop [(5, (.sc (.int .u16))), (6, (.sc (.int .i64)))] [(5, 7), (8, 23)] .n))) (.two (.two .n (.inn (.loop [(5, (.sc (.int .u16))), (7, (.sc (.int .i64)))] [(5, 6), (7, 8), (23, 37)] .n))) .n))))
theorem wellspringref01_Mul_eq (a_0 : Int) (b_1 : Int) (R : Value → Heap → Prop) (h : Heap) : fnV C Tryz.f76 300 wellspringref01_Mul_ann [(.int .u8 a_0), (.int .u8 b_1)] R h = wellspringref01_Mul_m a_0 b_1 R h := by kernel_rfl
theorem wellspringref01_Mul_run (a_0 : Int) (b_1 : Int) {R : Value → Heap → Prop} {h : Heap} (hm : wellspringref01_Mul_m a_0 b_1 R h) : Meets Tryz.prog 76 #[(.int .u8 a_0), (.int .u8 b_1)] h R :=
  fn_spec C_ok (f := 76) (fn := Tryz.f76) (args := [(.int .u8 a_0), (.int .u8 b_1)]) Tryz.func76 (by rw [Tryz.ntmps76]; exact Nat.le_of_ble_eq_true rfl) (cast (wellspringref01_Mul_eq a_0 b_1 R h).symm hm)
/-- wellspring/wellspringref01.Reduce -/
abbrev wellspringref01_Reduce_id : FuncId := 77
noncomputable def wellspringref01_Reduce_m (a_0 : Sl) (R : Value → Heap → Prop) (h : Heap) : Prop :=
  CallM Tryz.prog 48 #[(.slice a_0.ptr a_0.len a_0.cap)] (.one (.sc .bool)) h fun r1 h1 =>
  Br (!r1)
  (R (.slice none 0 0) h1)
  (LoopM (σ := Sl × Int) (fun s2 K1 h2 =>
  Br (decide (s2.2 < ((a_0.len : Nat) : Int)))
  (∃ a3 : Addr, (a_0.ptr = some a3 ∧ 0 ≤ s2.2 ∧ s2.2 < ((a_0.len : Nat) : Int)) ∧
  ∃ x4 : Sl, cellOf h2 (a3.add (s2.2.toNat * 1)) = some (.slice x4.ptr x4.len x4.cap) ∧
  RunsR Tryz.prog (Builtin.append_ #[25, 25] 25 #[(.slice none 0 0), (.slice x4.ptr x4.len x4.cap)]) (.one (.sc .slc)) h2 fun v5 h3 =>
  RunsR Tryz.prog (Instr.buildSlice 44 1 #[(0, (.slice v5.ptr v5.len v5.cap))]) (.one (.sc .slc)) h3 fun v6 h4 =>
  RunsR Tryz.prog (Builtin.append_ #[44, 44] 44 #[(.slice s2.1.ptr s2.1.len s2.1.cap), (.slice v6.ptr v6.len v6.cap)]) (.one (.sc .slc)) h4 fun v7 h5 =>
  K1 ((⟨v7.ptr, v7.len, v7.cap⟩ : Sl), IntKind.wrap .i64 (s2.2 + (1 : Int))) h5)
  (JoinM (σ := Int) (fun s50 h20 =>
  (0 ≤ s50 ∧ s50 ≤ ((s2.1.cap : Nat) : Int)) ∧
  R (.slice s2.1.ptr s50.toNat s2.1.cap) h20)
  (fun K2 =>
  LoopM (σ := Int × Int) (fun s8 K3 h6 =>
  JoinM (σ := Unit) (fun _ h7 =>
  LoopM (σ := Int × Int) (fun s12 K5 h8 =>
  Br (decide (s12.2 < ((s2.1.len : Nat) : Int)))
  (∃ a13 : Addr, (s2.1.ptr = some a13 ∧ 0 ≤ s12.2 ∧ s12.2 < ((s2.1.len : Nat) : Int)) ∧
  ∃ x14 : Sl, cellOf h8 (a13.add (s12.2.toNat * 1)) = some (.slice x14.ptr x14.len x14.cap) ∧
  ∃ a15 : Addr, (x14.ptr = some a15 ∧ 0 ≤ s8.2 ∧ s8.2 < ((x14.len : Nat) : Int)) ∧
  ∃ x16 : Int, cellOf h8 (a15.add (s8.2.toNat * 1)) = some (.int .u8 x16) ∧
  Br (x16 != (0 : Int)) (Br (decide (s12.1 < (0 : Int)))
  (K5 (s12.2, IntKind.wrap .i64 (s12.2 + (1 : Int))) h8)
  (K5 (s12.1, IntKind.wrap .i64 (s12.2 + (1 : Int))) h8)) (K5 (s12.1, IntKind.wrap .i64 (s12.2 + (1 : Int))) h8))
  (Br (decide (s12.1 < (0 : Int)))
  (K3 (s8.1, IntKind.wrap .i64 (s8.2 + (1 : Int))) h8)
  (JoinM (σ := Unit) (fun _ h11 =>
  JoinM (σ := Unit) (fun _ h15 =>
  LoopM (σ := Int) (fun s34 K8 h16 =>
  Br (decide (s34 < ((s2.1.len : Nat) : Int)))
  (JoinM (σ := Bool) (fun s39 h17 =>
  Br s39
  (∃ a40 : Addr, (s2.1.ptr = some a40 ∧ 0 ≤ s34 ∧ s34 < ((s2.1.len : Nat) : Int)) ∧
  ∃ x41 : Sl, cellOf h17 (a40.add (s34.toNat * 1)) = some (.slice x41.ptr x41.len x41.cap) ∧
  ∃ a42 : Addr, (x41.ptr = some a42 ∧ 0 ≤ s8.2 ∧ s8.2 < ((x41.len : Nat) : Int)) ∧
  ∃ x43 : Int, cellOf h17 (a42.add (s8.2.toNat * 1)) = some (.int .u8 x43) ∧
  ∃ a44 : Addr, (s2.1.ptr = some a44 ∧ 0 ≤ s8.1 ∧ s8.1 < ((s2.1.len : Nat) : Int)) ∧
  ∃ x45 : Sl, cellOf h17 (a44.add (s8.1.toNat * 1)) = some (.slice x45.ptr x45.len x45.cap) ∧
  ∃ a46 : Addr, (s2.1.ptr = some a46 ∧ 0 ≤ s34 ∧ s34 < ((s2.1.len : Nat) : Int)) ∧
  ∃ x47 : Sl, cellOf h17 (a46.add (s34.toNat * 1)) = some (.slice x47.ptr x47.len x47.cap) ∧
  CallM Tryz.prog 52 #[(.int .u8 x43), (.slice x45.ptr x45.len x45.cap), (.slice x47.ptr x47.len x47.cap)] (.one (.sc .slc)) h17 fun r48 h18 =>
  (Held.ok [(a40.add (s34.toNat * 1), (.slice x41.ptr x41.len x41.cap))] h18) ∧
  ∃ a49 : Addr, (s2.1.ptr = some a49 ∧ 0 ≤ s34 ∧ s34 < ((s2.1.len : Nat) : Int)) ∧
  Runs Tryz.prog (Instr.storeAt 25 (.pointer (some (a49.add (s34.toNat * 1)))) (.slice r48.ptr r48.len r48.cap)) h18 fun _ h19 =>
  (Held.ok [] h19) ∧
  K8 (IntKind.wrap .i64 (s34 + (1 : Int))) h19)
  (K8 (IntKind.wrap .i64 (s34 + (1 : Int))) h17))
  (fun K9 =>
  Br (s34 != s8.1) (∃ a35 : Addr, (s2.1.ptr = some a35 ∧ 0 ≤ s34 ∧ s34 < ((s2.1.len : Nat) : Int)) ∧
  ∃ x36 : Sl, cellOf h16 (a35.add (s34.toNat * 1)) = some (.slice x36.ptr x36.len x36.cap) ∧
  ∃ a37 : Addr, (x36.ptr = some a37 ∧ 0 ≤ s8.2 ∧ s8.2 < ((x36.len : Nat) : Int)) ∧
  ∃ x38 : Int, cellOf h16 (a37.add (s8.2.toNat * 1)) = some (.int .u8 x38) ∧
  K9 (x38 != (0 : Int)) h16) (K9 false h16)))
  (K3 (IntKind.wrap .i64 (s8.1 + (1 : Int)), IntKind.wrap .i64 (s8.2 + (1 : Int))) h16)) (0 : Int) h15)
  (fun K7 =>
  ∃ a24 : Addr, (s2.1.ptr = some a24 ∧ 0 ≤ s8.1 ∧ s8.1 < ((s2.1.len : Nat) : Int)) ∧
  ∃ x25 : Sl, cellOf h11 (a24.add (s8.1.toNat * 1)) = some (.slice x25.ptr x25.len x25.cap) ∧
  ∃ a26 : Addr, (x25.ptr = some a26 ∧ 0 ≤ s8.2 ∧ s8.2 < ((x25.len : Nat) : Int)) ∧
  ∃ x27 : Int, cellOf h11 (a26.add (s8.2.toNat * 1)) = some (.int .u8 x27) ∧
  ∃ a28 : Addr, (s2.1.ptr = some a28 ∧ 0 ≤ s8.1 ∧ s8.1 < ((s2.1.len : Nat) : Int)) ∧
  ∃ x29 : Sl, cellOf h11 (a28.add (s8.1.toNat * 1)) = some (.slice x29.ptr x29.len x29.cap) ∧
  CallM Tryz.prog 50 #[(.int .u8 x27)] (.one (.sc (.int .u8))) h11 fun r30 h12 =>
  (Held.ok [(a28.add (s8.1.toNat * 1), (.slice x29.ptr x29.len x29.cap)), (a24.add (s8.1.toNat * 1), (.slice x25.ptr x25.len x25.cap))] h12) ∧
  CallM Tryz.prog 51 #[(.int .u8 r30), (.slice x29.ptr x29.len x29.cap)] (.one (.sc .slc)) h12 fun r31 h13 =>
  (Held.ok [(a24.add (s8.1.toNat * 1), (.slice x25.ptr x25.len x25.cap))] h13) ∧
  ∃ a32 : Addr, (s2.1.ptr = some a32 ∧ 0 ≤ s8.1 ∧ s8.1 < ((s2.1.len : Nat) : Int)) ∧
  Runs Tryz.prog (Instr.storeAt 25 (.pointer (some (a32.add (s8.1.toNat * 1)))) (.slice r31.ptr r31.len r31.cap)) h13 fun _ h14 =>
  (Held.ok [] h14) ∧
  K7 () h14))
  (fun K6 =>
  ∃ a17 : Addr, (s2.1.ptr = some a17 ∧ 0 ≤ s8.1 ∧ s8.1 < ((s2.1.len : Nat) : Int)) ∧
  ∃ x18 : Sl, cellOf h8 (a17.add (s8.1.toNat * 1)) = some (.slice x18.ptr x18.len x18.cap) ∧
  ∃ a19 : Addr, (s2.1.ptr = some a19 ∧ 0 ≤ s12.1 ∧ s12.1 < ((s2.1.len : Nat) : Int)) ∧
  ∃ x20 : Sl, cellOf h8 (a19.add (s12.1.toNat * 1)) = some (.slice x20.ptr x20.len x20.cap) ∧
  ∃ a21 : Addr, (s2.1.ptr = some a21 ∧ 0 ≤ s12.1 ∧ s12.1 < ((s2.1.len : Nat) : Int)) ∧
  Runs Tryz.prog (Instr.storeAt 25 (.pointer (some (a21.add (s12.1.toNat * 1)))) (.slice x18.ptr x18.len x18.cap)) h8 fun _ h9 =>
  (Held.ok [] h9) ∧
  ∃ a22 : Addr, (s2.1.ptr = some a22 ∧ 0 ≤ s8.1 ∧ s8.1 < ((s2.1.len : Nat) : Int)) ∧
  Runs Tryz.prog (Instr.storeAt 25 (.pointer (some (a22.add (s8.1.toNat * 1)))) (.slice x20.ptr x20.len x20.cap)) h9 fun _ h10 =>
  (Held.ok [] h10) ∧
  K6 () h10)))) ((-1 : Int), s8.1) h7)
  (fun K4 =>
  Br (decide (((s2.1.len : Nat) : Int) > (0 : Int))) (∃ a9 : Addr, (s2.1.ptr = some a9 ∧ 0 ≤ (0 : Int) ∧ (0 : Int) < ((s2.1.len : Nat) : Int)) ∧
  ∃ x10 : Sl, cellOf h6 (a9.add ((0 : Int).toNat * 1)) = some (.slice x10.ptr x10.len x10.cap) ∧
  Br (decide (s8.2 < ((x10.len : Nat) : Int)))
  (K4 () h6)
  (K2 s8.1 h6)) (K2 s8.1 h6))) ((0 : Int), (0 : Int)) h2))) ((⟨none, 0, 0⟩ : Sl), (0 : Int)) h1)
noncomputable def wellspringref01_Reduce_ann : Ann := (.two .n (.two .n (.two .n (.two (.two .n (.inn (.loop [(3, (.sc .slc)), (15, (.sc (.int .i64)))] [(3, 5), (15, 27)] .n))) (.two .n (.two (.join [(5, (.sc (.int .i64)))] [(5, 10), (27, 132)] (.two .n (.inn (.loop [(5, (.sc (.int .i64))), (6, (.sc (.int .i64)))] [(5, 10), (27, 132)] (.two (.join [] [(27, 38)] .n) (.two (.inn (.two .n (.two (.two .n (.inn (.loop [(7, (.sc (.int .i64))), (8, (.sc (.int .i64)))] [(7, 9), (41, 60)] .n))) (.two .n (.two (.join [] [(62, 76)] .n) (.two (.join [] [(76, 92)] .n) (.two (.two .n (.inn (.loop [(94, (.sc (.int .i64)))] [(9, 10), (94, 130)] (.two .n (.two .n (.two (.inn (.two .n (.two (.join [(109, (.sc .bool))] [(97, 110)] .n) .n))) .n)))))) .n))))))) .n)))))) .n))))))
theorem wellspringref01_Reduce_eq (a_0 : Sl) (R : Value → Heap → Prop) (h : Heap) : fnV C Tryz.f77 300 wellspringref01_Reduce_ann [(.slice a_0.ptr a_0.len a_0.cap)] R h = wellspringref01_Reduce_m a_0 R h := by kernel_rfl
theorem wellspringref01_Reduce_run (a_0 : Sl) {R : Value → Heap → Prop} {h : Heap} (hm : wellspringref01_Reduce_m a_0 R h) : Meets Tryz.prog 77 #[(.slice a_0.ptr a_0.len a_0.cap)] h R :=
  fn_spec C_ok (f := 77) (fn := Tryz.f77) (args := [(.slice a_0.ptr a_0.len a_0.cap)]) Tryz.func77 (by rw [Tryz.ntmps77]; exact Nat.le_of_ble_eq_true rfl) (cast (wellspringref01_Reduce_eq a_0 R h).symm hm)
/-- wellspring/soliton.Degree -/
abbrev soliton_Degree_id : FuncId := 78
noncomputable def soliton_Degree_m (t_0 : Sl) (x_1 : Int) (R : Value → Heap → Prop) (h : Heap) : Prop :=
  JoinM (σ := Unit) (fun _ h1 =>
  LoopM (σ := Int) (fun s4 K2 h2 =>
  Br (decide (s4 < ((t_0.len : Nat) : Int)))
  (∃ a5 : Addr, (t_0.ptr = some a5 ∧ 0 ≤ s4 ∧ s4 < ((t_0.len : Nat) : Int)) ∧
  ∃ x6 : Int, cellOf h2 (a5.add (s4.toNat * 1)) = some (.int .i64 x6) ∧
  Br (decide (x6 > x_1))
  (R (.int .i64 (IntKind.wrap .i64 (s4 + (1 : Int)))) h2)
  (K2 (IntKind.wrap .i64 (s4 + (1 : Int))) h2))
  (R (.int .i64 (0 : Int)) h2)) (0 : Int) h1)
  (fun K1 =>
  Br (((t_0.len : Nat) : Int) == (0 : Int)) (R (.int .i64 (0 : Int)) h) (Br (decide (x_1 < (0 : Int))) (R (.int .i64 (0 : Int)) h) (∃ a1 : Addr, (t_0.ptr = some a1 ∧ 0 ≤ (IntKind.wrap .i64 (((t_0.len : Nat) : Int) - (1 : Int))) ∧ (IntKind.wrap .i64 (((t_0.len : Nat) : Int) - (1 : Int))) < ((t_0.len : Nat) : Int)) ∧
  ∃ x2 : Int, cellOf h (a1.add ((IntKind.wrap .i64 (((t_0.len : Nat) : Int) - (1 : Int))).toNat * 1)) = some (.int .i64 x2) ∧
  Br (decide (x_1 ≥ x2))
  (R (.int .i64 (0 : Int)) h)
  (K1 () h))))
noncomputable def soliton_Degree_ann : Ann := (.two .n (.two (.join [] [(4, 5), (7, 24)] .n) (.two (.two .n (.inn (.loop [(26, (.sc (.int .i64)))] [(4, 7), (26, 37)] .n))) .n)))
theorem soliton_Degree_eq (t_0 : Sl) (x_1 : Int) (R : Value → Heap → Prop) (h : Heap) : fnV C Tryz.f78 300 soliton_Degree_ann [(.slice t_0.ptr t_0.len t_0.cap), (.int .i64 x_1)] R h = soliton_Degree_m t_0 x_1 R h := by kernel_rfl
theorem soliton_Degree_run (t_0 : Sl) (x_1 : Int) {R : Value → Heap → Prop} {h : Heap} (hm : soliton_Degree_m t_0 x_1 R h) : Meets Tryz.prog 78 #[(.slice t_0.ptr t_0.len t_0.cap), (.int .i64 x_1)] h R :=
  fn_spec C_ok (f := 78) (fn := Tryz.f78) (args := [(.slice t_0.ptr t_0.len t_0.cap), (.int .i64 x_1)]) Tryz.func78 (by rw [Tryz.ntmps78]; exact Nat.le_of_ble_eq_true rfl) (cast (soliton_Degree_eq t_0 x_1 R h).symm hm)
/-- (*wellspring/draw.Draw).Below -/
abbrev draw_Draw_Below_id : FuncId := 79
noncomputable def draw_Draw_Below_m (d_0 : Option Addr) (n_1 : Int) (R : Value → Heap → Prop) (h : Heap) : Prop :=
  JoinM (σ := Unit) (fun _ h1 =>
  CallM Tryz.prog 56 #[(.pointer d_0)] (.one (.sc (.int .u32))) h1 fun r2 h2 =>
  ((IntKind.wrap .u64 n_1) ≠ 0) ∧
  R (.int .i64 (IntKind.wrap .i64 (Int.tmod (IntKind.wrap .u64 r2) (IntKind.wrap .u64 n_1)))) h2)
  (fun K1 =>
  Br (Option.isNone d_0) (R (.int .i64 (0 : Int)) h) (Br (decide (n_1 ≤ (0 : Int)))
  (R (.int .i64 (0 : Int)) h)
  (K1 () h)))
noncomputable def draw_Draw_Below_ann : Ann := (.two .n (.two (.join [] [(4, 11)] .n) .n))
theorem draw_Draw_Below_eq (d_0 : Option Addr) (n_1 : Int) (R : Value → Heap → Prop) (h : Heap) : fnV C Tryz.f79 300 draw_Draw_Below_ann [(.pointer d_0), (.int .i64 n_1)] R h = draw_Draw_Below_m d_0 n_1 R h := by kernel_rfl
theorem draw_Draw_Below_run (d_0 : Option Addr) (n_1 : Int) {R : Value → Heap → Prop} {h : Heap} (hm : draw_Draw_Below_m d_0 n_1 R h) : Meets Tryz.prog 79 #[(.pointer d_0), (.int .i64 n_1)] h R :=
  fn_spec C_ok (f := 79) (fn := Tryz.f79) (args := [(.pointer d_0), (.int .i64 n_1)]) Tryz.func79 (by rw [Tryz.ntmps79]; exact Nat.le_of_ble_eq_true rfl) (cast (draw_Draw_Below_eq d_0 n_1 R h).symm hm)
/-- wellspring/soliton.weight -/
abbrev soliton_weight_id : FuncId := 80
noncomputable def soliton_weight_m (l_0 : Int) (k_1 : Int) (R : Value → Heap → Prop) (h : Heap) : Prop :=
  CallM Tryz.prog 90 #[(.int .i64 l_0)] (.one (.sc (.int .i64))) h fun r1 h1 =>
  (l_0 ≠ 0) ∧
  JoinM (σ := Int) (fun s2 h2 =>
  JoinM (σ := Int) (fun s4 h4 =>
  R (.int .i64 s4) h4)
  (fun K2 =>
  (r1 ≠ 0) ∧
  Br (decide (k_1 < (IntKind.wrap .i64 (Int.tdiv l_0 r1))))
  (((IntKind.wrap .i64 (l_0 * k_1)) ≠ 0) ∧
  K2 (IntKind.wrap .i64 (s2 + (IntKind.wrap .i64 (Int.tdiv (IntKind.wrap .i64 ((1048576 : Int) * r1)) (IntKind.wrap .i64 (l_0 * k_1)))))) h2)
  (Br (k_1 == (IntKind.wrap .i64 (Int.tdiv l_0 r1)))
  (CallM Tryz.prog 91 #[(.int .u64 (IntKind.wrap .u64 r1))] (.one (.sc (.int .i64))) h2 fun r3 h3 =>
  (l_0 ≠ 0) ∧
  K2 (IntKind.wrap .i64 (s2 + (IntKind.wrap .i64 (Int.tdiv (IntKind.wrap .i64 ((IntKind.wrap .i64 ((1048576 : Int) * r1)) * r3)) l_0)))) h3)
  (K2 s2 h2))))
  (fun K1 =>
  Br (decide (k_1 > (1 : Int)))
  (((IntKind.wrap .i64 (k_1 * (IntKind.wrap .i64 (k_1 - (1 : Int))))) ≠ 0) ∧
  K1 (IntKind.wrap .i64 (Int.tdiv (1048576 : Int) (IntKind.wrap .i64 (k_1 * (IntKind.wrap .i64 (k_1 - (1 : Int))))))) h1)
  (K1 (IntKind.wrap .i64 (Int.tdiv (1048576 : Int) l_0)) h1))
noncomputable def soliton_weight_ann : Ann := (.two .n (.two .n (.two .n (.two (.join [(6, (.sc (.int .i64)))] [(6, 7), (12, 19)] .n) (.two (.join [(6, (.sc (.int .i64)))] [(6, 8), (19, 48)] .n) .n)))))
theorem soliton_weight_eq (l_0 : Int) (k_1 : Int) (R : Value → Heap → Prop) (h : Heap) : fnV C Tryz.f80 300 soliton_weight_ann [(.int .i64 l_0), (.int .i64 k_1)] R h = soliton_weight_m l_0 k_1 R h := by kernel_rfl
theorem soliton_weight_run (l_0 : Int) (k_1 : Int) {R : Value → Heap → Prop} {h : Heap} (hm : soliton_weight_m l_0 k_1 R h) : Meets Tryz.prog 80 #[(.int .i64 l_0), (.int .i64 k_1)] h R :=
  fn_spec C_ok (f := 80) (fn := Tryz.f80) (args := [(.int .i64 l_0), (.int .i64 k_1)]) Tryz.func80 (by rw [Tryz.ntmps80]; exact Nat.le_of_ble_eq_true rfl) (cast (soliton_weight_eq l_0 k_1 R h).symm hm)
/-- slices.Clone[[]int,int] -/
abbrev slices_Clone_int_int_id : FuncId := 81
noncomputable def slices_Clone_int_int_m (s_0 : Sl) (R : Value → Heap → Prop) (h : Heap) : Prop :=
  Br (Option.isNone s_0.ptr)
  (R (.slice none 0 0) h)
  (RunsR Tryz.prog (Instr.buildSlice 26 0 #[]) (.one (.sc .slc)) h fun v1 h1 =>
  RunsR Tryz.prog (Builtin.append_ #[26, 26] 26 #[(.slice v1.ptr v1.len v1.cap), (.slice s_0.ptr s_0.len s_0.cap)]) (.one (.sc .slc)) h1 fun v2 h2 =>
  R (.slice v2.ptr v2.len v2.cap) h2)
noncomputable def slices_Clone_int_int_ann : Ann := .n
theorem slices_Clone_int_int_eq (s_0 : Sl) (R : Value → Heap → Prop) (h : Heap) : fnV C Tryz.f81 300 slices_Clone_int_int_ann [(.slice s_0.ptr s_0.len s_0.cap)] R h = slices_Clone_int_int_m s_0 R h := by kernel_rfl
theorem slices_Clone_int_int_run (s_0 : Sl) {R : Value → Heap → Prop} {h : Heap} (hm : slices_Clone_int_int_m s_0 R h) : Meets Tryz.prog 81 #[(.slice s_0.ptr s_0.len s_0.cap)] h R :=
  fn_spec C_ok (f := 81) (fn := Tryz.f81) (args := [(.slice s_0.ptr s_0.len s_0.cap)]) Tryz.func81 (by rw [Tryz.ntmps81]; exact Nat.le_of_ble_eq_true rfl) (cast (slices_Clone_int_int_eq s_0 R h).symm hm)
/-- slices.Sort[[]int,int] -/
abbrev slices_Sort_int_int_id : FuncId := 82
noncomputable def slices_Sort_int_int_m (x_0 : Sl) (R : Value → Heap → Prop) (h : Heap) : Prop :=
  CallM Tryz.prog 91 #[(.int .u64 (IntKind.wrap .u64 ((x_0.len : Nat) : Int)))] (.one (.sc (.int .i64))) h fun r1 h1 =>
  CallM Tryz.prog 92 #[(.slice x_0.ptr x_0.len x_0.cap), (.int .i64 (0 : Int)), (.int .i64 ((x_0.len : Nat) : Int)), (.int .i64 r1)] (.many []) h1 fun _ h2 =>
  R (.tuple #[]) h2
noncomputable def slices_Sort_int_int_ann : Ann := .n
theorem slices_Sort_int_int_eq (x_0 : Sl) (R : Value → Heap → Prop) (h : Heap) : fnV C Tryz.f82 300 slices_Sort_int_int_ann [(.slice x_0.ptr x_0.len x_0.cap)] R h = slices_Sort_int_int_m x_0 R h := by kernel_rfl
theorem slices_Sort_int_int_run (x_0 : Sl) {R : Value → Heap → Prop} {h : Heap} (hm : slices_Sort_int_int_m x_0 R h) : Meets Tryz.prog 82 #[(.slice x_0.ptr x_0.len x_0.cap)] h R :=
  fn_spec C_ok (f := 82) (fn := Tryz.f82) (args := [(.slice x_0.ptr x_0.len x_0.cap)]) Tryz.func82 (by rw [Tryz.ntmps82]; exact Nat.le_of_ble_eq_true rfl) (cast (slices_Sort_int_int_eq x_0 R h).symm hm)
/-- wellspring/wellspringref01.Degree -/
abbrev wellspringref01_Degree_id : FuncId := 83
noncomputable def wellspringref01_Degree_m (t_0 : Sl) (x_1 : Int) (R : Value → Heap → Prop) (h : Heap) : Prop :=
  LoopM (σ := Int) (fun s1 K1 h1 =>
  JoinM (σ := Unit) (fun _ h2 =>
  ∃ a3 : Addr, (t_0.ptr = some a3 ∧ 0 ≤ s1 ∧ s1 < ((t_0.len : Nat) : Int)) ∧
  ∃ x4 : Int, cellOf h2 (a3.add (s1.toNat * 1)) = some (.int .i64 x4) ∧
  Br (decide (x4 > x_1))
  (R (.int .i64 (IntKind.wrap .i64 (s1 + (1 : Int)))) h2)
  (K1 (IntKind.wrap .i64 (s1 + (1 : Int))) h2))
  (fun K2 =>
  Br (decide (s1 < ((t_0.len : Nat) : Int))) (Br (decide (x_1 ≥ (0 : Int)))
  (K2 () h1)
  (R (.int .i64 (0 : Int)) h1)) (R (.int .i64 (0 : Int)) h1))) (0 : Int) h
noncomputable def wellspringref01_Degree_ann : Ann := (.two .n (.two (.two .n (.inn (.loop [(5, (.sc (.int .i64)))] [(4, 24)] (.two (.join [] [(6, 14)] .n) .n)))) .n))
theorem wellspringref01_Degree_eq (t_0 : Sl) (x_1 : Int) (R : Value → Heap → Prop) (h : Heap) : fnV C Tryz.f83 300 wellspringref01_Degree_ann [(.slice t_0.ptr t_0.len t_0.cap), (.int .i64 x_1)] R h = wellspringref01_Degree_m t_0 x_1 R h := by kernel_rfl
theorem wellspringref01_Degree_run (t_0 : Sl) (x_1 : Int) {R : Value → Heap → Prop} {h : Heap} (hm : wellspringref01_Degree_m t_0 x_1 R h) : Meets Tryz.prog 83 #[(.slice t_0.ptr t_0.len t_0.cap), (.int .i64 x_1)] h R :=
  fn_spec C_ok (f := 83) (fn := Tryz.f83) (args := [(.slice t_0.ptr t_0.len t_0.cap), (.int .i64 x_1)]) Tryz.func83 (by rw [Tryz.ntmps83]; exact Nat.le_of_ble_eq_true rfl) (cast (wellspringref01_Degree_eq t_0 x_1 R h).symm hm)
/-- (*wellspring/wellspringref01.Draw).Below -/
abbrev wellspringref01_Draw_Below_id : FuncId := 84
noncomputable def wellspringref01_Draw_Below_m (d_0 : Option Addr) (n_1 : Int) (R : Value → Heap → Prop) (h : Heap) : Prop :=
  Br (decide (n_1 ≤ (0 : Int)))
  (R (.int .i64 (0 : Int)) h)
  (CallM Tryz.prog 61 #[(.pointer d_0)] (.one (.sc (.int .u32))) h fun r1 h1 =>
  ((IntKind.wrap .u64 n_1) ≠ 0) ∧
  R (.int .i64 (IntKind.wrap .i64 (Int.tmod (IntKind.wrap .u64 r1) (IntKind.wrap .u64 n_1)))) h1)
noncomputable def wellspringref01_Draw_Below_ann : Ann := .n
theorem wellspringref01_Draw_Below_eq (d_0 : Option Addr) (n_1 : Int) (R : Value → Heap → Prop) (h : Heap) : fnV C Tryz.f84 300 wellspringref01_Draw_Below_ann [(.pointer d_0), (.int .i64 n_1)] R h = wellspringref01_Draw_Below_m d_0 n_1 R h := by kernel_rfl
theorem wellspringref01_Draw_Below_run (d_0 : Option Addr) (n_1 : Int) {R : Value → Heap → Prop} {h : Heap} (hm : wellspringref01_Draw_Below_m d_0 n_1 R h) : Meets Tryz.prog 84 #[(.pointer d_0), (.int .i64 n_1)] h R :=
  fn_spec C_ok (f := 84) (fn := Tryz.f84) (args := [(.pointer d_0), (.int .i64 n_1)]) Tryz.func84 (by rw [Tryz.ntmps84]; exact Nat.le_of_ble_eq_true rfl) (cast (wellspringref01_Draw_Below_eq d_0 n_1 R h).symm hm)
/-- wellspring/mat.Rank -/
abbrev mat_Rank_id : FuncId := 85
noncomputable def mat_Rank_m (f_0 : Option Addr) (a_1 : Sl) (R : Value → Heap → Prop) (h : Heap) : Prop :=
  CallM Tryz.prog 93 #[(.pointer f_0), (.slice a_1.ptr a_1.len a_1.cap)] (.one (.sc .slc)) h fun r1 h1 =>
  R (.int .i64 ((r1.len : Nat) : Int)) h1
noncomputable def mat_Rank_ann : Ann := .n
theorem mat_Rank_eq (f_0 : Option Addr) (a_1 : Sl) (R : Value → Heap → Prop) (h : Heap) : fnV C Tryz.f85 300 mat_Rank_ann [(.pointer f_0), (.slice a_1.ptr a_1.len a_1.cap)] R h = mat_Rank_m f_0 a_1 R h := by kernel_rfl
theorem mat_Rank_run (f_0 : Option Addr) (a_1 : Sl) {R : Value → Heap → Prop} {h : Heap} (hm : mat_Rank_m f_0 a_1 R h) : Meets Tryz.prog 85 #[(.pointer f_0), (.slice a_1.ptr a_1.len a_1.cap)] h R :=
  fn_spec C_ok (f := 85) (fn := Tryz.f85) (args := [(.pointer f_0), (.slice a_1.ptr a_1.len a_1.cap)]) Tryz.func85 (by rw [Tryz.ntmps85]; exact Nat.le_of_ble_eq_true rfl) (cast (mat_Rank_eq f_0 a_1 R h).symm hm)
/-- wellspring/row.sure -/
abbrev row_sure_id : FuncId := 86
noncomputable def row_sure_m (f_0 : Option Addr) (R : Value → Heap → Prop) (h : Heap) : Prop :=
  Br (Option.isNone f_0)
  (CallM Tryz.prog 21 #[] (.one (.sc .ptr)) h fun r1 h1 =>
  R (.pointer r1) h1)
  (R (.pointer f_0) h)
noncomputable def row_sure_ann : Ann := .n
theorem row_sure_eq (f_0 : Option Addr) (R : Value → Heap → Prop) (h : Heap) : fnV C Tryz.f86 300 row_sure_ann [(.pointer f_0)] R h = row_sure_m f_0 R h := by kernel_rfl
theorem row_sure_run (f_0 : Option Addr) {R : Value → Heap → Prop} {h : Heap} (hm : row_sure_m f_0 R h) : Meets Tryz.prog 86 #[(.pointer f_0)] h R :=
  fn_spec C_ok (f := 86) (fn := Tryz.f86) (args := [(.pointer f_0)]) Tryz.func86 (by rw [Tryz.ntmps86]; exact Nat.le_of_ble_eq_true rfl) (cast (row_sure_eq f_0 R h).symm hm)
/-- (*wellspring/gf.Field).Mul -/
abbrev gf_Field_Mul_id : FuncId := 87
noncomputable def gf_Field_Mul_m (f_0 : Option Addr) (a_1 : Int) (b_2 : Int) (R : Value → Heap → Prop) (h : Heap) : Prop :=
  JoinM (σ := Unit) (fun _ h1 =>
  CallM Tryz.prog 88 #[(.pointer f_0)] (.one (.sc .ptr)) h1 fun r2 h2 =>
  ∃ a3 : Addr, (r2 = some a3) ∧
  (0 ≤ a_1 ∧ a_1 < ((256 : Nat) : Int)) ∧
  ∃ x4 : Int, cellOf h2 ((a3.add 255).add (a_1.toNat * 1)) = some (.int .i64 x4) ∧
  ∃ a5 : Addr, (r2 = some a5) ∧
  (0 ≤ b_2 ∧ b_2 < ((256 : Nat) : Int)) ∧
  ∃ x6 : Int, cellOf h2 ((a5.add 255).add (b_2.toNat * 1)) = some (.int .i64 x6) ∧
  ((255 : Int) ≠ 0) ∧
  ∃ a7 : Addr, (r2 = some a7) ∧
  (0 ≤ (Int.tmod (IntKind.wrap .i64 (x4 + x6)) (255 : Int)) ∧ (Int.tmod (IntKind.wrap .i64 (x4 + x6)) (255 : Int)) < ((255 : Nat) : Int)) ∧
  ∃ x8 : Int, cellOf h2 (a7.add ((Int.tmod (IntKind.wrap .i64 (x4 + x6)) (255 : Int)).toNat * 1)) = some (.int .u8 x8) ∧
  R (.int .u8 x8) h2)
  (fun K1 =>
  Br (a_1 == (0 : Int)) (R (.int .u8 (0 : Int)) h) (Br (b_2 == (0 : Int))
  (R (.int .u8 (0 : Int)) h)
  (K1 () h)))
noncomputable def gf_Field_Mul_ann : Ann := (.two .n (.two (.join [] [(6, 7), (8, 14)] .n) .n))
theorem gf_Field_Mul_eq (f_0 : Option Addr) (a_1 : Int) (b_2 : Int) (R : Value → Heap → Prop) (h : Heap) : fnV C Tryz.f87 300 gf_Field_Mul_ann [(.pointer f_0), (.int .u8 a_1), (.int .u8 b_2)] R h = gf_Field_Mul_m f_0 a_1 b_2 R h := by kernel_rfl
theorem gf_Field_Mul_run (f_0 : Option Addr) (a_1 : Int) (b_2 : Int) {R : Value → Heap → Prop} {h : Heap} (hm : gf_Field_Mul_m f_0 a_1 b_2 R h) : Meets Tryz.prog 87 #[(.pointer f_0), (.int .u8 a_1), (.int .u8 b_2)] h R :=
  fn_spec C_ok (f := 87) (fn := Tryz.f87) (args := [(.pointer f_0), (.int .u8 a_1), (.int .u8 b_2)]) Tryz.func87 (by rw [Tryz.ntmps87]; exact Nat.le_of_ble_eq_true rfl) (cast (gf_Field_Mul_eq f_0 a_1 b_2 R h).symm hm)
/-- (*wellspring/gf.Field).own -/
abbrev gf_Field_own_id : FuncId := 88
noncomputable def gf_Field_own_m (f_0 : Option Addr) (R : Value → Heap → Prop) (h : Heap) : Prop :=
  Br (Option.isNone f_0)
  (CallM Tryz.prog 21 #[] (.one (.sc .ptr)) h fun r1 h1 =>
  R (.pointer r1) h1)
  (R (.pointer f_0) h)
noncomputable def gf_Field_own_ann : Ann := .n
theorem gf_Field_own_eq (f_0 : Option Addr) (R : Value → Heap → Prop) (h : Heap) : fnV C Tryz.f88 300 gf_Field_own_ann [(.pointer f_0)] R h = gf_Field_own_m f_0 R h := by kernel_rfl
theorem gf_Field_own_run (f_0 : Option Addr) {R : Value → Heap → Prop} {h : Heap} (hm : gf_Field_own_m f_0 R h) : Meets Tryz.prog 88 #[(.pointer f_0)] h R :=
  fn_spec C_ok (f := 88) (fn := Tryz.f88) (args := [(.pointer f_0)]) Tryz.func88 (by rw [Tryz.ntmps88]; exact Nat.le_of_ble_eq_true rfl) (cast (gf_Field_own_eq f_0 R h).symm hm)
/-- wellspring/wellspringref01.Matrix -/
abbrev wellspringref01_Matrix_id : FuncId := 89
noncomputable def wellspringref01_Matrix_m (p_0 : Int × Int × Int) (seed_1 : Int) (ids_2 : Sl) (R : Value → Heap → Prop) (h : Heap) : Prop :=
  RunsA Tryz.prog (Instr.box 23 (.agg #[(.int .i64 p_0.1), (.int .i64 p_0.2.1), (.int .i64 p_0.2.2)])) h fun a1 h1 =>
  ∃ x2 : Int × Int × Int, cellsAt h1 a1 0 [(.int .i64 x2.1), (.int .i64 x2.2.1), (.int .i64 x2.2.2)] ∧
  CallM Tryz.prog 24 #[(.agg #[(.int .i64 x2.1), (.int .i64 x2.2.1), (.int .i64 x2.2.2)])] (.one (.sc .bool)) h1 fun r3 h2 =>
  Br (!r3)
  (R (.slice none 0 0) h2)
  (∃ x4 : Int × Int × Int, cellsAt h2 a1 0 [(.int .i64 x4.1), (.int .i64 x4.2.1), (.int .i64 x4.2.2)] ∧
  CallM Tryz.prog 26 #[(.agg #[(.int .i64 x4.1), (.int .i64 x4.2.1), (.int .i64 x4.2.2)])] (.one (.sc .slc)) h2 fun r5 h3 =>
  LoopM (σ := Sl × Int) (fun s6 K1 h4 =>
  Br (decide (s6.2 < ((ids_2.len : Nat) : Int)))
  (∃ a7 : Addr, (ids_2.ptr = some a7 ∧ 0 ≤ s6.2 ∧ s6.2 < ((ids_2.len : Nat) : Int)) ∧
  ∃ x8 : Int, cellOf h4 (a7.add (s6.2.toNat * 1)) = some (.int .i64 x8) ∧
  CallM Tryz.prog 31 #[(.int .i64 x8)] (.one (.sc .bool)) h4 fun r9 h5 =>
  Br r9
  (∃ x10 : Int × Int × Int, cellsAt h5 a1 0 [(.int .i64 x10.1), (.int .i64 x10.2.1), (.int .i64 x10.2.2)] ∧
  CallM Tryz.prog 27 #[(.agg #[(.int .i64 x10.1), (.int .i64 x10.2.1), (.int .i64 x10.2.2)]), (.int .u32 seed_1), (.int .i64 x8)] (.one (.sc .slc)) h5 fun r11 h6 =>
  RunsR Tryz.prog (Instr.buildSlice 44 1 #[(0, (.slice r11.ptr r11.len r11.cap))]) (.one (.sc .slc)) h6 fun v12 h7 =>
  RunsR Tryz.prog (Builtin.append_ #[44, 44] 44 #[(.slice s6.1.ptr s6.1.len s6.1.cap), (.slice v12.ptr v12.len v12.cap)]) (.one (.sc .slc)) h7 fun v13 h8 =>
  K1 ((⟨v13.ptr, v13.len, v13.cap⟩ : Sl), IntKind.wrap .i64 (s6.2 + (1 : Int))) h8)
  (K1 ((⟨s6.1.ptr, s6.1.len, s6.1.cap⟩ : Sl), IntKind.wrap .i64 (s6.2 + (1 : Int))) h5))
  (R (.slice s6.1.ptr s6.1.len s6.1.cap) h4)) ((⟨r5.ptr, r5.len, r5.cap⟩ : Sl), (0 : Int)) h3)
noncomputable def wellspringref01_Matrix_ann : Ann := (.two .n (.two .n (.two .n (.two (.two .n (.inn (.loop [(7, (.sc .slc)), (17, (.sc (.int .i64)))] [(7, 8), (9, 10), (17, 31)] .n))) .n))))
theorem wellspringref01_Matrix_eq (p_0 : Int × Int × Int) (seed_1 : Int) (ids_2 : Sl) (R : Value → Heap → Prop) (h : Heap) : fnV C Tryz.f89 300 wellspringref01_Matrix_ann [(.agg #[(.int .i64 p_0.1), (.int .i64 p_0.2.1), (.int .i64 p_0.2.2)]), (.int .u32 seed_1), (.slice ids_2.ptr ids_2.len ids_2.cap)] R h = wellspringref01_Matrix_m p_0 seed_1 ids_2 R h := by kernel_rfl
theorem wellspringref01_Matrix_run (p_0 : Int × Int × Int) (seed_1 : Int) (ids_2 : Sl) {R : Value → Heap → Prop} {h : Heap} (hm : wellspringref01_Matrix_m p_0 seed_1 ids_2 R h) : Meets Tryz.prog 89 #[(.agg #[(.int .i64 p_0.1), (.int .i64 p_0.2.1), (.int .i64 p_0.2.2)]), (.int .u32 seed_1), (.slice ids_2.ptr ids_2.len ids_2.cap)] h R :=
  fn_spec C_ok (f := 89) (fn := Tryz.f89) (args := [(.agg #[(.int .i64 p_0.1), (.int .i64 p_0.2.1), (.int .i64 p_0.2.2)]), (.int .u32 seed_1), (.slice ids_2.ptr ids_2.len ids_2.cap)]) Tryz.func89 (by rw [Tryz.ntmps89]; exact Nat.le_of_ble_eq_true rfl) (cast (wellspringref01_Matrix_eq p_0 seed_1 ids_2 R h).symm hm)
/-- wellspring/soliton.root -/
abbrev soliton_root_id : FuncId := 90
noncomputable def soliton_root_m (l_0 : Int) (R : Value → Heap → Prop) (h : Heap) : Prop :=
  LoopM (σ := Int) (fun s1 K1 h1 =>
  Br (decide ((IntKind.wrap .i64 (s1 * s1)) < l_0))
  (K1 (IntKind.wrap .i64 (s1 + (1 : Int))) h1)
  (R (.int .i64 s1) h1)) (0 : Int) h
noncomputable def soliton_root_ann : Ann := (.two .n (.two .n (.two (.inn (.loop [(3, (.sc (.int .i64)))] [(3, 11)] .n)) .n)))
theorem soliton_root_eq (l_0 : Int) (R : Value → Heap → Prop) (h : Heap) : fnV C Tryz.f90 300 soliton_root_ann [(.int .i64 l_0)] R h = soliton_root_m l_0 R h := by kernel_rfl
theorem soliton_root_run (l_0 : Int) {R : Value → Heap → Prop} {h : Heap} (hm : soliton_root_m l_0 R h) : Meets Tryz.prog 90 #[(.int .i64 l_0)] h R :=
  fn_spec C_ok (f := 90) (fn := Tryz.f90) (args := [(.int .i64 l_0)]) Tryz.func90 (by rw [Tryz.ntmps90]; exact Nat.le_of_ble_eq_true rfl) (cast (soliton_root_eq l_0 R h).symm hm)
/-- math/bits.Len -/
abbrev math_bits_Len_id : FuncId := 91
noncomputable def math_bits_Len_m (x_0 : Int) (R : Value → Heap → Prop) (h : Heap) : Prop :=
  CallM Tryz.prog 95 #[(.int .u64 x_0)] (.one (.sc (.int .i64))) h fun r1 h1 =>
  R (.int .i64 r1) h1
noncomputable def math_bits_Len_ann : Ann := .n
theorem math_bits_Len_eq (x_0 : Int) (R : Value → Heap → Prop) (h : Heap) : fnV C Tryz.f91 300 math_bits_Len_ann [(.int .u64 x_0)] R h = math_bits_Len_m x_0 R h := by kernel_rfl
theorem math_bits_Len_run (x_0 : Int) {R : Value → Heap → Prop} {h : Heap} (hm : math_bits_Len_m x_0 R h) : Meets Tryz.prog 91 #[(.int .u64 x_0)] h R :=
  fn_spec C_ok (f := 91) (fn := Tryz.f91) (args := [(.int .u64 x_0)]) Tryz.func91 (by rw [Tryz.ntmps91]; exact Nat.le_of_ble_eq_true rfl) (cast (math_bits_Len_eq x_0 R h).symm hm)
/-- wellspring/mat.Reduce -/
abbrev mat_Reduce_id : FuncId := 93
noncomputable def mat_Reduce_m (f_0 : Option Addr) (a_1 : Sl) (R : Value → Heap → Prop) (h : Heap) : Prop :=
  CallM Tryz.prog 35 #[(.slice a_1.ptr a_1.len a_1.cap)] (.one (.sc .bool)) h fun r1 h1 =>
  Br (!r1)
  (R (.slice none 0 0) h1)
  (CallM Tryz.prog 37 #[(.slice a_1.ptr a_1.len a_1.cap)] (.one (.sc .slc)) h1 fun r2 h2 =>
  CallM Tryz.prog 39 #[(.pointer f_0)] (.one (.sc .ptr)) h2 fun r3 h3 =>
  CallM Tryz.prog 36 #[(.slice r2.ptr r2.len r2.cap)] (.one (.sc (.int .i64))) h3 fun r4 h4 =>
  CallM Tryz.prog 38 #[(.pointer r3), (.slice r2.ptr r2.len r2.cap), (.int .i64 r4)] (.one (.sc (.int .i64))) h4 fun r5 h5 =>
  (0 ≤ r5 ∧ r5 ≤ ((r2.cap : Nat) : Int)) ∧
  R (.slice r2.ptr r5.toNat r2.cap) h5)
noncomputable def mat_Reduce_ann : Ann := .n
theorem mat_Reduce_eq (f_0 : Option Addr) (a_1 : Sl) (R : Value → Heap → Prop) (h : Heap) : fnV C Tryz.f93 300 mat_Reduce_ann [(.pointer f_0), (.slice a_1.ptr a_1.len a_1.cap)] R h = mat_Reduce_m f_0 a_1 R h := by kernel_rfl
theorem mat_Reduce_run (f_0 : Option Addr) (a_1 : Sl) {R : Value → Heap → Prop} {h : Heap} (hm : mat_Reduce_m f_0 a_1 R h) : Meets Tryz.prog 93 #[(.pointer f_0), (.slice a_1.ptr a_1.len a_1.cap)] h R :=
  fn_spec C_ok (f := 93) (fn := Tryz.f93) (args := [(.pointer f_0), (.slice a_1.ptr a_1.len a_1.cap)]) Tryz.func93 (by rw [Tryz.ntmps93]; exact Nat.le_of_ble_eq_true rfl) (cast (mat_Reduce_eq f_0 a_1 R h).symm hm)
end Go.Proofs.YtgcbahhnnphejaaGreat
