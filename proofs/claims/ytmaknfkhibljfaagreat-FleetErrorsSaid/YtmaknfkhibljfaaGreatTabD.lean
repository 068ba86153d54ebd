/- Part of the proofs that wellspringlaw30's laws answer true whatever the input reads, and leave it as it was; no condition. -/
import Derived.Test.YtmaknfkhibljfaaGreatTabA
set_option linter.unusedVariables false
set_option linter.unusedSimpArgs false
namespace Go.Proofs.YtmaknfkhibljfaaGreat
open Go Go.Vc Go.Proofs
set_option maxRecDepth 1000000
abbrev crc_Sum_id : FuncId := 146
noncomputable def crc_Sum_m (b_0 : Sl) (R : Value → Heap → Prop) (h : Heap) : Prop :=
  LoopM (σ := Int × Int) (fun s1 K1 h1 =>
  Br (decide (s1.2 < ((b_0.len : Nat) : Int)))
  (∃ a2 : Addr, (b_0.ptr = some a2 ∧ 0 ≤ s1.2 ∧ s1.2 < ((b_0.len : Nat) : Int)) ∧
  ∃ x3 : Int, cellOf h1 (a2.add (s1.2.toNat * 1)) = some (.int .u8 x3) ∧
  LoopM (σ := Int × Int) (fun s4 K2 h2 =>
  Br (decide (s4.2 < (8 : Int)))
  ((0 ≤ (1 : Int)) ∧
  Br ((IntKind.wrap .u32 ((BitVec.ofInt (IntKind.bits .u32) s4.1 &&& (BitVec.ofInt (IntKind.bits .u32) (1 : Int))).toNat : Nat)) == (1 : Int))
  (K2 (IntKind.wrap .u32 ((BitVec.ofInt (IntKind.bits .u32) (Int.fdiv s4.1 (2 ^ min (1 : Int).toNat (IntKind.bits .u32))) ^^^ (BitVec.ofInt (IntKind.bits .u32) (3988292384 : Int))).toNat : Nat), IntKind.wrap .i64 (s4.2 + (1 : Int))) h2)
  (K2 (Int.fdiv s4.1 (2 ^ min (1 : Int).toNat (IntKind.bits .u32)), IntKind.wrap .i64 (s4.2 + (1 : Int))) h2))
  (K1 (s4.1, IntKind.wrap .i64 (s1.2 + (1 : Int))) h2)) (IntKind.wrap .u32 ((BitVec.ofInt (IntKind.bits .u32) s1.1 ^^^ (BitVec.ofInt (IntKind.bits .u32) (IntKind.wrap .u32 x3))).toNat : Nat), (0 : Int)) h1)
  (R (.int .u32 (IntKind.wrap .u32 ((BitVec.ofInt (IntKind.bits .u32) (4294967295 : Int) ^^^ (BitVec.ofInt (IntKind.bits .u32) s1.1)).toNat : Nat))) h1)) ((4294967295 : Int), (0 : Int)) h
theorem crc_Sum_run (b_0 : Sl) {R : Value → Heap → Prop} {h : Heap} (hm : crc_Sum_m b_0 R h) : Meets Tryz.prog 146 #[(.slice b_0.ptr b_0.len b_0.cap)] h R := fn_tie C_ok Tryz.func146 (.two .n (.two .n (.two (.two .n (.inn (.loop [(3, (.sc (.int .u32))), (9, (.sc (.int .i64)))] [(3, 4), (5, 7), (9, 29)] (.two .n (.two .n (.two (.inn (.two .n (.two .n (.two .n (.inn (.loop [(3, (.sc (.int .u32))), (17, (.sc (.int .i64)))] [(3, 4), (6, 7), (17, 28)] .n)))))) .n)))))) .n))) hm
noncomputable def chunk_size_m (p_0 : Int × Int × Int) (R : Value → Heap → Prop) (h : Heap) : Prop :=
  RunsA Tryz.prog (Instr.box 37 (.agg #[(.int .i64 p_0.1), (.int .i64 p_0.2.1), (.int .i64 p_0.2.2)])) h fun a1 h1 =>
  ∃ x2 : Int, cellOf h1 a1 = some (.int .i64 x2) ∧
  ∃ x3 : Int, cellOf h1 (a1.add 2) = some (.int .i64 x3) ∧
  R (.int .i64 (IntKind.wrap .i64 (x2 * x3))) h1
theorem chunk_size_run (p_0 : Int × Int × Int) {R : Value → Heap → Prop} {h : Heap} (hm : chunk_size_m p_0 R h) : Meets Tryz.prog 163 #[(.agg #[(.int .i64 p_0.1), (.int .i64 p_0.2.1), (.int .i64 p_0.2.2)])] h R := fn_tie C_ok Tryz.func163 .n hm
abbrev wellspringref15_MayMani_id : FuncId := 164
noncomputable def wellspringref15_MayMani_m (m_0 : Int × Int × Int × Int × Int × Int × Sl × Sl) (R : Value → Heap → Prop) (h : Heap) : Prop :=
  RunsA Tryz.prog (Instr.box 40 (.agg #[(.int .i64 m_0.1), (.int .i64 m_0.2.1), (.int .i64 m_0.2.2.1), (.int .i64 m_0.2.2.2.1), (.int .i64 m_0.2.2.2.2.1), (.int .i64 m_0.2.2.2.2.2.1), (.slice m_0.2.2.2.2.2.2.1.ptr m_0.2.2.2.2.2.2.1.len m_0.2.2.2.2.2.2.1.cap), (.slice m_0.2.2.2.2.2.2.2.ptr m_0.2.2.2.2.2.2.2.len m_0.2.2.2.2.2.2.2.cap)])) h fun a1 h1 =>
  JoinM (σ := Unit) (fun _ h3 =>
  ∃ x12 : Sl, cellOf h3 (a1.add 6) = some (.slice x12.ptr x12.len x12.cap) ∧
  LoopM (σ := Int) (fun s13 K2 h4 =>
  Br (decide (s13 < ((x12.len : Nat) : Int)))
  (∃ a14 : Addr, (x12.ptr = some a14 ∧ 0 ≤ s13 ∧ s13 < ((x12.len : Nat) : Int)) ∧
  ∃ x15 : Int, cellOf h4 (a14.add (s13.toNat * 1)) = some (.int .i64 x15) ∧
  Br (decide (x15 < (0 : Int))) (R (.bool false) h4) (Br (decide (x15 ≥ (64 : Int))) (R (.bool false) h4) (Br (decide (s13 > (0 : Int))) (∃ x16 : Sl, cellOf h4 (a1.add 6) = some (.slice x16.ptr x16.len x16.cap) ∧
  ∃ a17 : Addr, (x16.ptr = some a17 ∧ 0 ≤ (IntKind.wrap .i64 (s13 - (1 : Int))) ∧ (IntKind.wrap .i64 (s13 - (1 : Int))) < ((x16.len : Nat) : Int)) ∧
  ∃ x18 : Int, cellOf h4 (a17.add ((IntKind.wrap .i64 (s13 - (1 : Int))).toNat * 1)) = some (.int .i64 x18) ∧
  Br (decide (x15 ≤ x18))
  (R (.bool false) h4)
  (K2 (IntKind.wrap .i64 (s13 + (1 : Int))) h4)) (K2 (IntKind.wrap .i64 (s13 + (1 : Int))) h4))))
  (∃ x19 : Sl, cellOf h4 (a1.add 7) = some (.slice x19.ptr x19.len x19.cap) ∧
  LoopM (σ := Int) (fun s20 K3 h5 =>
  Br (decide (s20 < ((x19.len : Nat) : Int)))
  (∃ a21 : Addr, (x19.ptr = some a21 ∧ 0 ≤ s20 ∧ s20 < ((x19.len : Nat) : Int)) ∧
  ∃ x22 : ByteArray × Int × Int × Sl, cellsAt h5 (a21.add (s20.toNat * 4)) 0 [(.string x22.1), (.int .i64 x22.2.1), (.int .i64 x22.2.2.1), (.slice x22.2.2.2.ptr x22.2.2.2.len x22.2.2.2.cap)] ∧
  RunsA Tryz.prog (Instr.alloc 133 true (.tuple #[])) h5 fun a23 h6 =>
  Runs Tryz.prog (Instr.storeAt 133 (.pointer (some a23)) (.agg #[(.string x22.1), (.int .i64 x22.2.1), (.int .i64 x22.2.2.1), (.slice x22.2.2.2.ptr x22.2.2.2.len x22.2.2.2.cap)])) h6 fun _ h7 =>
  JoinM (σ := Unit) (fun _ h11 =>
  ∃ x53 : Sl, cellOf h11 (a23.add 3) = some (.slice x53.ptr x53.len x53.cap) ∧
  LoopM (σ := Int) (fun s54 K5 h12 =>
  Br (decide (s54 < ((x53.len : Nat) : Int)))
  (∃ a55 : Addr, (x53.ptr = some a55 ∧ 0 ≤ s54 ∧ s54 < ((x53.len : Nat) : Int)) ∧
  ∃ x56 : Int, cellOf h12 (a55.add (s54.toNat * 1)) = some (.int .i64 x56) ∧
  Br (decide (x56 < (0 : Int))) (R (.bool false) h12) (Br (decide (x56 ≥ (16 : Int)))
  (R (.bool false) h12)
  (K5 (IntKind.wrap .i64 (s54 + (1 : Int))) h12)))
  (LoopM (σ := Int) (fun s57 K6 h13 =>
  Br (decide (s57 < s20))
  (∃ x58 : Sl, cellOf h13 (a1.add 7) = some (.slice x58.ptr x58.len x58.cap) ∧
  ∃ a59 : Addr, (x58.ptr = some a59 ∧ 0 ≤ s57 ∧ s57 < ((x58.len : Nat) : Int)) ∧
  ∃ x60 : Int, cellOf h13 ((a59.add (s57.toNat * 4)).add 1) = some (.int .i64 x60) ∧
  ∃ x61 : Int, cellOf h13 (a23.add 1) = some (.int .i64 x61) ∧
  Br (x60 == x61)
  (R (.bool false) h13)
  (K6 (IntKind.wrap .i64 (s57 + (1 : Int))) h13))
  (K3 (IntKind.wrap .i64 (s20 + (1 : Int))) h13)) (0 : Int) h12)) (0 : Int) h11)
  (fun K4 =>
  ∃ x24 : ByteArray, cellOf h7 a23 = some (.string x24) ∧
  CallM Tryz.prog 177 #[(.string x24)] (.one (.sc .bool)) h7 fun r25 h8 =>
  (Held.ok [] h8) ∧
  Br (!r25) ((Held.ok [] h8) ∧
  R (.bool false) h8) (Br (decide (s20 > (0 : Int))) (∃ x26 : ByteArray, cellOf h8 a23 = some (.string x26) ∧
  ∃ x27 : Sl, cellOf h8 (a1.add 7) = some (.slice x27.ptr x27.len x27.cap) ∧
  ∃ a28 : Addr, (x27.ptr = some a28 ∧ 0 ≤ (IntKind.wrap .i64 (s20 - (1 : Int))) ∧ (IntKind.wrap .i64 (s20 - (1 : Int))) < ((x27.len : Nat) : Int)) ∧
  ∃ x29 : ByteArray, cellOf h8 (a28.add ((IntKind.wrap .i64 (s20 - (1 : Int))).toNat * 4)) = some (.string x29) ∧
  Br (Op.bytesLess x26.toList x29.toList || x26.toList == x29.toList) ((Held.ok [(a28.add ((IntKind.wrap .i64 (s20 - (1 : Int))).toNat * 4), (.string x29)), (a1.add 7, (.slice x27.ptr x27.len x27.cap)), (a23, (.string x26))] h8) ∧
  R (.bool false) h8) (∃ x30 : Int, cellOf h8 (a23.add 1) = some (.int .i64 x30) ∧
  Br (decide (x30 < (0 : Int))) ((Held.ok [(a23.add 1, (.int .i64 x30)), (a28.add ((IntKind.wrap .i64 (s20 - (1 : Int))).toNat * 4), (.string x29)), (a1.add 7, (.slice x27.ptr x27.len x27.cap)), (a23, (.string x26))] h8) ∧
  R (.bool false) h8) (∃ x31 : Int, cellOf h8 (a23.add 1) = some (.int .i64 x31) ∧
  ∃ x32 : Int, cellOf h8 (a1.add 1) = some (.int .i64 x32) ∧
  Br (decide (x31 ≥ x32)) ((Held.ok [(a1.add 1, (.int .i64 x32)), (a23.add 1, (.int .i64 x31)), (a23.add 1, (.int .i64 x30)), (a28.add ((IntKind.wrap .i64 (s20 - (1 : Int))).toNat * 4), (.string x29)), (a1.add 7, (.slice x27.ptr x27.len x27.cap)), (a23, (.string x26))] h8) ∧
  R (.bool false) h8) (∃ x33 : Int, cellOf h8 (a23.add 2) = some (.int .i64 x33) ∧
  Br (decide (x33 < (0 : Int))) ((Held.ok [(a23.add 2, (.int .i64 x33)), (a1.add 1, (.int .i64 x32)), (a23.add 1, (.int .i64 x31)), (a23.add 1, (.int .i64 x30)), (a28.add ((IntKind.wrap .i64 (s20 - (1 : Int))).toNat * 4), (.string x29)), (a1.add 7, (.slice x27.ptr x27.len x27.cap)), (a23, (.string x26))] h8) ∧
  R (.bool false) h8) (∃ x34 : Int, cellOf h8 (a23.add 2) = some (.int .i64 x34) ∧
  ∃ x35 : Int, cellOf h8 (a1.add 2) = some (.int .i64 x35) ∧
  ∃ x36 : Int, cellOf h8 ((a1.add 2).add 2) = some (.int .i64 x36) ∧
  Br (decide (x34 > (IntKind.wrap .i64 ((IntKind.wrap .i64 (x35 * x36)) * (8 : Int))))) ((Held.ok [((a1.add 2).add 2, (.int .i64 x36)), (a1.add 2, (.int .i64 x35)), (a23.add 2, (.int .i64 x34)), (a23.add 2, (.int .i64 x33)), (a1.add 1, (.int .i64 x32)), (a23.add 1, (.int .i64 x31)), (a23.add 1, (.int .i64 x30)), (a28.add ((IntKind.wrap .i64 (s20 - (1 : Int))).toNat * 4), (.string x29)), (a1.add 7, (.slice x27.ptr x27.len x27.cap)), (a23, (.string x26))] h8) ∧
  R (.bool false) h8) (∃ x37 : Sl, cellOf h8 (a23.add 3) = some (.slice x37.ptr x37.len x37.cap) ∧
  ∃ x38 : Int × Int × Int, cellsAt h8 (a1.add 2) 0 [(.int .i64 x38.1), (.int .i64 x38.2.1), (.int .i64 x38.2.2)] ∧
  ∃ x39 : Int, cellOf h8 (a23.add 2) = some (.int .i64 x39) ∧
  CallM Tryz.prog 178 #[(.agg #[(.int .i64 x38.1), (.int .i64 x38.2.1), (.int .i64 x38.2.2)]), (.int .i64 x39)] (.one (.sc (.int .i64))) h8 fun r40 h9 =>
  (Held.ok [(a23.add 3, (.slice x37.ptr x37.len x37.cap)), ((a1.add 2).add 2, (.int .i64 x36)), (a1.add 2, (.int .i64 x35)), (a23.add 2, (.int .i64 x34)), (a23.add 2, (.int .i64 x33)), (a1.add 1, (.int .i64 x32)), (a23.add 1, (.int .i64 x31)), (a23.add 1, (.int .i64 x30)), (a28.add ((IntKind.wrap .i64 (s20 - (1 : Int))).toNat * 4), (.string x29)), (a1.add 7, (.slice x27.ptr x27.len x27.cap)), (a23, (.string x26))] h9) ∧
  Br (((x37.len : Nat) : Int) != r40)
  (R (.bool false) h9)
  (K4 () h9))))))) (∃ x41 : Int, cellOf h8 (a23.add 1) = some (.int .i64 x41) ∧
  Br (decide (x41 < (0 : Int))) ((Held.ok [(a23.add 1, (.int .i64 x41))] h8) ∧
  R (.bool false) h8) (∃ x42 : Int, cellOf h8 (a23.add 1) = some (.int .i64 x42) ∧
  ∃ x43 : Int, cellOf h8 (a1.add 1) = some (.int .i64 x43) ∧
  Br (decide (x42 ≥ x43)) ((Held.ok [(a1.add 1, (.int .i64 x43)), (a23.add 1, (.int .i64 x42)), (a23.add 1, (.int .i64 x41))] h8) ∧
  R (.bool false) h8) (∃ x44 : Int, cellOf h8 (a23.add 2) = some (.int .i64 x44) ∧
  Br (decide (x44 < (0 : Int))) ((Held.ok [(a23.add 2, (.int .i64 x44)), (a1.add 1, (.int .i64 x43)), (a23.add 1, (.int .i64 x42)), (a23.add 1, (.int .i64 x41))] h8) ∧
  R (.bool false) h8) (∃ x45 : Int, cellOf h8 (a23.add 2) = some (.int .i64 x45) ∧
  ∃ x46 : Int, cellOf h8 (a1.add 2) = some (.int .i64 x46) ∧
  ∃ x47 : Int, cellOf h8 ((a1.add 2).add 2) = some (.int .i64 x47) ∧
  Br (decide (x45 > (IntKind.wrap .i64 ((IntKind.wrap .i64 (x46 * x47)) * (8 : Int))))) ((Held.ok [((a1.add 2).add 2, (.int .i64 x47)), (a1.add 2, (.int .i64 x46)), (a23.add 2, (.int .i64 x45)), (a23.add 2, (.int .i64 x44)), (a1.add 1, (.int .i64 x43)), (a23.add 1, (.int .i64 x42)), (a23.add 1, (.int .i64 x41))] h8) ∧
  R (.bool false) h8) (∃ x48 : Sl, cellOf h8 (a23.add 3) = some (.slice x48.ptr x48.len x48.cap) ∧
  ∃ x49 : Int × Int × Int, cellsAt h8 (a1.add 2) 0 [(.int .i64 x49.1), (.int .i64 x49.2.1), (.int .i64 x49.2.2)] ∧
  ∃ x50 : Int, cellOf h8 (a23.add 2) = some (.int .i64 x50) ∧
  CallM Tryz.prog 178 #[(.agg #[(.int .i64 x49.1), (.int .i64 x49.2.1), (.int .i64 x49.2.2)]), (.int .i64 x50)] (.one (.sc (.int .i64))) h8 fun r51 h10 =>
  (Held.ok [(a23.add 3, (.slice x48.ptr x48.len x48.cap)), ((a1.add 2).add 2, (.int .i64 x47)), (a1.add 2, (.int .i64 x46)), (a23.add 2, (.int .i64 x45)), (a23.add 2, (.int .i64 x44)), (a1.add 1, (.int .i64 x43)), (a23.add 1, (.int .i64 x42)), (a23.add 1, (.int .i64 x41))] h10) ∧
  Br (((x48.len : Nat) : Int) != r51)
  (R (.bool false) h10)
  (K4 () h10)))))))))
  (R (.bool true) h5)) (0 : Int) h4)) (0 : Int) h3)
  (fun K1 =>
  ∃ x2 : Int, cellOf h1 a1 = some (.int .i64 x2) ∧
  Br (decide (x2 < (1 : Int))) (R (.bool false) h1) (∃ x3 : Int, cellOf h1 a1 = some (.int .i64 x3) ∧
  Br (decide (x3 > (2147483647 : Int))) (R (.bool false) h1) (∃ x4 : Int, cellOf h1 (a1.add 1) = some (.int .i64 x4) ∧
  Br (decide (x4 < (0 : Int))) (R (.bool false) h1) (∃ x5 : Int, cellOf h1 (a1.add 1) = some (.int .i64 x5) ∧
  Br (decide (x5 > (16777216 : Int))) (R (.bool false) h1) (∃ x6 : Int × Int × Int, cellsAt h1 (a1.add 2) 0 [(.int .i64 x6.1), (.int .i64 x6.2.1), (.int .i64 x6.2.2)] ∧
  CallM Tryz.prog 101 #[(.agg #[(.int .i64 x6.1), (.int .i64 x6.2.1), (.int .i64 x6.2.2)])] (.one (.sc .bool)) h1 fun r7 h2 =>
  Br (!r7) (R (.bool false) h2) (∃ x8 : Int, cellOf h2 (a1.add 5) = some (.int .i64 x8) ∧
  Br (decide (x8 < (0 : Int))) (R (.bool false) h2) (∃ x9 : Int, cellOf h2 (a1.add 5) = some (.int .i64 x9) ∧
  Br (decide (x9 > (16 : Int))) (R (.bool false) h2) (∃ x10 : Sl, cellOf h2 (a1.add 7) = some (.slice x10.ptr x10.len x10.cap) ∧
  Br (decide (((x10.len : Nat) : Int) > (12 : Int)))
  (R (.bool false) h2)
  (K1 () h2)))))))))
theorem wellspringref15_MayMani_run (m_0 : Int × Int × Int × Int × Int × Int × Sl × Sl) {R : Value → Heap → Prop} {h : Heap} (hm : wellspringref15_MayMani_m m_0 R h) : Meets Tryz.prog 164 #[(.agg #[(.int .i64 m_0.1), (.int .i64 m_0.2.1), (.int .i64 m_0.2.2.1), (.int .i64 m_0.2.2.2.1), (.int .i64 m_0.2.2.2.2.1), (.int .i64 m_0.2.2.2.2.2.1), (.slice m_0.2.2.2.2.2.2.1.ptr m_0.2.2.2.2.2.2.1.len m_0.2.2.2.2.2.2.1.cap), (.slice m_0.2.2.2.2.2.2.2.ptr m_0.2.2.2.2.2.2.2.len m_0.2.2.2.2.2.2.2.cap)])] h R := fn_tie C_ok Tryz.func164 (.two .n (.two (.join [] [(2, 3), (10, 50)] .n) (.two (.two .n (.inn (.loop [(53, (.sc (.int .i64)))] [(2, 5), (53, 79)] .n))) (.two (.two .n (.inn (.loop [(82, (.sc (.int .i64)))] [(2, 3), (5, 7), (8, 10), (82, 177)] (.two .n (.two .n (.two (.inn (.two .n (.two (.join [] [(2, 3), (87, 148)] .n) (.two (.two .n (.inn (.loop [(151, (.sc (.int .i64)))] [(2, 3), (8, 9), (151, 162)] .n))) (.two .n (.inn (.loop [(9, (.sc (.int .i64)))] [(2, 3), (9, 10), (162, 176)] .n))))))) .n)))))) .n)))) hm
abbrev wellspringref15_Sum_id : FuncId := 165
noncomputable def wellspringref15_Sum_m (b_0 : Sl) (R : Value → Heap → Prop) (h : Heap) : Prop :=
  LoopM (σ := Int × Int) (fun s1 K1 h1 =>
  Br (decide (s1.2 < ((b_0.len : Nat) : Int)))
  (∃ a2 : Addr, (b_0.ptr = some a2 ∧ 0 ≤ s1.2 ∧ s1.2 < ((b_0.len : Nat) : Int)) ∧
  ∃ x3 : Int, cellOf h1 (a2.add (s1.2.toNat * 1)) = some (.int .u8 x3) ∧
  LoopM (σ := Int × Int) (fun s4 K2 h2 =>
  Br (decide (s4.2 < (8 : Int)))
  (Br ((IntKind.wrap .u32 ((BitVec.ofInt (IntKind.bits .u32) s4.1 &&& (BitVec.ofInt (IntKind.bits .u32) (1 : Int))).toNat : Nat)) == (1 : Int))
  ((0 ≤ (1 : Int)) ∧
  K2 (IntKind.wrap .u32 ((BitVec.ofInt (IntKind.bits .u32) (Int.fdiv s4.1 (2 ^ min (1 : Int).toNat (IntKind.bits .u32))) ^^^ (BitVec.ofInt (IntKind.bits .u32) (3988292384 : Int))).toNat : Nat), IntKind.wrap .i64 (s4.2 + (1 : Int))) h2)
  ((0 ≤ (1 : Int)) ∧
  K2 (Int.fdiv s4.1 (2 ^ min (1 : Int).toNat (IntKind.bits .u32)), IntKind.wrap .i64 (s4.2 + (1 : Int))) h2))
  (K1 (s4.1, IntKind.wrap .i64 (s1.2 + (1 : Int))) h2)) (IntKind.wrap .u32 ((BitVec.ofInt (IntKind.bits .u32) s1.1 ^^^ (BitVec.ofInt (IntKind.bits .u32) (IntKind.wrap .u32 x3))).toNat : Nat), (0 : Int)) h1)
  (R (.int .u32 (IntKind.wrap .u32 ((BitVec.ofInt (IntKind.bits .u32) (4294967295 : Int) ^^^ (BitVec.ofInt (IntKind.bits .u32) s1.1)).toNat : Nat))) h1)) ((4294967295 : Int), (0 : Int)) h
theorem wellspringref15_Sum_run (b_0 : Sl) {R : Value → Heap → Prop} {h : Heap} (hm : wellspringref15_Sum_m b_0 R h) : Meets Tryz.prog 165 #[(.slice b_0.ptr b_0.len b_0.cap)] h R := fn_tie C_ok Tryz.func165 (.two .n (.two .n (.two (.two .n (.inn (.loop [(3, (.sc (.int .u32))), (8, (.sc (.int .i64)))] [(3, 6), (8, 31)] (.two .n (.two .n (.two (.inn (.two .n (.two .n (.two .n (.inn (.loop [(3, (.sc (.int .u32))), (5, (.sc (.int .i64)))] [(3, 4), (5, 6), (18, 30)] .n)))))) .n)))))) .n))) hm
abbrev wellspringref21_Power_Step_id : FuncId := 166
noncomputable def wellspringref21_Power_Step_m (p_0 : Option Addr) (R : Value → Heap → Prop) (h : Heap) : Prop :=
  ∃ a1 : Addr, (p_0 = some a1) ∧
  ∃ x2 : Bool, cellOf h a1 = some (.bool x2) ∧
  Br x2
  (R (.bool false) h)
  (JoinM (σ := Unit) (fun _ h4 =>
  ∃ a13 : Addr, (p_0 = some a13) ∧
  ∃ x14 : Bool, cellOf h4 (a13.add 1) = some (.bool x14) ∧
  Br x14
  (∃ a15 : Addr, (p_0 = some a15) ∧
  ∃ x16 : Int, cellOf h4 (a15.add 2) = some (.int .i64 x16) ∧
  ∃ a17 : Addr, (p_0 = some a17) ∧
  Runs Tryz.prog (Instr.storeAt 3 (.pointer (some (a17.add 2))) (.int .i64 (IntKind.wrap .i64 (x16 - (1 : Int))))) h4 fun _ h5 =>
  R (.bool true) h5)
  (R (.bool true) h4))
  (fun K1 =>
  JoinM (σ := Bool) (fun s7 h1 =>
  Br s7
  (∃ a8 : Addr, (p_0 = some a8) ∧
  Runs Tryz.prog (Instr.storeAt 4 (.pointer (some a8)) (.bool true)) h1 fun _ h2 =>
  ∃ a9 : Addr, (p_0 = some a9) ∧
  ∃ x10 : Int, cellOf h2 (a9.add 3) = some (.int .i64 x10) ∧
  ∃ a11 : Addr, (p_0 = some a11) ∧
  Runs Tryz.prog (Instr.storeAt 3 (.pointer (some (a11.add 3))) (.int .i64 (IntKind.wrap .i64 (x10 + (1 : Int))))) h2 fun _ h3 =>
  R (.bool false) h3)
  (K1 () h1))
  (fun K2 =>
  ∃ a3 : Addr, (p_0 = some a3) ∧
  ∃ x4 : Bool, cellOf h (a3.add 1) = some (.bool x4) ∧
  Br x4 (∃ a5 : Addr, (p_0 = some a5) ∧
  ∃ x6 : Int, cellOf h (a5.add 2) = some (.int .i64 x6) ∧
  K2 (x6 == (0 : Int)) h) (K2 false h))))
theorem wellspringref21_Power_Step_run (p_0 : Option Addr) {R : Value → Heap → Prop} {h : Heap} (hm : wellspringref21_Power_Step_m p_0 R h) : Meets Tryz.prog 166 #[(.pointer p_0)] h R := fn_tie C_ok Tryz.func166 (.two .n (.two .n (.two (.join [] [(2, 3), (7, 28)] (.two (.join [(17, (.sc .bool))] [(7, 18)] .n) .n)) .n))) hm
abbrev wellspringref15_Name_id : FuncId := 177
noncomputable def wellspringref15_Name_m (s_0 : ByteArray) (R : Value → Heap → Prop) (h : Heap) : Prop :=
  LoopM (σ := Int) (fun s1 K1 h1 =>
  Br (decide (s1 < ((s_0.size : Nat) : Int)))
  (∃ c2 : UInt8, (0 ≤ s1 ∧ s_0.data[s1.toNat]? = some c2) ∧
  Br (decide ((c2.toNat : Nat) ≥ (97 : Int))) (Br (decide ((c2.toNat : Nat) ≤ (122 : Int))) (K1 (IntKind.wrap .i64 (s1 + (1 : Int))) h1) (Br (decide ((c2.toNat : Nat) ≥ (48 : Int))) (Br (decide ((c2.toNat : Nat) ≤ (57 : Int))) (K1 (IntKind.wrap .i64 (s1 + (1 : Int))) h1) (Br (!((c2.toNat : Nat) == (45 : Int)))
  (R (.bool false) h1)
  (K1 (IntKind.wrap .i64 (s1 + (1 : Int))) h1))) (Br (!((c2.toNat : Nat) == (45 : Int)))
  (R (.bool false) h1)
  (K1 (IntKind.wrap .i64 (s1 + (1 : Int))) h1)))) (Br (decide ((c2.toNat : Nat) ≥ (48 : Int))) (Br (decide ((c2.toNat : Nat) ≤ (57 : Int))) (K1 (IntKind.wrap .i64 (s1 + (1 : Int))) h1) (Br (!((c2.toNat : Nat) == (45 : Int)))
  (R (.bool false) h1)
  (K1 (IntKind.wrap .i64 (s1 + (1 : Int))) h1))) (Br (!((c2.toNat : Nat) == (45 : Int)))
  (R (.bool false) h1)
  (K1 (IntKind.wrap .i64 (s1 + (1 : Int))) h1))))
  (Br (decide (((s_0.size : Nat) : Int) ≥ (1 : Int))) (R (.bool (decide (((s_0.size : Nat) : Int) ≤ (12 : Int)))) h1) (R (.bool false) h1))) (0 : Int) h
theorem wellspringref15_Name_run (s_0 : ByteArray) {R : Value → Heap → Prop} {h : Heap} (hm : wellspringref15_Name_m s_0 R h) : Meets Tryz.prog 177 #[(.string s_0)] h R := fn_tie C_ok Tryz.func177 (.two .n (.two (.two .n (.inn (.loop [(3, (.sc (.int .i64)))] [(2, 33)] .n))) .n)) hm
abbrev wellspringref15_Count_id : FuncId := 178
noncomputable def wellspringref15_Count_m (p_0 : Int × Int × Int) (n_1 : Int) (R : Value → Heap → Prop) (h : Heap) : Prop :=
  RunsA Tryz.prog (Instr.box 37 (.agg #[(.int .i64 p_0.1), (.int .i64 p_0.2.1), (.int .i64 p_0.2.2)])) h fun a1 h1 =>
  JoinM (σ := Unit) (fun _ h3 =>
  ∃ x5 : Int, cellOf h3 a1 = some (.int .i64 x5) ∧
  ∃ x6 : Int, cellOf h3 (a1.add 2) = some (.int .i64 x6) ∧
  ((IntKind.wrap .i64 (x5 * x6)) ≠ 0) ∧
  JoinM (σ := Int) (fun s9 h4 =>
  R (.int .i64 s9) h4)
  (fun K2 =>
  ∃ x7 : Int, cellOf h3 a1 = some (.int .i64 x7) ∧
  ∃ x8 : Int, cellOf h3 (a1.add 2) = some (.int .i64 x8) ∧
  ((IntKind.wrap .i64 (x7 * x8)) ≠ 0) ∧
  Br (decide ((Int.tmod n_1 (IntKind.wrap .i64 (x7 * x8))) > (0 : Int)))
  (K2 (IntKind.wrap .i64 ((IntKind.wrap .i64 (Int.tdiv n_1 (IntKind.wrap .i64 (x5 * x6)))) + (1 : Int))) h3)
  (K2 (IntKind.wrap .i64 (Int.tdiv n_1 (IntKind.wrap .i64 (x5 * x6)))) h3)))
  (fun K1 =>
  ∃ x2 : Int × Int × Int, cellsAt h1 a1 0 [(.int .i64 x2.1), (.int .i64 x2.2.1), (.int .i64 x2.2.2)] ∧
  CallM Tryz.prog 101 #[(.agg #[(.int .i64 x2.1), (.int .i64 x2.2.1), (.int .i64 x2.2.2)])] (.one (.sc .bool)) h1 fun r3 h2 =>
  Br (!r3) (R (.int .i64 (0 : Int)) h2) (Br (decide (n_1 < (0 : Int)))
  (R (.int .i64 (0 : Int)) h2)
  (K1 () h2)))
theorem wellspringref15_Count_run (p_0 : Int × Int × Int) (n_1 : Int) {R : Value → Heap → Prop} {h : Heap} (hm : wellspringref15_Count_m p_0 n_1 R h) : Meets Tryz.prog 178 #[(.agg #[(.int .i64 p_0.1), (.int .i64 p_0.2.1), (.int .i64 p_0.2.2)]), (.int .i64 n_1)] h R := fn_tie C_ok Tryz.func178 (.two .n (.two (.join [] [(4, 5), (6, 13)] .n) (.two .n (.two (.join [(5, (.sc (.int .i64)))] [(5, 6), (20, 30)] .n) .n)))) hm
end Go.Proofs.YtmaknfkhibljfaaGreat
