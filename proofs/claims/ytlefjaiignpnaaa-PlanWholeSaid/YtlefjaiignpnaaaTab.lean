/- Part of the proofs that wellspringlaw13's laws answer true whatever the input reads, and leave it as it was; no condition. -/
import Derived.Test.YtlefjaiignpnaaaHpA
import Derived.Test.YtlefjaiignpnaaaProg
namespace Go.Proofs.Ytlefjaiignpnaaa
open Go Go.Vc Go.Proofs
set_option maxRecDepth 1000000

abbrev T_func : Nat := 1
abbrev T_int64 : Nat := 2
abbrev T_int : Nat := 3
abbrev T_bool : Nat := 4
abbrev T_uint8 : Nat := 5
abbrev T_abi_BoundsErrorCode : Nat := 6
abbrev T_runtime_boundsError : Nat := 8
abbrev T_string : Nat := 9
abbrev T_runtime_errorString : Nat := 10
abbrev T_runtime_plainError : Nat := 11
abbrev T_uintptr : Nat := 12
abbrev T_struct_msg_string_addr_uintptr : Nat := 13
abbrev T_runtime_errorAddressString : Nat := 14
abbrev T_ptr_runtime_TypeAssertionError : Nat := 15
abbrev T_ptr_runtime_PanicNilError : Nat := 16
abbrev T_ptr_abi_Type : Nat := 17
abbrev T_struct_typ_ptr_abi_Type : Nat := 18
abbrev T_maps_unhashableTypeError : Nat := 19
abbrev T_interface : Nat := 20
abbrev T_int32 : Nat := 21
abbrev T_sl_sl_int : Nat := 22
abbrev T_sl_int : Nat := 23
abbrev T_func_bool : Nat := 24
abbrev T_func_int_int_int : Nat := 25
abbrev T_func_sl_int_int_int_sl_sl_int : Nat := 26
abbrev T_sl_sl_sl_int : Nat := 27
abbrev T_func_sl_int_int_sl_int : Nat := 28
abbrev T_sl_api_Step : Nat := 29
abbrev T_api_Plan : Nat := 31
abbrev T_api_Plan_bool : Nat := 32
abbrev T_func_int_sl_sl_int_api_Plan_bool : Nat := 33
abbrev T_func_api_Plan_api_Plan_bool : Nat := 34
abbrev T_func_sl_sl_int_sl_sl_int_bool : Nat := 35
abbrev T_func_int_sl_sl_int_sl_int_bool : Nat := 36
abbrev T_func_sl_int_bool : Nat := 37
abbrev T_map_int_bool : Nat := 38
abbrev T_struct_Row_int_Col_int : Nat := 39
abbrev T_api_Step : Nat := 40
abbrev T_func_sl_int_int_bool : Nat := 41
abbrev T_func_int_sl_int_bool : Nat := 42
abbrev T_func_int_int_int_bool : Nat := 43
abbrev T_func_sl_int_sl_int_bool : Nat := 44
abbrev T_func_int_int_bool : Nat := 45
abbrev T_uint : Nat := 46
abbrev T_func_int_sl_sl_int_bool : Nat := 47
abbrev T_ptr_inact_planner : Nat := 48
abbrev T_sl_bool : Nat := 49
abbrev T_inact_planner : Nat := 51
abbrev T_func_sl_bool_bool_bool : Nat := 52
abbrev T_api_Step_bool : Nat := 53
abbrev T_func_api_Step_bool : Nat := 54
abbrev T_func_int : Nat := 55
abbrev T_func_sl_int_sl_bool_sl_int : Nat := 56
abbrev T_func_sl_api_Step_sl_api_Step_bool : Nat := 57
abbrev T_func_sl_bool_bool_int : Nat := 58
abbrev T_int_bool : Nat := 59
abbrev T_func_string : Nat := 61
abbrev T_runtime_TypeAssertionError : Nat := 63
abbrev T_0_ptr_runtime_PanicNilError : Nat := 64
abbrev T_struct_0_ptr_runtime_PanicNilError : Nat := 65
abbrev T_runtime_PanicNilError : Nat := 66
abbrev T_uint32 : Nat := 67
abbrev T_abi_TFlag : Nat := 68
abbrev T_abi_Kind : Nat := 69
abbrev T_ptr_uint8 : Nat := 71
abbrev T_abi_NameOff : Nat := 72
abbrev T_abi_TypeOff : Nat := 73
abbrev T_abi_Type : Nat := 75
abbrev T_unsafe_Pointer : Nat := 76
noncomputable def tbl : Tbl := [
  ⟨.other, (.sc .any), 1, 0, [(Go.Value.tuple #[])]⟩,
  ⟨.fn, (.sc .fn), 1, 8, [Go.Value.nilFunc]⟩,
  ⟨.int .i64, (.sc (.int .i64)), 1, 8, [(Go.Value.int Go.IntKind.i64 0)]⟩,
  ⟨.int .i64, (.sc (.int .i64)), 1, 8, [(Go.Value.int Go.IntKind.i64 0)]⟩,
  ⟨.bool, (.sc .bool), 1, 1, [(Go.Value.bool Bool.false)]⟩,
  ⟨.int .u8, (.sc (.int .u8)), 1, 1, [(Go.Value.int Go.IntKind.u8 0)]⟩,
  ⟨.int .u8, (.sc (.int .u8)), 1, 1, [(Go.Value.int Go.IntKind.u8 0)]⟩,
  ⟨.struct [(0, 2), (1, 3), (2, 4), (3, 6)], (.agg [(.int .i64), (.int .i64), .bool, (.int .u8)]), 4, 24, [(Go.Value.int Go.IntKind.i64 0), (Go.Value.int Go.IntKind.i64 0), (Go.Value.bool Bool.false), (Go.Value.int Go.IntKind.u8 0)]⟩,
  ⟨.struct [(0, 2), (1, 3), (2, 4), (3, 6)], (.agg [(.int .i64), (.int .i64), .bool, (.int .u8)]), 4, 24, [(Go.Value.int Go.IntKind.i64 0), (Go.Value.int Go.IntKind.i64 0), (Go.Value.bool Bool.false), (Go.Value.int Go.IntKind.u8 0)]⟩,
  ⟨.str, (.sc .str), 1, 16, [(Go.Value.string (ByteArray.mk #[]))]⟩,
  ⟨.str, (.sc .str), 1, 16, [(Go.Value.string (ByteArray.mk #[]))]⟩,
  ⟨.str, (.sc .str), 1, 16, [(Go.Value.string (ByteArray.mk #[]))]⟩,
  ⟨.int .u64, (.sc (.int .u64)), 1, 8, [(Go.Value.int Go.IntKind.u64 0)]⟩,
  ⟨.struct [(0, 9), (1, 12)], (.agg [.str, (.int .u64)]), 2, 24, [(Go.Value.string (ByteArray.mk #[])), (Go.Value.int Go.IntKind.u64 0)]⟩,
  ⟨.struct [(0, 9), (1, 12)], (.agg [.str, (.int .u64)]), 2, 24, [(Go.Value.string (ByteArray.mk #[])), (Go.Value.int Go.IntKind.u64 0)]⟩,
  ⟨.ptr 63, (.sc .ptr), 1, 8, [(Go.Value.pointer Option.none)]⟩,
  ⟨.ptr 66, (.sc .ptr), 1, 8, [(Go.Value.pointer Option.none)]⟩,
  ⟨.ptr 75, (.sc .ptr), 1, 8, [(Go.Value.pointer Option.none)]⟩,
  ⟨.struct [(0, 17)], (.agg [.ptr]), 1, 8, [(Go.Value.pointer Option.none)]⟩,
  ⟨.struct [(0, 17)], (.agg [.ptr]), 1, 8, [(Go.Value.pointer Option.none)]⟩,
  ⟨.other, (.sc .any), 1, 16, [Go.Value.nilIface]⟩,
  ⟨.int .i32, (.sc (.int .i32)), 1, 4, [(Go.Value.int Go.IntKind.i32 0)]⟩,
  ⟨.slice 23, (.sc .slc), 1, 24, [(Go.Value.slice Option.none 0 0)]⟩,
  ⟨.slice 3, (.sc .slc), 1, 24, [(Go.Value.slice Option.none 0 0)]⟩,
  ⟨.fn, (.sc .fn), 1, 8, [Go.Value.nilFunc]⟩,
  ⟨.fn, (.sc .fn), 1, 8, [Go.Value.nilFunc]⟩,
  ⟨.fn, (.sc .fn), 1, 8, [Go.Value.nilFunc]⟩,
  ⟨.slice 22, (.sc .slc), 1, 24, [(Go.Value.slice Option.none 0 0)]⟩,
  ⟨.fn, (.sc .fn), 1, 8, [Go.Value.nilFunc]⟩,
  ⟨.slice 40, (.sc .slc), 1, 24, [(Go.Value.slice Option.none 0 0)]⟩,
  ⟨.struct [(0, 29), (1, 23), (2, 23)], (.agg [.slc, .slc, .slc]), 3, 72, [(Go.Value.slice Option.none 0 0), (Go.Value.slice Option.none 0 0), (Go.Value.slice Option.none 0 0)]⟩,
  ⟨.struct [(0, 29), (1, 23), (2, 23)], (.agg [.slc, .slc, .slc]), 3, 72, [(Go.Value.slice Option.none 0 0), (Go.Value.slice Option.none 0 0), (Go.Value.slice Option.none 0 0)]⟩,
  ⟨.other, (.sc .any), 1, 0, [(Go.Value.tuple #[(Go.Value.agg #[(Go.Value.slice Option.none 0 0), (Go.Value.slice Option.none 0 0), (Go.Value.slice Option.none 0 0)]), (Go.Value.bool Bool.false)])]⟩,
  ⟨.fn, (.sc .fn), 1, 8, [Go.Value.nilFunc]⟩,
  ⟨.fn, (.sc .fn), 1, 8, [Go.Value.nilFunc]⟩,
  ⟨.fn, (.sc .fn), 1, 8, [Go.Value.nilFunc]⟩,
  ⟨.fn, (.sc .fn), 1, 8, [Go.Value.nilFunc]⟩,
  ⟨.fn, (.sc .fn), 1, 8, [Go.Value.nilFunc]⟩,
  ⟨.mp, (.sc .mp), 1, 8, [(Go.Value.map Option.none)]⟩,
  ⟨.struct [(0, 3), (1, 3)], (.agg [(.int .i64), (.int .i64)]), 2, 16, [(Go.Value.int Go.IntKind.i64 0), (Go.Value.int Go.IntKind.i64 0)]⟩,
  ⟨.struct [(0, 3), (1, 3)], (.agg [(.int .i64), (.int .i64)]), 2, 16, [(Go.Value.int Go.IntKind.i64 0), (Go.Value.int Go.IntKind.i64 0)]⟩,
  ⟨.fn, (.sc .fn), 1, 8, [Go.Value.nilFunc]⟩,
  ⟨.fn, (.sc .fn), 1, 8, [Go.Value.nilFunc]⟩,
  ⟨.fn, (.sc .fn), 1, 8, [Go.Value.nilFunc]⟩,
  ⟨.fn, (.sc .fn), 1, 8, [Go.Value.nilFunc]⟩,
  ⟨.fn, (.sc .fn), 1, 8, [Go.Value.nilFunc]⟩,
  ⟨.int .u64, (.sc (.int .u64)), 1, 8, [(Go.Value.int Go.IntKind.u64 0)]⟩,
  ⟨.fn, (.sc .fn), 1, 8, [Go.Value.nilFunc]⟩,
  ⟨.ptr 51, (.sc .ptr), 1, 8, [(Go.Value.pointer Option.none)]⟩,
  ⟨.slice 4, (.sc .slc), 1, 24, [(Go.Value.slice Option.none 0 0)]⟩,
  ⟨.struct [(0, 22), (1, 49), (2, 49)], (.agg [.slc, .slc, .slc]), 3, 72, [(Go.Value.slice Option.none 0 0), (Go.Value.slice Option.none 0 0), (Go.Value.slice Option.none 0 0)]⟩,
  ⟨.struct [(0, 22), (1, 49), (2, 49)], (.agg [.slc, .slc, .slc]), 3, 72, [(Go.Value.slice Option.none 0 0), (Go.Value.slice Option.none 0 0), (Go.Value.slice Option.none 0 0)]⟩,
  ⟨.fn, (.sc .fn), 1, 8, [Go.Value.nilFunc]⟩,
  ⟨.other, (.sc .any), 1, 0, [(Go.Value.tuple #[(Go.Value.agg #[(Go.Value.int Go.IntKind.i64 0), (Go.Value.int Go.IntKind.i64 0)]), (Go.Value.bool Bool.false)])]⟩,
  ⟨.fn, (.sc .fn), 1, 8, [Go.Value.nilFunc]⟩,
  ⟨.fn, (.sc .fn), 1, 8, [Go.Value.nilFunc]⟩,
  ⟨.fn, (.sc .fn), 1, 8, [Go.Value.nilFunc]⟩,
  ⟨.fn, (.sc .fn), 1, 8, [Go.Value.nilFunc]⟩,
  ⟨.fn, (.sc .fn), 1, 8, [Go.Value.nilFunc]⟩,
  ⟨.other, (.sc .any), 1, 0, [(Go.Value.tuple #[(Go.Value.int Go.IntKind.i64 0), (Go.Value.bool Bool.false)])]⟩,
  ⟨.fn, (.sc .fn), 1, 8, [Go.Value.nilFunc]⟩,
  ⟨.fn, (.sc .fn), 1, 8, [Go.Value.nilFunc]⟩,
  ⟨.struct [(0, 17), (1, 17), (2, 17), (3, 9)], (.agg [.ptr, .ptr, .ptr, .str]), 4, 40, [(Go.Value.pointer Option.none), (Go.Value.pointer Option.none), (Go.Value.pointer Option.none), (Go.Value.string (ByteArray.mk #[]))]⟩,
  ⟨.struct [(0, 17), (1, 17), (2, 17), (3, 9)], (.agg [.ptr, .ptr, .ptr, .str]), 4, 40, [(Go.Value.pointer Option.none), (Go.Value.pointer Option.none), (Go.Value.pointer Option.none), (Go.Value.string (ByteArray.mk #[]))]⟩,
  ⟨.array 0 16, (.arr .ptr), 0, 0, []⟩,
  ⟨.struct [(0, 64)], (.agg []), 0, 0, []⟩,
  ⟨.struct [(0, 64)], (.agg []), 0, 0, []⟩,
  ⟨.int .u32, (.sc (.int .u32)), 1, 4, [(Go.Value.int Go.IntKind.u32 0)]⟩,
  ⟨.int .u8, (.sc (.int .u8)), 1, 1, [(Go.Value.int Go.IntKind.u8 0)]⟩,
  ⟨.int .u8, (.sc (.int .u8)), 1, 1, [(Go.Value.int Go.IntKind.u8 0)]⟩,
  ⟨.fn, (.sc .fn), 1, 8, [Go.Value.nilFunc]⟩,
  ⟨.ptr 5, (.sc .ptr), 1, 8, [(Go.Value.pointer Option.none)]⟩,
  ⟨.int .i32, (.sc (.int .i32)), 1, 4, [(Go.Value.int Go.IntKind.i32 0)]⟩,
  ⟨.int .i32, (.sc (.int .i32)), 1, 4, [(Go.Value.int Go.IntKind.i32 0)]⟩,
  ⟨.struct [(0, 12), (1, 12), (2, 67), (3, 68), (4, 5), (5, 5), (6, 69), (7, 70), (8, 71), (9, 72), (10, 73)], (.agg [(.int .u64), (.int .u64), (.int .u32), (.int .u8), (.int .u8), (.int .u8), (.int .u8), .fn, .ptr, (.int .i32), (.int .i32)]), 11, 48, [(Go.Value.int Go.IntKind.u64 0), (Go.Value.int Go.IntKind.u64 0), (Go.Value.int Go.IntKind.u32 0), (Go.Value.int Go.IntKind.u8 0), (Go.Value.int Go.IntKind.u8 0), (Go.Value.int Go.IntKind.u8 0), (Go.Value.int Go.IntKind.u8 0), Go.Value.nilFunc, (Go.Value.pointer Option.none), (Go.Value.int Go.IntKind.i32 0), (Go.Value.int Go.IntKind.i32 0)]⟩,
  ⟨.struct [(0, 12), (1, 12), (2, 67), (3, 68), (4, 5), (5, 5), (6, 69), (7, 70), (8, 71), (9, 72), (10, 73)], (.agg [(.int .u64), (.int .u64), (.int .u32), (.int .u8), (.int .u8), (.int .u8), (.int .u8), .fn, .ptr, (.int .i32), (.int .i32)]), 11, 48, [(Go.Value.int Go.IntKind.u64 0), (Go.Value.int Go.IntKind.u64 0), (Go.Value.int Go.IntKind.u32 0), (Go.Value.int Go.IntKind.u8 0), (Go.Value.int Go.IntKind.u8 0), (Go.Value.int Go.IntKind.u8 0), (Go.Value.int Go.IntKind.u8 0), Go.Value.nilFunc, (Go.Value.pointer Option.none), (Go.Value.int Go.IntKind.i32 0), (Go.Value.int Go.IntKind.i32 0)]⟩,
  ⟨.other, (.sc .any), 1, 8, [(Go.Value.pointer Option.none)]⟩]
noncomputable def C : Ctx := { P := Try.prog, T := tbl, tup := [(0, []), (32, [(.agg [.slc, .slc, .slc]), (.sc .bool)]), (53, [(.agg [(.int .i64), (.int .i64)]), (.sc .bool)]), (59, [(.sc (.int .i64)), (.sc .bool)])], fns := [false, false, true, true, true, true, true, true, true, true, true, true, true, true, true, true, true, true, true, true, true, true, true, true, true, true, true, false, false, false, false, false, false, false, false, false, false, false, false, false, false, false, false] }
theorem C_tbl : (List.range C.T.length).map (Tbl.seen C.P) = C.T.map Tbl.told := by kernel_rfl
theorem C_mixed : C.P.follows .mixedOrders = true := by kernel_rfl
theorem C_fns : (C.P.funcs.toList.map fun f => !(f.name == "runtime.NumGoroutine") && f.body.isSome) = C.fns := by kernel_rfl
theorem C_ok : C.Ok := { tbl := C_tbl, mixed := C_mixed, fns := C_fns }
/-- wellspring/wellspringlaw13.PlanTells -/
abbrev wellspringlaw13_PlanTells_id : FuncId := 3
noncomputable def wellspringlaw13_PlanTells_m (n_0 : Int) (l_1 : Sl) (m_2 : Sl) (R : Value → Heap → Prop) (h : Heap) : Prop :=
  Br (decide (((l_1.len : Nat) : Int) > (24 : Int)))
  (CallM Try.prog 7 #[] (.one (.sc .bool)) h fun r1 h1 =>
  R (.bool r1) h1)
  (LoopM (σ := Int) (fun s2 K1 h2 =>
  Br (decide (s2 < ((l_1.len : Nat) : Int)))
  (∃ a3 : Addr, (l_1.ptr = some a3 ∧ 0 ≤ s2 ∧ s2 < ((l_1.len : Nat) : Int)) ∧
  ∃ x4 : Sl, cellOf h2 (a3.add (s2.toNat * 1)) = some (.slice x4.ptr x4.len x4.cap) ∧
  Br (decide (((x4.len : Nat) : Int) > (24 : Int)))
  (CallM Try.prog 7 #[] (.one (.sc .bool)) h2 fun r5 h3 =>
  R (.bool r5) h3)
  (K1 (IntKind.wrap .i64 (s2 + (1 : Int))) h2))
  (CallM Try.prog 8 #[(.int .i64 n_0), (.int .i64 (20 : Int))] (.one (.sc (.int .i64))) h2 fun r6 h4 =>
  CallM Try.prog 9 #[(.slice m_2.ptr m_2.len m_2.cap), (.int .i64 r6), (.int .i64 (24 : Int))] (.one (.sc .slc)) h4 fun r7 h5 =>
  CallM Try.prog 9 #[(.slice m_2.ptr m_2.len m_2.cap), (.int .i64 r6), (.int .i64 (12 : Int))] (.one (.sc .slc)) h5 fun r8 h6 =>
  RunsR Try.prog (Builtin.append_ #[22, 22] 22 #[(.slice r8.ptr r8.len r8.cap), (.slice l_1.ptr l_1.len l_1.cap)]) (.one (.sc .slc)) h6 fun v9 h7 =>
  RunsR Try.prog (Instr.buildSlice 27 3 #[(0, (.slice l_1.ptr l_1.len l_1.cap)), (1, (.slice r7.ptr r7.len r7.cap)), (2, (.slice v9.ptr v9.len v9.cap))]) (.one (.sc .slc)) h7 fun v10 h8 =>
  LoopM (σ := Int) (fun s11 K2 h9 =>
  Br (decide (s11 < ((v10.len : Nat) : Int)))
  (∃ a12 : Addr, (v10.ptr = some a12 ∧ 0 ≤ s11 ∧ s11 < ((v10.len : Nat) : Int)) ∧
  ∃ x13 : Sl, cellOf h9 (a12.add (s11.toNat * 1)) = some (.slice x13.ptr x13.len x13.cap) ∧
  JoinM (σ := Int) (fun s14 h10 =>
  LoopM (σ := Sl × Int) (fun s15 K4 h11 =>
  Br (decide (s15.2 < ((x13.len : Nat) : Int)))
  (∃ a16 : Addr, (x13.ptr = some a16 ∧ 0 ≤ s15.2 ∧ s15.2 < ((x13.len : Nat) : Int)) ∧
  ∃ x17 : Sl, cellOf h11 (a16.add (s15.2.toNat * 1)) = some (.slice x17.ptr x17.len x17.cap) ∧
  CallM Try.prog 10 #[(.slice x17.ptr x17.len x17.cap), (.int .i64 (71 : Int))] (.one (.sc .slc)) h11 fun r18 h12 =>
  RunsR Try.prog (Instr.buildSlice 22 1 #[(0, (.slice r18.ptr r18.len r18.cap))]) (.one (.sc .slc)) h12 fun v19 h13 =>
  RunsR Try.prog (Builtin.append_ #[22, 22] 22 #[(.slice s15.1.ptr s15.1.len s15.1.cap), (.slice v19.ptr v19.len v19.cap)]) (.one (.sc .slc)) h13 fun v20 h14 =>
  K4 ((⟨v20.ptr, v20.len, v20.cap⟩ : Sl), IntKind.wrap .i64 (s15.2 + (1 : Int))) h14)
  (CallM Try.prog 11 #[(.int .i64 s14), (.slice s15.1.ptr s15.1.len s15.1.cap)] (.many [(.agg [.slc, .slc, .slc]), (.sc .bool)]) h11 fun r21 h15 =>
  RunsA Try.prog (Instr.alloc 31 true (.tuple #[])) h15 fun a22 h16 =>
  Runs Try.prog (Instr.storeAt 31 (.pointer (some a22)) (.agg #[(.slice r21.1.1.ptr r21.1.1.len r21.1.1.cap), (.slice r21.1.2.1.ptr r21.1.2.1.len r21.1.2.1.cap), (.slice r21.1.2.2.ptr r21.1.2.2.len r21.1.2.2.cap)])) h16 fun _ h17 =>
  CallM Try.prog 12 #[(.int .i64 s14), (.slice x13.ptr x13.len x13.cap)] (.many [(.agg [.slc, .slc, .slc]), (.sc .bool)]) h17 fun r23 h18 =>
  RunsA Try.prog (Instr.alloc 31 true (.tuple #[])) h18 fun a24 h19 =>
  Runs Try.prog (Instr.storeAt 31 (.pointer (some a24)) (.agg #[(.slice r23.1.1.ptr r23.1.1.len r23.1.1.cap), (.slice r23.1.2.1.ptr r23.1.2.1.len r23.1.2.1.cap), (.slice r23.1.2.2.ptr r23.1.2.2.len r23.1.2.2.cap)])) h19 fun _ h20 =>
  Br (!(r21.2 == r23.2)) (R (.bool false) h20) (∃ x25 : Sl × Sl × Sl, cellsAt h20 a22 0 [(.slice x25.1.ptr x25.1.len x25.1.cap), (.slice x25.2.1.ptr x25.2.1.len x25.2.1.cap), (.slice x25.2.2.ptr x25.2.2.len x25.2.2.cap)] ∧
  ∃ x26 : Sl × Sl × Sl, cellsAt h20 a24 0 [(.slice x26.1.ptr x26.1.len x26.1.cap), (.slice x26.2.1.ptr x26.2.1.len x26.2.1.cap), (.slice x26.2.2.ptr x26.2.2.len x26.2.2.cap)] ∧
  CallM Try.prog 13 #[(.agg #[(.slice x25.1.ptr x25.1.len x25.1.cap), (.slice x25.2.1.ptr x25.2.1.len x25.2.1.cap), (.slice x25.2.2.ptr x25.2.2.len x25.2.2.cap)]), (.agg #[(.slice x26.1.ptr x26.1.len x26.1.cap), (.slice x26.2.1.ptr x26.2.1.len x26.2.1.cap), (.slice x26.2.2.ptr x26.2.2.len x26.2.2.cap)])] (.one (.sc .bool)) h20 fun r27 h21 =>
  Br (!r27) (R (.bool false) h21) (CallM Try.prog 14 #[(.slice s15.1.ptr s15.1.len s15.1.cap), (.slice x13.ptr x13.len x13.cap)] (.one (.sc .bool)) h21 fun r28 h22 =>
  Br (!r28)
  (R (.bool false) h22)
  (K2 (IntKind.wrap .i64 (s11 + (1 : Int))) h22))))) ((⟨none, 0, 0⟩ : Sl), (0 : Int)) h10)
  (fun K3 =>
  Br (s11 == (0 : Int))
  (K3 n_0 h9)
  (K3 r6 h9)))
  (CallM Try.prog 7 #[] (.one (.sc .bool)) h9 fun r29 h23 =>
  R (.bool r29) h23)) (0 : Int) h8)) (0 : Int) h)
noncomputable def wellspringlaw13_PlanTells_ann : Ann := (.two .n (.two .n (.two (.two .n (.inn (.loop [(24, (.sc (.int .i64)))] [(6, 8), (24, 35)] .n))) (.two .n (.two (.two .n (.inn (.loop [(48, (.sc (.int .i64)))] [(6, 7), (9, 18), (48, 99)] (.two .n (.two .n (.two (.inn (.two .n (.two .n (.two (.join [(11, (.sc (.int .i64)))] [(11, 12), (54, 57)] .n) (.two .n (.two (.two .n (.inn (.loop [(12, (.sc .slc)), (59, (.sc (.int .i64)))] [(12, 14), (59, 71)] .n))) .n)))))) .n)))))) .n)))))
theorem wellspringlaw13_PlanTells_eq (n_0 : Int) (l_1 : Sl) (m_2 : Sl) (R : Value → Heap → Prop) (h : Heap) : fnV C Try.f3 300 wellspringlaw13_PlanTells_ann [(.int .i64 n_0), (.slice l_1.ptr l_1.len l_1.cap), (.slice m_2.ptr m_2.len m_2.cap)] R h = wellspringlaw13_PlanTells_m n_0 l_1 m_2 R h := by kernel_rfl
theorem wellspringlaw13_PlanTells_run (n_0 : Int) (l_1 : Sl) (m_2 : Sl) {R : Value → Heap → Prop} {h : Heap} (hm : wellspringlaw13_PlanTells_m n_0 l_1 m_2 R h) : Spec Try.prog 3 #[(.int .i64 n_0), (.slice l_1.ptr l_1.len l_1.cap), (.slice m_2.ptr m_2.len m_2.cap)] h R :=
  fn_spec C_ok (f := 3) (fn := Try.f3) (args := [(.int .i64 n_0), (.slice l_1.ptr l_1.len l_1.cap), (.slice m_2.ptr m_2.len m_2.cap)]) Try.func3 (by rw [Try.ntmps3]; exact Nat.le_of_ble_eq_true rfl) (cast (wellspringlaw13_PlanTells_eq n_0 l_1 m_2 R h).symm hm)
/-- wellspring/wellspringlaw13.PlanWhole -/
abbrev wellspringlaw13_PlanWhole_id : FuncId := 4
noncomputable def wellspringlaw13_PlanWhole_m (n_0 : Int) (l_1 : Sl) (R : Value → Heap → Prop) (h : Heap) : Prop :=
  CallM Try.prog 8 #[(.int .i64 n_0), (.int .i64 (24 : Int))] (.one (.sc (.int .i64))) h fun r1 h1 =>
  CallM Try.prog 9 #[(.slice l_1.ptr l_1.len l_1.cap), (.int .i64 r1), (.int .i64 (30 : Int))] (.one (.sc .slc)) h1 fun r2 h2 =>
  CallM Try.prog 11 #[(.int .i64 r1), (.slice r2.ptr r2.len r2.cap)] (.many [(.agg [.slc, .slc, .slc]), (.sc .bool)]) h2 fun r3 h3 =>
  RunsA Try.prog (Instr.alloc 31 true (.tuple #[])) h3 fun a4 h4 =>
  Runs Try.prog (Instr.storeAt 31 (.pointer (some a4)) (.agg #[(.slice r3.1.1.ptr r3.1.1.len r3.1.1.cap), (.slice r3.1.2.1.ptr r3.1.2.1.len r3.1.2.1.cap), (.slice r3.1.2.2.ptr r3.1.2.2.len r3.1.2.2.cap)])) h4 fun _ h5 =>
  JoinM (σ := Unit) (fun s11 h7 =>
  RunsR Try.prog (Instr.makeMap 38 none) (.one (.sc .mp)) h7 fun v12 h8 =>
  RunsR Try.prog (Instr.makeMap 38 none) (.one (.sc .mp)) h8 fun v13 h9 =>
  ∃ x14 : Sl, cellOf h9 (a4.add 1) = some (.slice x14.ptr x14.len x14.cap) ∧
  LoopM (σ := Int) (fun s15 K2 h10 =>
  Br (decide (s15 < ((x14.len : Nat) : Int)))
  (∃ a16 : Addr, (x14.ptr = some a16 ∧ 0 ≤ s15 ∧ s15 < ((x14.len : Nat) : Int)) ∧
  ∃ x17 : Int, cellOf h10 (a16.add (s15.toNat * 1)) = some (.int .i64 x17) ∧
  Br (decide (x17 < (0 : Int))) (R (.bool false) h10) (Br (decide (x17 ≥ r1)) (R (.bool false) h10) (RunsR Try.prog (Instr.lookup 38 (.map v12) (.int .i64 x17) false) (.one (.sc .bool)) h10 fun v18 h11 =>
  Br v18
  (R (.bool false) h11)
  (Runs Try.prog (Instr.mapUpdate 38 (.map v12) (.int .i64 x17) (.bool true)) h11 fun _ h12 =>
  K2 (IntKind.wrap .i64 (s15 + (1 : Int))) h12))))
  (∃ x19 : Sl, cellOf h10 (a4.add 2) = some (.slice x19.ptr x19.len x19.cap) ∧
  LoopM (σ := Int) (fun s20 K3 h13 =>
  Br (decide (s20 < ((x19.len : Nat) : Int)))
  (∃ a21 : Addr, (x19.ptr = some a21 ∧ 0 ≤ s20 ∧ s20 < ((x19.len : Nat) : Int)) ∧
  ∃ x22 : Int, cellOf h13 (a21.add (s20.toNat * 1)) = some (.int .i64 x22) ∧
  Br (decide (x22 < (0 : Int))) (R (.bool false) h13) (Br (decide (x22 ≥ ((r2.len : Nat) : Int)))
  (R (.bool false) h13)
  (Runs Try.prog (Instr.mapUpdate 38 (.map v13) (.int .i64 x22) (.bool true)) h13 fun _ h14 =>
  K3 (IntKind.wrap .i64 (s20 + (1 : Int))) h14)))
  (∃ x23 : Sl, cellOf h13 a4 = some (.slice x23.ptr x23.len x23.cap) ∧
  LoopM (σ := Int) (fun s24 K4 h15 =>
  Br (decide (s24 < ((x23.len : Nat) : Int)))
  (∃ a25 : Addr, (x23.ptr = some a25 ∧ 0 ≤ s24 ∧ s24 < ((x23.len : Nat) : Int)) ∧
  ∃ x26 : Int × Int, cellsAt h15 (a25.add (s24.toNat * 2)) 0 [(.int .i64 x26.1), (.int .i64 x26.2)] ∧
  RunsA Try.prog (Instr.alloc 40 true (.tuple #[])) h15 fun a27 h16 =>
  Runs Try.prog (Instr.storeAt 40 (.pointer (some a27)) (.agg #[(.int .i64 x26.1), (.int .i64 x26.2)])) h16 fun _ h17 =>
  JoinM (σ := Unit) (fun s39 h21 =>
  ∃ x40 : Int, cellOf h21 a27 = some (.int .i64 x40) ∧
  ∃ a41 : Addr, (r2.ptr = some a41 ∧ 0 ≤ x40 ∧ x40 < ((r2.len : Nat) : Int)) ∧
  ∃ x42 : Sl, cellOf h21 (a41.add (x40.toNat * 1)) = some (.slice x42.ptr x42.len x42.cap) ∧
  LoopM (σ := Int) (fun s43 K6 h22 =>
  Br (decide (s43 < ((x42.len : Nat) : Int)))
  (∃ a44 : Addr, (x42.ptr = some a44 ∧ 0 ≤ s43 ∧ s43 < ((x42.len : Nat) : Int)) ∧
  ∃ x45 : Int, cellOf h22 (a44.add (s43.toNat * 1)) = some (.int .i64 x45) ∧
  ∃ x46 : Int, cellOf h22 (a27.add 1) = some (.int .i64 x46) ∧
  Br (x45 != x46) (RunsR Try.prog (Instr.lookup 38 (.map v12) (.int .i64 x45) false) (.one (.sc .bool)) h22 fun v47 h23 =>
  Br (!v47)
  (R (.bool false) h23)
  (K6 (IntKind.wrap .i64 (s43 + (1 : Int))) h23)) (K6 (IntKind.wrap .i64 (s43 + (1 : Int))) h22))
  (∃ x48 : Int, cellOf h22 a27 = some (.int .i64 x48) ∧
  ∃ x49 : Int, cellOf h22 (a27.add 1) = some (.int .i64 x49) ∧
  Runs Try.prog (Instr.mapUpdate 38 (.map v13) (.int .i64 x48) (.bool true)) h22 fun _ h24 =>
  (Held.ok [(a27.add 1, (.int .i64 x49)), (a27, (.int .i64 x48))] h24) ∧
  Runs Try.prog (Instr.mapUpdate 38 (.map v12) (.int .i64 x49) (.bool true)) h24 fun _ h25 =>
  (Held.ok [(a27.add 1, (.int .i64 x49)), (a27, (.int .i64 x48))] h25) ∧
  K4 (IntKind.wrap .i64 (s24 + (1 : Int))) h25)) (0 : Int) h21)
  (fun K5 =>
  ∃ x28 : Int, cellOf h17 a27 = some (.int .i64 x28) ∧
  Br (decide (x28 < (0 : Int))) ((Held.ok [(a27, (.int .i64 x28))] h17) ∧
  (Held.ok [(a27, (.int .i64 x28))] h17) ∧
  (Held.ok [(a27, (.int .i64 x28))] h17) ∧
  R (.bool false) h17) (∃ x29 : Int, cellOf h17 a27 = some (.int .i64 x29) ∧
  Br (decide (x29 ≥ ((r2.len : Nat) : Int))) ((Held.ok [(a27, (.int .i64 x29)), (a27, (.int .i64 x28))] h17) ∧
  (Held.ok [(a27, (.int .i64 x29)), (a27, (.int .i64 x28))] h17) ∧
  (Held.ok [(a27, (.int .i64 x29)), (a27, (.int .i64 x28))] h17) ∧
  R (.bool false) h17) (∃ x30 : Int, cellOf h17 a27 = some (.int .i64 x30) ∧
  RunsR Try.prog (Instr.lookup 38 (.map v13) (.int .i64 x30) false) (.one (.sc .bool)) h17 fun v31 h18 =>
  (Held.ok [(a27, (.int .i64 x30)), (a27, (.int .i64 x29)), (a27, (.int .i64 x28))] h18) ∧
  Br v31 ((Held.ok [(a27, (.int .i64 x30)), (a27, (.int .i64 x29)), (a27, (.int .i64 x28))] h18) ∧
  (Held.ok [(a27, (.int .i64 x30)), (a27, (.int .i64 x29)), (a27, (.int .i64 x28))] h18) ∧
  R (.bool false) h18) (∃ x32 : Int, cellOf h18 (a27.add 1) = some (.int .i64 x32) ∧
  RunsR Try.prog (Instr.lookup 38 (.map v12) (.int .i64 x32) false) (.one (.sc .bool)) h18 fun v33 h19 =>
  (Held.ok [(a27.add 1, (.int .i64 x32)), (a27, (.int .i64 x30)), (a27, (.int .i64 x29)), (a27, (.int .i64 x28))] h19) ∧
  Br v33 ((Held.ok [(a27.add 1, (.int .i64 x32)), (a27, (.int .i64 x30)), (a27, (.int .i64 x29)), (a27, (.int .i64 x28))] h19) ∧
  R (.bool false) h19) (∃ x34 : Int, cellOf h19 a27 = some (.int .i64 x34) ∧
  ∃ a35 : Addr, (r2.ptr = some a35 ∧ 0 ≤ x34 ∧ x34 < ((r2.len : Nat) : Int)) ∧
  ∃ x36 : Sl, cellOf h19 (a35.add (x34.toNat * 1)) = some (.slice x36.ptr x36.len x36.cap) ∧
  ∃ x37 : Int, cellOf h19 (a27.add 1) = some (.int .i64 x37) ∧
  CallM Try.prog 16 #[(.slice x36.ptr x36.len x36.cap), (.int .i64 x37)] (.one (.sc .bool)) h19 fun r38 h20 =>
  (Held.ok [(a27.add 1, (.int .i64 x37)), (a35.add (x34.toNat * 1), (.slice x36.ptr x36.len x36.cap)), (a27, (.int .i64 x34)), (a27.add 1, (.int .i64 x32)), (a27, (.int .i64 x30)), (a27, (.int .i64 x29)), (a27, (.int .i64 x28))] h20) ∧
  Br (!r38)
  (R (.bool false) h20)
  (K5 () h20)))))))
  (CallM Try.prog 7 #[] (.one (.sc .bool)) h15 fun r50 h26 =>
  R (.bool r50) h26)) (0 : Int) h13)) (0 : Int) h10)) (0 : Int) h9)
  (fun K1 =>
  Br (!r3.2) (R (.bool false) h5) (∃ x5 : Sl, cellOf h5 a4 = some (.slice x5.ptr x5.len x5.cap) ∧
  ∃ x6 : Sl, cellOf h5 (a4.add 1) = some (.slice x6.ptr x6.len x6.cap) ∧
  Br ((IntKind.wrap .i64 (((x5.len : Nat) : Int) + ((x6.len : Nat) : Int))) != r1) (R (.bool false) h5) (∃ x7 : Sl, cellOf h5 a4 = some (.slice x7.ptr x7.len x7.cap) ∧
  ∃ x8 : Sl, cellOf h5 (a4.add 2) = some (.slice x8.ptr x8.len x8.cap) ∧
  Br ((IntKind.wrap .i64 (((x7.len : Nat) : Int) + ((x8.len : Nat) : Int))) != ((r2.len : Nat) : Int)) (R (.bool false) h5) (∃ x9 : Sl, cellOf h5 (a4.add 2) = some (.slice x9.ptr x9.len x9.cap) ∧
  CallM Try.prog 15 #[(.slice x9.ptr x9.len x9.cap)] (.one (.sc .bool)) h5 fun r10 h6 =>
  Br (!r10)
  (R (.bool false) h6)
  (K1 () h6)))))
noncomputable def wellspringlaw13_PlanWhole_ann : Ann := (.two .n (.two .n (.two .n (.two .n (.two (.join [] [(4, 5), (29, 60)] .n) (.two .n (.two (.two .n (.inn (.loop [(65, (.sc (.int .i64)))] [(4, 5), (11, 12), (65, 84)] .n))) (.two (.two .n (.inn (.loop [(87, (.sc (.int .i64)))] [(4, 5), (13, 14), (87, 102)] .n))) (.two (.two .n (.inn (.loop [(105, (.sc (.int .i64)))] [(4, 5), (15, 16), (17, 18), (105, 170)] (.two .n (.two .n (.two (.inn (.two .n (.two (.join [] [(4, 5), (109, 142)] .n) (.two (.two .n (.inn (.loop [(148, (.sc (.int .i64)))] [(4, 5), (17, 18), (148, 163)] .n))) .n)))) .n)))))) .n)))))))))
theorem wellspringlaw13_PlanWhole_eq (n_0 : Int) (l_1 : Sl) (R : Value → Heap → Prop) (h : Heap) : fnV C Try.f4 300 wellspringlaw13_PlanWhole_ann [(.int .i64 n_0), (.slice l_1.ptr l_1.len l_1.cap)] R h = wellspringlaw13_PlanWhole_m n_0 l_1 R h := by kernel_rfl
theorem wellspringlaw13_PlanWhole_run (n_0 : Int) (l_1 : Sl) {R : Value → Heap → Prop} {h : Heap} (hm : wellspringlaw13_PlanWhole_m n_0 l_1 R h) : Spec Try.prog 4 #[(.int .i64 n_0), (.slice l_1.ptr l_1.len l_1.cap)] h R :=
  fn_spec C_ok (f := 4) (fn := Try.f4) (args := [(.int .i64 n_0), (.slice l_1.ptr l_1.len l_1.cap)]) Try.func4 (by rw [Try.ntmps4]; exact Nat.le_of_ble_eq_true rfl) (cast (wellspringlaw13_PlanWhole_eq n_0 l_1 R h).symm hm)
/-- wellspring/wellspringlaw13.PlanChain -/
abbrev wellspringlaw13_PlanChain_id : FuncId := 5
noncomputable def wellspringlaw13_PlanChain_m (n_0 : Int) (start_1 : Int) (turn_2 : Int) (R : Value → Heap → Prop) (h : Heap) : Prop :=
  CallM Try.prog 8 #[(.int .i64 n_0), (.int .i64 (64 : Int))] (.one (.sc (.int .i64))) h fun r1 h1 =>
  CallM Try.prog 8 #[(.int .i64 start_1), (.int .i64 (IntKind.wrap .i64 ((1 : Int) + r1)))] (.one (.sc (.int .i64))) h1 fun r2 h2 =>
  RunsR Try.prog (Instr.buildSlice 23 1 #[(0, (.int .i64 r2))]) (.one (.sc .slc)) h2 fun v3 h3 =>
  RunsR Try.prog (Instr.buildSlice 22 1 #[(0, (.slice v3.ptr v3.len v3.cap))]) (.one (.sc .slc)) h3 fun v4 h4 =>
  LoopM (σ := Sl × Int) (fun s5 K1 h5 =>
  Br (decide ((IntKind.wrap .i64 (s5.2 + (1 : Int))) < (IntKind.wrap .i64 ((1 : Int) + r1))))
  (RunsR Try.prog (Instr.buildSlice 23 2 #[(0, (.int .i64 s5.2)), (1, (.int .i64 (IntKind.wrap .i64 (s5.2 + (1 : Int)))))]) (.one (.sc .slc)) h5 fun v6 h6 =>
  RunsR Try.prog (Instr.buildSlice 22 1 #[(0, (.slice v6.ptr v6.len v6.cap))]) (.one (.sc .slc)) h6 fun v7 h7 =>
  RunsR Try.prog (Builtin.append_ #[22, 22] 22 #[(.slice s5.1.ptr s5.1.len s5.1.cap), (.slice v7.ptr v7.len v7.cap)]) (.one (.sc .slc)) h7 fun v8 h8 =>
  K1 ((⟨v8.ptr, v8.len, v8.cap⟩ : Sl), IntKind.wrap .i64 (s5.2 + (1 : Int))) h8)
  (CallM Try.prog 8 #[(.int .i64 turn_2), (.int .i64 (IntKind.wrap .i64 ((1 : Int) + r1)))] (.one (.sc (.int .i64))) h5 fun r9 h9 =>
  JoinM (σ := Sl) (fun s12 h12 =>
  CallM Try.prog 11 #[(.int .i64 (IntKind.wrap .i64 ((1 : Int) + r1))), (.slice s12.ptr s12.len s12.cap)] (.many [(.agg [.slc, .slc, .slc]), (.sc .bool)]) h12 fun r13 h13 =>
  RunsA Try.prog (Instr.alloc 31 true (.tuple #[])) h13 fun a14 h14 =>
  Runs Try.prog (Instr.storeAt 31 (.pointer (some a14)) (.agg #[(.slice r13.1.1.ptr r13.1.1.len r13.1.1.cap), (.slice r13.1.2.1.ptr r13.1.2.1.len r13.1.2.1.cap), (.slice r13.1.2.2.ptr r13.1.2.2.len r13.1.2.2.cap)])) h14 fun _ h15 =>
  Br r13.2 (∃ x15 : Sl, cellOf h15 (a14.add 1) = some (.slice x15.ptr x15.len x15.cap) ∧
  Br (((x15.len : Nat) : Int) == (0 : Int)) (∃ x16 : Sl, cellOf h15 (a14.add 2) = some (.slice x16.ptr x16.len x16.cap) ∧
  Br (((x16.len : Nat) : Int) == (0 : Int)) (∃ x17 : Sl, cellOf h15 a14 = some (.slice x17.ptr x17.len x17.cap) ∧
  Br (((x17.len : Nat) : Int) == (IntKind.wrap .i64 ((1 : Int) + r1))) (CallM Try.prog 7 #[] (.one (.sc .bool)) h15 fun r18 h16 =>
  R (.bool r18) h16) (R (.bool false) h15)) (R (.bool false) h15)) (R (.bool false) h15)) (R (.bool false) h15))
  (fun K2 =>
  (0 ≤ r9 ∧ r9 ≤ ((s5.1.len : Nat) : Int)) ∧
  (0 ≤ r9 ∧ r9 ≤ ((s5.1.cap : Nat) : Int)) ∧
  RunsR Try.prog (Builtin.append_ #[22, 22] 22 #[(.slice none 0 0), (.slice (if s5.1.cap = r9.toNat then s5.1.ptr else s5.1.ptr.map (·.add (r9.toNat * 1))) (s5.1.len - r9.toNat) (s5.1.cap - r9.toNat))]) (.one (.sc .slc)) h9 fun v10 h10 =>
  (Held.ok [] h10) ∧
  RunsR Try.prog (Builtin.append_ #[22, 22] 22 #[(.slice v10.ptr v10.len v10.cap), (.slice s5.1.ptr r9.toNat s5.1.cap)]) (.one (.sc .slc)) h10 fun v11 h11 =>
  (Held.ok [] h11) ∧
  K2 (⟨v11.ptr, v11.len, v11.cap⟩ : Sl) h11))) ((⟨v4.ptr, v4.len, v4.cap⟩ : Sl), (0 : Int)) h4
noncomputable def wellspringlaw13_PlanChain_ann : Ann := (.two .n (.two .n (.two .n (.two (.two .n (.inn (.loop [(7, (.sc .slc)), (8, (.sc (.int .i64)))] [(7, 9), (20, 33)] .n))) (.two .n (.two (.join [(7, (.sc .slc))] [(7, 8), (36, 44)] .n) .n))))))
theorem wellspringlaw13_PlanChain_eq (n_0 : Int) (start_1 : Int) (turn_2 : Int) (R : Value → Heap → Prop) (h : Heap) : fnV C Try.f5 300 wellspringlaw13_PlanChain_ann [(.int .i64 n_0), (.int .i64 start_1), (.int .i64 turn_2)] R h = wellspringlaw13_PlanChain_m n_0 start_1 turn_2 R h := by kernel_rfl
theorem wellspringlaw13_PlanChain_run (n_0 : Int) (start_1 : Int) (turn_2 : Int) {R : Value → Heap → Prop} {h : Heap} (hm : wellspringlaw13_PlanChain_m n_0 start_1 turn_2 R h) : Spec Try.prog 5 #[(.int .i64 n_0), (.int .i64 start_1), (.int .i64 turn_2)] h R :=
  fn_spec C_ok (f := 5) (fn := Try.f5) (args := [(.int .i64 n_0), (.int .i64 start_1), (.int .i64 turn_2)]) Try.func5 (by rw [Try.ntmps5]; exact Nat.le_of_ble_eq_true rfl) (cast (wellspringlaw13_PlanChain_eq n_0 start_1 turn_2 R h).symm hm)
/-- wellspring/wellspringlaw13.PlanPairs -/
abbrev wellspringlaw13_PlanPairs_id : FuncId := 6
noncomputable def wellspringlaw13_PlanPairs_m (n_0 : Int) (middle_1 : Int) (R : Value → Heap → Prop) (h : Heap) : Prop :=
  CallM Try.prog 8 #[(.int .i64 n_0), (.int .i64 (40 : Int))] (.one (.sc (.int .i64))) h fun r1 h1 =>
  CallM Try.prog 8 #[(.int .i64 middle_1), (.int .i64 (IntKind.wrap .i64 ((3 : Int) + r1)))] (.one (.sc (.int .i64))) h1 fun r2 h2 =>
  LoopM (σ := Sl × Int) (fun s3 K1 h3 =>
  Br (decide (s3.2 < (IntKind.wrap .i64 ((3 : Int) + r1))))
  (JoinM (σ := Sl) (fun s7 h7 =>
  Br (decide (s3.2 > r2))
  (RunsR Try.prog (Instr.buildSlice 23 2 #[(0, (.int .i64 r2)), (1, (.int .i64 s3.2))]) (.one (.sc .slc)) h7 fun v8 h8 =>
  RunsR Try.prog (Instr.buildSlice 22 1 #[(0, (.slice v8.ptr v8.len v8.cap))]) (.one (.sc .slc)) h8 fun v9 h9 =>
  RunsR Try.prog (Builtin.append_ #[22, 22] 22 #[(.slice s7.ptr s7.len s7.cap), (.slice v9.ptr v9.len v9.cap)]) (.one (.sc .slc)) h9 fun v10 h10 =>
  K1 ((⟨v10.ptr, v10.len, v10.cap⟩ : Sl), IntKind.wrap .i64 (s3.2 + (1 : Int))) h10)
  (K1 ((⟨s7.ptr, s7.len, s7.cap⟩ : Sl), IntKind.wrap .i64 (s3.2 + (1 : Int))) h7))
  (fun K2 =>
  Br (decide (s3.2 < r2))
  (RunsR Try.prog (Instr.buildSlice 23 2 #[(0, (.int .i64 s3.2)), (1, (.int .i64 r2))]) (.one (.sc .slc)) h3 fun v4 h4 =>
  RunsR Try.prog (Instr.buildSlice 22 1 #[(0, (.slice v4.ptr v4.len v4.cap))]) (.one (.sc .slc)) h4 fun v5 h5 =>
  RunsR Try.prog (Builtin.append_ #[22, 22] 22 #[(.slice s3.1.ptr s3.1.len s3.1.cap), (.slice v5.ptr v5.len v5.cap)]) (.one (.sc .slc)) h5 fun v6 h6 =>
  K2 (⟨v6.ptr, v6.len, v6.cap⟩ : Sl) h6)
  (K2 (⟨s3.1.ptr, s3.1.len, s3.1.cap⟩ : Sl) h3)))
  (CallM Try.prog 11 #[(.int .i64 (IntKind.wrap .i64 ((3 : Int) + r1))), (.slice s3.1.ptr s3.1.len s3.1.cap)] (.many [(.agg [.slc, .slc, .slc]), (.sc .bool)]) h3 fun r11 h11 =>
  RunsA Try.prog (Instr.alloc 31 true (.tuple #[])) h11 fun a12 h12 =>
  Runs Try.prog (Instr.storeAt 31 (.pointer (some a12)) (.agg #[(.slice r11.1.1.ptr r11.1.1.len r11.1.1.cap), (.slice r11.1.2.1.ptr r11.1.2.1.len r11.1.2.1.cap), (.slice r11.1.2.2.ptr r11.1.2.2.len r11.1.2.2.cap)])) h12 fun _ h13 =>
  JoinM (σ := Unit) (fun s18 h16 =>
  ∃ x19 : Sl, cellOf h16 a12 = some (.slice x19.ptr x19.len x19.cap) ∧
  LoopM (σ := Int) (fun s20 K4 h17 =>
  Br (decide (s20 < ((x19.len : Nat) : Int)))
  (∃ a21 : Addr, (x19.ptr = some a21 ∧ 0 ≤ s20 ∧ s20 < ((x19.len : Nat) : Int)) ∧
  ∃ x22 : Int × Int, cellsAt h17 (a21.add (s20.toNat * 2)) 0 [(.int .i64 x22.1), (.int .i64 x22.2)] ∧
  RunsA Try.prog (Instr.alloc 40 true (.tuple #[])) h17 fun a23 h18 =>
  Runs Try.prog (Instr.storeAt 40 (.pointer (some a23)) (.agg #[(.int .i64 x22.1), (.int .i64 x22.2)])) h18 fun _ h19 =>
  ∃ x24 : Int, cellOf h19 a23 = some (.int .i64 x24) ∧
  Br (x24 != s20) (R (.bool false) h19) (∃ x25 : Int, cellOf h19 (a23.add 1) = some (.int .i64 x25) ∧
  Br (x25 == r2)
  (R (.bool false) h19)
  (K4 (IntKind.wrap .i64 (s20 + (1 : Int))) h19)))
  (CallM Try.prog 7 #[] (.one (.sc .bool)) h17 fun r26 h20 =>
  R (.bool r26) h20)) (0 : Int) h16)
  (fun K3 =>
  Br (!r11.2) (R (.bool false) h13) (∃ x13 : Sl, cellOf h13 (a12.add 1) = some (.slice x13.ptr x13.len x13.cap) ∧
  RunsR Try.prog (Instr.buildSlice 23 1 #[(0, (.int .i64 r2))]) (.one (.sc .slc)) h13 fun v14 h14 =>
  CallM Try.prog 17 #[(.slice x13.ptr x13.len x13.cap), (.slice v14.ptr v14.len v14.cap)] (.one (.sc .bool)) h14 fun r15 h15 =>
  Br (!r15) (R (.bool false) h15) (∃ x16 : Sl, cellOf h15 a12 = some (.slice x16.ptr x16.len x16.cap) ∧
  Br (((x16.len : Nat) : Int) != (IntKind.wrap .i64 ((IntKind.wrap .i64 ((3 : Int) + r1)) - (1 : Int)))) (R (.bool false) h15) (∃ x17 : Sl, cellOf h15 (a12.add 2) = some (.slice x17.ptr x17.len x17.cap) ∧
  Br (((x17.len : Nat) : Int) != (0 : Int))
  (R (.bool false) h15)
  (K3 () h15))))))) ((⟨none, 0, 0⟩ : Sl), (0 : Int)) h2
noncomputable def wellspringlaw13_PlanPairs_ann : Ann := (.two .n (.two .n (.two .n (.two .n (.two (.two .n (.inn (.loop [(6, (.sc .slc)), (7, (.sc (.int .i64)))] [(6, 8), (18, 41)] (.two .n (.two (.inn (.two (.join [(6, (.sc .slc))] [(6, 7), (23, 32)] .n) .n)) .n))))) (.two .n (.two (.join [] [(4, 5), (47, 71)] .n) (.two (.two .n (.inn (.loop [(74, (.sc (.int .i64)))] [(4, 5), (10, 12), (74, 90)] .n))) .n))))))))
theorem wellspringlaw13_PlanPairs_eq (n_0 : Int) (middle_1 : Int) (R : Value → Heap → Prop) (h : Heap) : fnV C Try.f6 300 wellspringlaw13_PlanPairs_ann [(.int .i64 n_0), (.int .i64 middle_1)] R h = wellspringlaw13_PlanPairs_m n_0 middle_1 R h := by kernel_rfl
theorem wellspringlaw13_PlanPairs_run (n_0 : Int) (middle_1 : Int) {R : Value → Heap → Prop} {h : Heap} (hm : wellspringlaw13_PlanPairs_m n_0 middle_1 R h) : Spec Try.prog 6 #[(.int .i64 n_0), (.int .i64 middle_1)] h R :=
  fn_spec C_ok (f := 6) (fn := Try.f6) (args := [(.int .i64 n_0), (.int .i64 middle_1)]) Try.func6 (by rw [Try.ntmps6]; exact Nat.le_of_ble_eq_true rfl) (cast (wellspringlaw13_PlanPairs_eq n_0 middle_1 R h).symm hm)
/-- wellspring/wellspringlaw13.wakes -/
abbrev wellspringlaw13_wakes_id : FuncId := 7
noncomputable def wellspringlaw13_wakes_m  (R : Value → Heap → Prop) (h : Heap) : Prop :=
  CallM Try.prog 11 #[(.int .i64 (1 : Int)), (.slice none 0 0)] (.many [(.agg [.slc, .slc, .slc]), (.sc .bool)]) h fun r1 h1 =>
  RunsA Try.prog (Instr.alloc 31 true (.tuple #[])) h1 fun a2 h2 =>
  Runs Try.prog (Instr.storeAt 31 (.pointer (some a2)) (.agg #[(.slice r1.1.1.ptr r1.1.1.len r1.1.1.cap), (.slice r1.1.2.1.ptr r1.1.2.1.len r1.1.2.1.cap), (.slice r1.1.2.2.ptr r1.1.2.2.len r1.1.2.2.cap)])) h2 fun _ h3 =>
  Br r1.2 (∃ x3 : Sl, cellOf h3 a2 = some (.slice x3.ptr x3.len x3.cap) ∧
  Br (((x3.len : Nat) : Int) == (0 : Int)) (∃ x4 : Sl, cellOf h3 (a2.add 1) = some (.slice x4.ptr x4.len x4.cap) ∧
  RunsR Try.prog (Instr.buildSlice 23 1 #[(0, (.int .i64 (0 : Int)))]) (.one (.sc .slc)) h3 fun v5 h4 =>
  CallM Try.prog 17 #[(.slice x4.ptr x4.len x4.cap), (.slice v5.ptr v5.len v5.cap)] (.one (.sc .bool)) h4 fun r6 h5 =>
  R (.bool r6) h5) (R (.bool false) h3)) (R (.bool false) h3)
noncomputable def wellspringlaw13_wakes_ann : Ann := .n
theorem wellspringlaw13_wakes_eq  (R : Value → Heap → Prop) (h : Heap) : fnV C Try.f7 300 wellspringlaw13_wakes_ann [] R h = wellspringlaw13_wakes_m  R h := by kernel_rfl
theorem wellspringlaw13_wakes_run  {R : Value → Heap → Prop} {h : Heap} (hm : wellspringlaw13_wakes_m  R h) : Spec Try.prog 7 #[] h R :=
  fn_spec C_ok (f := 7) (fn := Try.f7) (args := []) Try.func7 (by rw [Try.ntmps7]; exact Nat.le_of_ble_eq_true rfl) (cast (wellspringlaw13_wakes_eq  R h).symm hm)
/-- wellspring/wellspringkeep.Within -/
abbrev wellspringkeep_Within_id : FuncId := 8
noncomputable def wellspringkeep_Within_m (x_0 : Int) (n_1 : Int) (R : Value → Heap → Prop) (h : Heap) : Prop :=
  (n_1 ≠ 0) ∧
  JoinM (σ := Int) (fun s1 h1 =>
  R (.int .i64 s1) h1)
  (fun K1 =>
  Br (decide ((Int.tmod x_0 n_1) < (0 : Int)))
  (K1 (IntKind.wrap .i64 ((Int.tmod x_0 n_1) + n_1)) h)
  (K1 (Int.tmod x_0 n_1) h))
noncomputable def wellspringkeep_Within_ann : Ann := (.two .n (.two .n (.two (.join [(0, (.sc (.int .i64)))] [(0, 1), (8, 13)] .n) .n)))
theorem wellspringkeep_Within_eq (x_0 : Int) (n_1 : Int) (R : Value → Heap → Prop) (h : Heap) : fnV C Try.f8 300 wellspringkeep_Within_ann [(.int .i64 x_0), (.int .i64 n_1)] R h = wellspringkeep_Within_m x_0 n_1 R h := by kernel_rfl
theorem wellspringkeep_Within_run (x_0 : Int) (n_1 : Int) {R : Value → Heap → Prop} {h : Heap} (hm : wellspringkeep_Within_m x_0 n_1 R h) : Spec Try.prog 8 #[(.int .i64 x_0), (.int .i64 n_1)] h R :=
  fn_spec C_ok (f := 8) (fn := Try.f8) (args := [(.int .i64 x_0), (.int .i64 n_1)]) Try.func8 (by rw [Try.ntmps8]; exact Nat.le_of_ble_eq_true rfl) (cast (wellspringkeep_Within_eq x_0 n_1 R h).symm hm)
/-- wellspring/wellspringlaw13.Rows -/
abbrev wellspringlaw13_Rows_id : FuncId := 9
noncomputable def wellspringlaw13_Rows_m (l_0 : Sl) (n_1 : Int) (most_2 : Int) (R : Value → Heap → Prop) (h : Heap) : Prop :=
  JoinM (σ := Sl) (fun s12 h8 =>
  R (.slice s12.ptr s12.len s12.cap) h8)
  (fun K1 =>
  LoopM (σ := Sl × Int) (fun s1 K2 h1 =>
  JoinM (σ := Unit) (fun s2 h2 =>
  LoopM (σ := Sl × Int) (fun s3 K4 h3 =>
  Br (decide (s3.2 < n_1))
  (∃ a4 : Addr, (l_0.ptr = some a4 ∧ 0 ≤ s1.2 ∧ s1.2 < ((l_0.len : Nat) : Int)) ∧
  ∃ x5 : Int, cellOf h3 (a4.add (s1.2.toNat * 1)) = some (.int .i64 x5) ∧
  ((30 : Int) ≠ 0) ∧
  (0 ≤ (Int.tmod s3.2 (30 : Int))) ∧
  Br ((IntKind.wrap .i64 ((BitVec.ofInt (IntKind.bits .i64) (Int.fdiv x5 (2 ^ min (Int.tmod s3.2 (30 : Int)).toNat (IntKind.bits .i64))) &&& (BitVec.ofInt (IntKind.bits .i64) (1 : Int))).toNat : Nat)) == (1 : Int)) (∃ a6 : Addr, (l_0.ptr = some a6 ∧ 0 ≤ s1.2 ∧ s1.2 < ((l_0.len : Nat) : Int)) ∧
  ∃ x7 : Int, cellOf h3 (a6.add (s1.2.toNat * 1)) = some (.int .i64 x7) ∧
  (0 ≤ (30 : Int)) ∧
  ((4 : Int) ≠ 0) ∧
  Br (decide ((Int.tmod (IntKind.wrap .i64 ((Int.fdiv x7 (2 ^ min (30 : Int).toNat (IntKind.bits .i64))) + s3.2)) (4 : Int)) > (1 : Int)))
  (RunsR Try.prog (Instr.buildSlice 23 1 #[(0, (.int .i64 s3.2))]) (.one (.sc .slc)) h3 fun v8 h4 =>
  RunsR Try.prog (Builtin.append_ #[23, 23] 23 #[(.slice s3.1.ptr s3.1.len s3.1.cap), (.slice v8.ptr v8.len v8.cap)]) (.one (.sc .slc)) h4 fun v9 h5 =>
  K4 ((⟨v9.ptr, v9.len, v9.cap⟩ : Sl), IntKind.wrap .i64 (s3.2 + (1 : Int))) h5)
  (K4 ((⟨s3.1.ptr, s3.1.len, s3.1.cap⟩ : Sl), IntKind.wrap .i64 (s3.2 + (1 : Int))) h3)) (K4 ((⟨s3.1.ptr, s3.1.len, s3.1.cap⟩ : Sl), IntKind.wrap .i64 (s3.2 + (1 : Int))) h3))
  (RunsR Try.prog (Instr.buildSlice 22 1 #[(0, (.slice s3.1.ptr s3.1.len s3.1.cap))]) (.one (.sc .slc)) h3 fun v10 h6 =>
  RunsR Try.prog (Builtin.append_ #[22, 22] 22 #[(.slice s1.1.ptr s1.1.len s1.1.cap), (.slice v10.ptr v10.len v10.cap)]) (.one (.sc .slc)) h6 fun v11 h7 =>
  K2 ((⟨v11.ptr, v11.len, v11.cap⟩ : Sl), IntKind.wrap .i64 (s1.2 + (1 : Int))) h7)) ((⟨none, 0, 0⟩ : Sl), (0 : Int)) h2)
  (fun K3 =>
  Br (decide (s1.2 < ((l_0.len : Nat) : Int))) (Br (decide (s1.2 < most_2))
  (K3 () h1)
  (K1 (⟨s1.1.ptr, s1.1.len, s1.1.cap⟩ : Sl) h1)) (K1 (⟨s1.1.ptr, s1.1.len, s1.1.cap⟩ : Sl) h1))) ((⟨none, 0, 0⟩ : Sl), (0 : Int)) h)
noncomputable def wellspringlaw13_Rows_ann : Ann := (.two .n (.two .n (.two (.join [(7, (.sc .slc))] [(7, 55)] (.two .n (.inn (.loop [(7, (.sc .slc)), (8, (.sc (.int .i64)))] [(7, 55)] (.two (.join [] [(11, 20)] .n) (.two (.inn (.two .n (.two (.two .n (.inn (.loop [(9, (.sc .slc)), (10, (.sc (.int .i64)))] [(9, 11), (22, 51)] .n))) .n))) .n)))))) .n)))
theorem wellspringlaw13_Rows_eq (l_0 : Sl) (n_1 : Int) (most_2 : Int) (R : Value → Heap → Prop) (h : Heap) : fnV C Try.f9 300 wellspringlaw13_Rows_ann [(.slice l_0.ptr l_0.len l_0.cap), (.int .i64 n_1), (.int .i64 most_2)] R h = wellspringlaw13_Rows_m l_0 n_1 most_2 R h := by kernel_rfl
theorem wellspringlaw13_Rows_run (l_0 : Sl) (n_1 : Int) (most_2 : Int) {R : Value → Heap → Prop} {h : Heap} (hm : wellspringlaw13_Rows_m l_0 n_1 most_2 R h) : Spec Try.prog 9 #[(.slice l_0.ptr l_0.len l_0.cap), (.int .i64 n_1), (.int .i64 most_2)] h R :=
  fn_spec C_ok (f := 9) (fn := Try.f9) (args := [(.slice l_0.ptr l_0.len l_0.cap), (.int .i64 n_1), (.int .i64 most_2)]) Try.func9 (by rw [Try.ntmps9]; exact Nat.le_of_ble_eq_true rfl) (cast (wellspringlaw13_Rows_eq l_0 n_1 most_2 R h).symm hm)
/-- wellspring/wellspringkeep.Spare[int] -/
abbrev wellspringkeep_Spare_int_id : FuncId := 10
noncomputable def wellspringkeep_Spare_int_m (l_0 : Sl) (mark_1 : Int) (R : Value → Heap → Prop) (h : Heap) : Prop :=
  RunsR Try.prog (Instr.makeSlice 23 (.int .i64 ((l_0.len : Nat) : Int)) (.int .i64 (IntKind.wrap .i64 (((l_0.len : Nat) : Int) + (2 : Int))))) (.one (.sc .slc)) h fun v1 h1 =>
  RunsR Try.prog (Builtin.copy_ #[23, 23] 3 #[(.slice v1.ptr v1.len v1.cap), (.slice l_0.ptr l_0.len l_0.cap)]) (.one (.sc (.int .i64))) h1 fun v2 h2 =>
  (0 ≤ ((v1.cap : Nat) : Int) ∧ ((v1.cap : Nat) : Int) ≤ ((v1.cap : Nat) : Int)) ∧
  LoopM (σ := Int) (fun s3 K1 h3 =>
  Br (decide (s3 < ((((v1.cap : Nat) : Int).toNat : Nat) : Int)))
  (∃ a4 : Addr, (v1.ptr = some a4 ∧ 0 ≤ s3 ∧ s3 < ((((v1.cap : Nat) : Int).toNat : Nat) : Int)) ∧
  Runs Try.prog (Instr.storeAt 3 (.pointer (some (a4.add (s3.toNat * 1)))) (.int .i64 mark_1)) h3 fun _ h4 =>
  K1 (IntKind.wrap .i64 (s3 + (1 : Int))) h4)
  (R (.slice v1.ptr v1.len v1.cap) h3)) ((l_0.len : Nat) : Int) h2
noncomputable def wellspringkeep_Spare_int_ann : Ann := (.two .n (.two .n (.two .n (.two .n (.two (.two .n (.inn (.loop [(7, (.sc (.int .i64)))] [(7, 8), (23, 33)] .n))) .n)))))
theorem wellspringkeep_Spare_int_eq (l_0 : Sl) (mark_1 : Int) (R : Value → Heap → Prop) (h : Heap) : fnV C Try.f10 300 wellspringkeep_Spare_int_ann [(.slice l_0.ptr l_0.len l_0.cap), (.int .i64 mark_1)] R h = wellspringkeep_Spare_int_m l_0 mark_1 R h := by kernel_rfl
theorem wellspringkeep_Spare_int_run (l_0 : Sl) (mark_1 : Int) {R : Value → Heap → Prop} {h : Heap} (hm : wellspringkeep_Spare_int_m l_0 mark_1 R h) : Spec Try.prog 10 #[(.slice l_0.ptr l_0.len l_0.cap), (.int .i64 mark_1)] h R :=
  fn_spec C_ok (f := 10) (fn := Try.f10) (args := [(.slice l_0.ptr l_0.len l_0.cap), (.int .i64 mark_1)]) Try.func10 (by rw [Try.ntmps10]; exact Nat.le_of_ble_eq_true rfl) (cast (wellspringkeep_Spare_int_eq l_0 mark_1 R h).symm hm)
/-- wellspring/inact.Plan -/
abbrev inact_Plan_id : FuncId := 11
noncomputable def inact_Plan_m (n_0 : Int) (l_1 : Sl) (R : Value → Heap → Prop) (h : Heap) : Prop :=
  RunsA Try.prog (Instr.alloc 31 true (.tuple #[])) h fun a1 h1 =>
  CallM Try.prog 18 #[(.int .i64 n_0), (.slice l_1.ptr l_1.len l_1.cap)] (.one (.sc .bool)) h1 fun r2 h2 =>
  Br (!r2)
  (Runs Try.prog (Instr.storeAt 31 (.pointer (some a1)) (.agg #[(.slice none 0 0), (.slice none 0 0), (.slice none 0 0)])) h2 fun _ h3 =>
  ∃ res3 : Sl × Sl × Sl, cellsAt h3 a1 0 [(.slice res3.1.ptr res3.1.len res3.1.cap), (.slice res3.2.1.ptr res3.2.1.len res3.2.1.cap), (.slice res3.2.2.ptr res3.2.2.len res3.2.2.cap)] ∧
  R (.tuple #[(.agg #[(.slice res3.1.ptr res3.1.len res3.1.cap), (.slice res3.2.1.ptr res3.2.1.len res3.2.1.cap), (.slice res3.2.2.ptr res3.2.2.len res3.2.2.cap)]), (.bool false)]) h3)
  (JoinM (σ := Option Addr) (fun s10 h10 =>
  ∃ a11 : Addr, (s10 = some a11) ∧
  ∃ x12 : Sl, cellOf h10 (a11.add 1) = some (.slice x12.ptr x12.len x12.cap) ∧
  LoopM (σ := Int) (fun s13 K2 h11 =>
  Br (decide (s13 < ((x12.len : Nat) : Int)))
  (∃ a14 : Addr, (s10 = some a14) ∧
  ∃ x15 : Sl, cellOf h11 (a14.add 1) = some (.slice x15.ptr x15.len x15.cap) ∧
  ∃ a16 : Addr, (x15.ptr = some a16 ∧ 0 ≤ s13 ∧ s13 < ((x15.len : Nat) : Int)) ∧
  Runs Try.prog (Instr.storeAt 4 (.pointer (some (a16.add (s13.toNat * 1)))) (.bool true)) h11 fun _ h12 =>
  K2 (IntKind.wrap .i64 (s13 + (1 : Int))) h12)
  (RunsA Try.prog (Instr.alloc 31 true (.tuple #[])) h11 fun a17 h13 =>
  LoopM (σ := Unit) (fun s18 K3 h14 =>
  ∃ a19 : Addr, (s10 = some a19) ∧
  ∃ x20 : Sl, cellOf h14 (a19.add 1) = some (.slice x20.ptr x20.len x20.cap) ∧
  CallM Try.prog 19 #[(.slice x20.ptr x20.len x20.cap), (.bool true)] (.one (.sc .bool)) h14 fun r21 h15 =>
  Br (!r21)
  (∃ a22 : Addr, (s10 = some a22) ∧
  ∃ x23 : Sl, cellOf h15 (a22.add 2) = some (.slice x23.ptr x23.len x23.cap) ∧
  LoopM (σ := Int) (fun s24 K4 h16 =>
  Br (decide (s24 < ((x23.len : Nat) : Int)))
  (∃ a25 : Addr, (x23.ptr = some a25 ∧ 0 ≤ s24 ∧ s24 < ((x23.len : Nat) : Int)) ∧
  ∃ x26 : Bool, cellOf h16 (a25.add (s24.toNat * 1)) = some (.bool x26) ∧
  Br (!x26)
  (∃ x27 : Sl, cellOf h16 (a17.add 2) = some (.slice x27.ptr x27.len x27.cap) ∧
  RunsR Try.prog (Instr.buildSlice 23 1 #[(0, (.int .i64 s24))]) (.one (.sc .slc)) h16 fun v28 h17 =>
  RunsR Try.prog (Builtin.append_ #[23, 23] 23 #[(.slice x27.ptr x27.len x27.cap), (.slice v28.ptr v28.len v28.cap)]) (.one (.sc .slc)) h17 fun v29 h18 =>
  Runs Try.prog (Instr.storeAt 23 (.pointer (some (a17.add 2))) (.slice v29.ptr v29.len v29.cap)) h18 fun _ h19 =>
  K4 (IntKind.wrap .i64 (s24 + (1 : Int))) h19)
  (K4 (IntKind.wrap .i64 (s24 + (1 : Int))) h16))
  (∃ x30 : Sl × Sl × Sl, cellsAt h16 a17 0 [(.slice x30.1.ptr x30.1.len x30.1.cap), (.slice x30.2.1.ptr x30.2.1.len x30.2.1.cap), (.slice x30.2.2.ptr x30.2.2.len x30.2.2.cap)] ∧
  Runs Try.prog (Instr.storeAt 31 (.pointer (some a1)) (.agg #[(.slice x30.1.ptr x30.1.len x30.1.cap), (.slice x30.2.1.ptr x30.2.1.len x30.2.1.cap), (.slice x30.2.2.ptr x30.2.2.len x30.2.2.cap)])) h16 fun _ h20 =>
  ∃ res31 : Sl × Sl × Sl, cellsAt h20 a1 0 [(.slice res31.1.ptr res31.1.len res31.1.cap), (.slice res31.2.1.ptr res31.2.1.len res31.2.1.cap), (.slice res31.2.2.ptr res31.2.2.len res31.2.2.cap)] ∧
  R (.tuple #[(.agg #[(.slice res31.1.ptr res31.1.len res31.1.cap), (.slice res31.2.1.ptr res31.2.1.len res31.2.1.cap), (.slice res31.2.2.ptr res31.2.2.len res31.2.2.cap)]), (.bool true)]) h20)) (0 : Int) h15)
  (JoinM (σ := Unit) (fun s53 h34 =>
  K3 () h34)
  (fun K5 =>
  CallM Try.prog 20 #[(.pointer s10)] (.many [(.agg [(.int .i64), (.int .i64)]), (.sc .bool)]) h15 fun r32 h21 =>
  RunsA Try.prog (Instr.alloc 40 true (.tuple #[])) h21 fun a33 h22 =>
  Runs Try.prog (Instr.storeAt 40 (.pointer (some a33)) (.agg #[(.int .i64 r32.1.1), (.int .i64 r32.1.2)])) h22 fun _ h23 =>
  Br r32.2
  (∃ x34 : Sl, cellOf h23 a17 = some (.slice x34.ptr x34.len x34.cap) ∧
  ∃ x35 : Int × Int, cellsAt h23 a33 0 [(.int .i64 x35.1), (.int .i64 x35.2)] ∧
  RunsR Try.prog (Instr.buildSlice 29 1 #[(0, (.agg #[(.int .i64 x35.1), (.int .i64 x35.2)]))]) (.one (.sc .slc)) h23 fun v36 h24 =>
  RunsR Try.prog (Builtin.append_ #[29, 29] 29 #[(.slice x34.ptr x34.len x34.cap), (.slice v36.ptr v36.len v36.cap)]) (.one (.sc .slc)) h24 fun v37 h25 =>
  Runs Try.prog (Instr.storeAt 29 (.pointer (some a17)) (.slice v37.ptr v37.len v37.cap)) h25 fun _ h26 =>
  ∃ a38 : Addr, (s10 = some a38) ∧
  ∃ x39 : Sl, cellOf h26 (a38.add 2) = some (.slice x39.ptr x39.len x39.cap) ∧
  ∃ x40 : Int, cellOf h26 a33 = some (.int .i64 x40) ∧
  ∃ a41 : Addr, (s10 = some a41) ∧
  ∃ x42 : Sl, cellOf h26 (a41.add 1) = some (.slice x42.ptr x42.len x42.cap) ∧
  ∃ x43 : Int, cellOf h26 (a33.add 1) = some (.int .i64 x43) ∧
  ∃ a44 : Addr, (x39.ptr = some a44 ∧ 0 ≤ x40 ∧ x40 < ((x39.len : Nat) : Int)) ∧
  Runs Try.prog (Instr.storeAt 4 (.pointer (some (a44.add (x40.toNat * 1)))) (.bool true)) h26 fun _ h27 =>
  (Held.ok [(a33.add 1, (.int .i64 x43)), (a41.add 1, (.slice x42.ptr x42.len x42.cap)), (a33, (.int .i64 x40)), (a38.add 2, (.slice x39.ptr x39.len x39.cap))] h27) ∧
  ∃ a45 : Addr, (x42.ptr = some a45 ∧ 0 ≤ x43 ∧ x43 < ((x42.len : Nat) : Int)) ∧
  Runs Try.prog (Instr.storeAt 4 (.pointer (some (a45.add (x43.toNat * 1)))) (.bool false)) h27 fun _ h28 =>
  (Held.ok [(a33.add 1, (.int .i64 x43)), (a41.add 1, (.slice x42.ptr x42.len x42.cap)), (a33, (.int .i64 x40)), (a38.add 2, (.slice x39.ptr x39.len x39.cap))] h28) ∧
  K5 () h28)
  (CallM Try.prog 21 #[(.pointer s10)] (.one (.sc (.int .i64))) h23 fun r46 h29 =>
  ∃ x47 : Sl, cellOf h29 (a17.add 1) = some (.slice x47.ptr x47.len x47.cap) ∧
  RunsR Try.prog (Instr.buildSlice 23 1 #[(0, (.int .i64 r46))]) (.one (.sc .slc)) h29 fun v48 h30 =>
  RunsR Try.prog (Builtin.append_ #[23, 23] 23 #[(.slice x47.ptr x47.len x47.cap), (.slice v48.ptr v48.len v48.cap)]) (.one (.sc .slc)) h30 fun v49 h31 =>
  Runs Try.prog (Instr.storeAt 23 (.pointer (some (a17.add 1))) (.slice v49.ptr v49.len v49.cap)) h31 fun _ h32 =>
  ∃ a50 : Addr, (s10 = some a50) ∧
  ∃ x51 : Sl, cellOf h32 (a50.add 1) = some (.slice x51.ptr x51.len x51.cap) ∧
  ∃ a52 : Addr, (x51.ptr = some a52 ∧ 0 ≤ r46 ∧ r46 < ((x51.len : Nat) : Int)) ∧
  Runs Try.prog (Instr.storeAt 4 (.pointer (some (a52.add (r46.toNat * 1)))) (.bool false)) h32 fun _ h33 =>
  K5 () h33)))) () h13)) (0 : Int) h10)
  (fun K1 =>
  (RunsR Try.prog (Instr.makeSlice 49 (.int .i64 n_0) (.int .i64 n_0)) (.one (.sc .slc)) h2 fun v4 h4 =>
  (Held.ok [] h4) ∧
  RunsR Try.prog (Instr.makeSlice 49 (.int .i64 ((l_1.len : Nat) : Int)) (.int .i64 ((l_1.len : Nat) : Int))) (.one (.sc .slc)) h4 fun v5 h5 =>
  (Held.ok [] h5) ∧
  RunsA Try.prog (Instr.box 51 (.agg #[(.slice l_1.ptr l_1.len l_1.cap), (.slice v4.ptr v4.len v4.cap), (.slice v5.ptr v5.len v5.cap)])) h5 fun a6 h6 =>
  (Held.ok [] h6) ∧
  K1 (some a6) h6) ∧ (RunsR Try.prog (Instr.makeSlice 49 (.int .i64 ((l_1.len : Nat) : Int)) (.int .i64 ((l_1.len : Nat) : Int))) (.one (.sc .slc)) h2 fun v7 h7 =>
  (Held.ok [] h7) ∧
  RunsR Try.prog (Instr.makeSlice 49 (.int .i64 n_0) (.int .i64 n_0)) (.one (.sc .slc)) h7 fun v8 h8 =>
  (Held.ok [] h8) ∧
  RunsA Try.prog (Instr.box 51 (.agg #[(.slice l_1.ptr l_1.len l_1.cap), (.slice v8.ptr v8.len v8.cap), (.slice v7.ptr v7.len v7.cap)])) h8 fun a9 h9 =>
  (Held.ok [] h9) ∧
  K1 (some a9) h9)))
noncomputable def inact_Plan_ann : Ann := (.two .n (.scope 1 [] [(5, 6), (9, 14), (42, 108)] [.n, (.join [(6, (.sc .ptr))] [(6, 7), (19, 27)] .n), (.two .n (.inn (.loop [(32, (.sc (.int .i64)))] [(7, 8), (32, 42)] .n))), .n] [(.two .n (.two (.join [] [(9, 12), (48, 88)] .n) .n))] [(0, [(.two (.two .n (.inn (.loop [(93, (.sc (.int .i64)))] [(12, 14), (93, 107)] .n))) .n)])]))
theorem inact_Plan_eq (n_0 : Int) (l_1 : Sl) (R : Value → Heap → Prop) (h : Heap) : fnV C Try.f11 300 inact_Plan_ann [(.int .i64 n_0), (.slice l_1.ptr l_1.len l_1.cap)] R h = inact_Plan_m n_0 l_1 R h := by kernel_rfl
theorem inact_Plan_run (n_0 : Int) (l_1 : Sl) {R : Value → Heap → Prop} {h : Heap} (hm : inact_Plan_m n_0 l_1 R h) : Spec Try.prog 11 #[(.int .i64 n_0), (.slice l_1.ptr l_1.len l_1.cap)] h R :=
  fn_spec C_ok (f := 11) (fn := Try.f11) (args := [(.int .i64 n_0), (.slice l_1.ptr l_1.len l_1.cap)]) Try.func11 (by rw [Try.ntmps11]; exact Nat.le_of_ble_eq_true rfl) (cast (inact_Plan_eq n_0 l_1 R h).symm hm)
/-- wellspring/wellspringref11.Plan -/
abbrev wellspringref11_Plan_id : FuncId := 12
noncomputable def wellspringref11_Plan_m (n_0 : Int) (l_1 : Sl) (R : Value → Heap → Prop) (h : Heap) : Prop :=
  RunsA Try.prog (Instr.alloc 31 true (.tuple #[])) h fun a1 h1 =>
  JoinM (σ := Unit) (fun s4 h4 =>
  LoopM (σ := Int) (fun s5 K2 h5 =>
  Br (decide (s5 < ((l_1.len : Nat) : Int)))
  (∃ a6 : Addr, (l_1.ptr = some a6 ∧ 0 ≤ s5 ∧ s5 < ((l_1.len : Nat) : Int)) ∧
  ∃ x7 : Sl, cellOf h5 (a6.add (s5.toNat * 1)) = some (.slice x7.ptr x7.len x7.cap) ∧
  CallM Try.prog 22 #[(.int .i64 n_0), (.slice x7.ptr x7.len x7.cap)] (.one (.sc .bool)) h5 fun r8 h6 =>
  Br (!r8)
  (Runs Try.prog (Instr.storeAt 31 (.pointer (some a1)) (.agg #[(.slice none 0 0), (.slice none 0 0), (.slice none 0 0)])) h6 fun _ h7 =>
  ∃ res9 : Sl × Sl × Sl, cellsAt h7 a1 0 [(.slice res9.1.ptr res9.1.len res9.1.cap), (.slice res9.2.1.ptr res9.2.1.len res9.2.1.cap), (.slice res9.2.2.ptr res9.2.2.len res9.2.2.cap)] ∧
  R (.tuple #[(.agg #[(.slice res9.1.ptr res9.1.len res9.1.cap), (.slice res9.2.1.ptr res9.2.1.len res9.2.1.cap), (.slice res9.2.2.ptr res9.2.2.len res9.2.2.cap)]), (.bool false)]) h7)
  (K2 (IntKind.wrap .i64 (s5 + (1 : Int))) h6))
  (RunsA Try.prog (Instr.alloc 31 true (.tuple #[])) h5 fun a10 h8 =>
  JoinM (σ := Sl × Sl) (fun s15 h13 =>
  LoopM (σ := Int) (fun s16 K4 h14 =>
  Br (decide (s16 > (0 : Int)))
  (RunsR Try.prog (Instr.makeSlice 23 (.int .i64 n_0) (.int .i64 n_0)) (.one (.sc .slc)) h14 fun v17 h15 =>
  LoopM (σ := Int × Int × Int) (fun s18 K5 h16 =>
  Br (decide (s18.2.2 < ((l_1.len : Nat) : Int)))
  (∃ a19 : Addr, (l_1.ptr = some a19 ∧ 0 ≤ s18.2.2 ∧ s18.2.2 < ((l_1.len : Nat) : Int)) ∧
  ∃ x20 : Sl, cellOf h16 (a19.add (s18.2.2.toNat * 1)) = some (.slice x20.ptr x20.len x20.cap) ∧
  CallM Try.prog 23 #[(.slice x20.ptr x20.len x20.cap), (.slice s15.1.ptr s15.1.len s15.1.cap)] (.one (.sc .slc)) h16 fun r21 h17 =>
  ∃ a22 : Addr, (s15.2.ptr = some a22 ∧ 0 ≤ s18.2.2 ∧ s18.2.2 < ((s15.2.len : Nat) : Int)) ∧
  ∃ x23 : Bool, cellOf h17 (a22.add (s18.2.2.toNat * 1)) = some (.bool x23) ∧
  Br x23
  (K5 (s18.1, s18.2.1, IntKind.wrap .i64 (s18.2.2 + (1 : Int))) h17)
  (JoinM (σ := Int × Int) (fun s26 h18 =>
  LoopM (σ := Int) (fun s27 K7 h19 =>
  Br (decide (s27 < ((r21.len : Nat) : Int)))
  (∃ a28 : Addr, (r21.ptr = some a28 ∧ 0 ≤ s27 ∧ s27 < ((r21.len : Nat) : Int)) ∧
  ∃ x29 : Int, cellOf h19 (a28.add (s27.toNat * 1)) = some (.int .i64 x29) ∧
  ∃ a30 : Addr, (v17.ptr = some a30 ∧ 0 ≤ x29 ∧ x29 < ((v17.len : Nat) : Int)) ∧
  ∃ x31 : Int, cellOf h19 (a30.add (x29.toNat * 1)) = some (.int .i64 x31) ∧
  ∃ a32 : Addr, (v17.ptr = some a32 ∧ 0 ≤ x29 ∧ x29 < ((v17.len : Nat) : Int)) ∧
  Runs Try.prog (Instr.storeAt 3 (.pointer (some (a32.add (x29.toNat * 1)))) (.int .i64 (IntKind.wrap .i64 (x31 + (1 : Int))))) h19 fun _ h20 =>
  K7 (IntKind.wrap .i64 (s27 + (1 : Int))) h20)
  (K5 (s26.1, s26.2, IntKind.wrap .i64 (s18.2.2 + (1 : Int))) h19)) (0 : Int) h18)
  (fun K6 =>
  Br (((r21.len : Nat) : Int) == (1 : Int)) (Br (decide (s18.1 < (0 : Int)))
  (∃ a24 : Addr, (r21.ptr = some a24 ∧ 0 ≤ (0 : Int) ∧ (0 : Int) < ((r21.len : Nat) : Int)) ∧
  ∃ x25 : Int, cellOf h17 (a24.add ((0 : Int).toNat * 1)) = some (.int .i64 x25) ∧
  K6 (s18.2.2, x25) h17)
  (K6 (s18.1, s18.2.1) h17)) (K6 (s18.1, s18.2.1) h17))))
  (Br (decide (s18.1 ≥ (0 : Int)))
  (∃ a33 : Addr, (s15.2.ptr = some a33 ∧ 0 ≤ s18.1 ∧ s18.1 < ((s15.2.len : Nat) : Int)) ∧
  Runs Try.prog (Instr.storeAt 4 (.pointer (some (a33.add (s18.1.toNat * 1)))) (.bool true)) h16 fun _ h21 =>
  ∃ a34 : Addr, (s15.1.ptr = some a34 ∧ 0 ≤ s18.2.1 ∧ s18.2.1 < ((s15.1.len : Nat) : Int)) ∧
  Runs Try.prog (Instr.storeAt 4 (.pointer (some (a34.add (s18.2.1.toNat * 1)))) (.bool true)) h21 fun _ h22 =>
  ∃ x35 : Sl, cellOf h22 a10 = some (.slice x35.ptr x35.len x35.cap) ∧
  RunsR Try.prog (Instr.buildSlice 29 1 #[(0, (.agg #[(.int .i64 s18.1), (.int .i64 s18.2.1)]))]) (.one (.sc .slc)) h22 fun v36 h23 =>
  RunsR Try.prog (Builtin.append_ #[29, 29] 29 #[(.slice x35.ptr x35.len x35.cap), (.slice v36.ptr v36.len v36.cap)]) (.one (.sc .slc)) h23 fun v37 h24 =>
  Runs Try.prog (Instr.storeAt 29 (.pointer (some a10)) (.slice v37.ptr v37.len v37.cap)) h24 fun _ h25 =>
  K4 (IntKind.wrap .i64 (s16 - (1 : Int))) h25)
  (LoopM (σ := Int × Int) (fun s38 K8 h26 =>
  Br (decide (s38.2 < n_0))
  (∃ a39 : Addr, (s15.1.ptr = some a39 ∧ 0 ≤ s38.2 ∧ s38.2 < ((s15.1.len : Nat) : Int)) ∧
  ∃ x40 : Bool, cellOf h26 (a39.add (s38.2.toNat * 1)) = some (.bool x40) ∧
  Br (!x40) (Br (decide (s38.1 < (0 : Int))) (K8 (s38.2, IntKind.wrap .i64 (s38.2 + (1 : Int))) h26) (∃ a41 : Addr, (v17.ptr = some a41 ∧ 0 ≤ s38.2 ∧ s38.2 < ((v17.len : Nat) : Int)) ∧
  ∃ x42 : Int, cellOf h26 (a41.add (s38.2.toNat * 1)) = some (.int .i64 x42) ∧
  ∃ a43 : Addr, (v17.ptr = some a43 ∧ 0 ≤ s38.1 ∧ s38.1 < ((v17.len : Nat) : Int)) ∧
  ∃ x44 : Int, cellOf h26 (a43.add (s38.1.toNat * 1)) = some (.int .i64 x44) ∧
  Br (decide (x42 > x44))
  (K8 (s38.2, IntKind.wrap .i64 (s38.2 + (1 : Int))) h26)
  (K8 (s38.1, IntKind.wrap .i64 (s38.2 + (1 : Int))) h26))) (K8 (s38.1, IntKind.wrap .i64 (s38.2 + (1 : Int))) h26))
  (∃ a45 : Addr, (s15.1.ptr = some a45 ∧ 0 ≤ s38.1 ∧ s38.1 < ((s15.1.len : Nat) : Int)) ∧
  Runs Try.prog (Instr.storeAt 4 (.pointer (some (a45.add (s38.1.toNat * 1)))) (.bool true)) h26 fun _ h27 =>
  ∃ x46 : Sl, cellOf h27 (a10.add 1) = some (.slice x46.ptr x46.len x46.cap) ∧
  RunsR Try.prog (Instr.buildSlice 23 1 #[(0, (.int .i64 s38.1))]) (.one (.sc .slc)) h27 fun v47 h28 =>
  RunsR Try.prog (Builtin.append_ #[23, 23] 23 #[(.slice x46.ptr x46.len x46.cap), (.slice v47.ptr v47.len v47.cap)]) (.one (.sc .slc)) h28 fun v48 h29 =>
  Runs Try.prog (Instr.storeAt 23 (.pointer (some (a10.add 1))) (.slice v48.ptr v48.len v48.cap)) h29 fun _ h30 =>
  K4 (IntKind.wrap .i64 (s16 - (1 : Int))) h30)) (s18.2.1, (0 : Int)) h16))) ((-1 : Int), (-1 : Int), (0 : Int)) h15)
  (LoopM (σ := Int) (fun s49 K9 h31 =>
  Br (decide (s49 < ((l_1.len : Nat) : Int)))
  (∃ a50 : Addr, (s15.2.ptr = some a50 ∧ 0 ≤ s49 ∧ s49 < ((s15.2.len : Nat) : Int)) ∧
  ∃ x51 : Bool, cellOf h31 (a50.add (s49.toNat * 1)) = some (.bool x51) ∧
  Br (!x51)
  (∃ x52 : Sl, cellOf h31 (a10.add 2) = some (.slice x52.ptr x52.len x52.cap) ∧
  RunsR Try.prog (Instr.buildSlice 23 1 #[(0, (.int .i64 s49))]) (.one (.sc .slc)) h31 fun v53 h32 =>
  RunsR Try.prog (Builtin.append_ #[23, 23] 23 #[(.slice x52.ptr x52.len x52.cap), (.slice v53.ptr v53.len v53.cap)]) (.one (.sc .slc)) h32 fun v54 h33 =>
  Runs Try.prog (Instr.storeAt 23 (.pointer (some (a10.add 2))) (.slice v54.ptr v54.len v54.cap)) h33 fun _ h34 =>
  K9 (IntKind.wrap .i64 (s49 + (1 : Int))) h34)
  (K9 (IntKind.wrap .i64 (s49 + (1 : Int))) h31))
  (∃ x55 : Sl × Sl × Sl, cellsAt h31 a10 0 [(.slice x55.1.ptr x55.1.len x55.1.cap), (.slice x55.2.1.ptr x55.2.1.len x55.2.1.cap), (.slice x55.2.2.ptr x55.2.2.len x55.2.2.cap)] ∧
  Runs Try.prog (Instr.storeAt 31 (.pointer (some a1)) (.agg #[(.slice x55.1.ptr x55.1.len x55.1.cap), (.slice x55.2.1.ptr x55.2.1.len x55.2.1.cap), (.slice x55.2.2.ptr x55.2.2.len x55.2.2.cap)])) h31 fun _ h35 =>
  ∃ res56 : Sl × Sl × Sl, cellsAt h35 a1 0 [(.slice res56.1.ptr res56.1.len res56.1.cap), (.slice res56.2.1.ptr res56.2.1.len res56.2.1.cap), (.slice res56.2.2.ptr res56.2.2.len res56.2.2.cap)] ∧
  R (.tuple #[(.agg #[(.slice res56.1.ptr res56.1.len res56.1.cap), (.slice res56.2.1.ptr res56.2.1.len res56.2.1.cap), (.slice res56.2.2.ptr res56.2.2.len res56.2.2.cap)]), (.bool true)]) h35)) (0 : Int) h14)) n_0 h13)
  (fun K3 =>
  (RunsR Try.prog (Instr.makeSlice 49 (.int .i64 n_0) (.int .i64 n_0)) (.one (.sc .slc)) h8 fun v11 h9 =>
  (Held.ok [] h9) ∧
  RunsR Try.prog (Instr.makeSlice 49 (.int .i64 ((l_1.len : Nat) : Int)) (.int .i64 ((l_1.len : Nat) : Int))) (.one (.sc .slc)) h9 fun v12 h10 =>
  (Held.ok [] h10) ∧
  K3 ((⟨v11.ptr, v11.len, v11.cap⟩ : Sl), (⟨v12.ptr, v12.len, v12.cap⟩ : Sl)) h10) ∧ (RunsR Try.prog (Instr.makeSlice 49 (.int .i64 ((l_1.len : Nat) : Int)) (.int .i64 ((l_1.len : Nat) : Int))) (.one (.sc .slc)) h8 fun v13 h11 =>
  (Held.ok [] h11) ∧
  RunsR Try.prog (Instr.makeSlice 49 (.int .i64 n_0) (.int .i64 n_0)) (.one (.sc .slc)) h11 fun v14 h12 =>
  (Held.ok [] h12) ∧
  K3 ((⟨v14.ptr, v14.len, v14.cap⟩ : Sl), (⟨v13.ptr, v13.len, v13.cap⟩ : Sl)) h12)))) (0 : Int) h4)
  (fun K1 =>
  Br (decide (n_0 < (0 : Int))) (Runs Try.prog (Instr.storeAt 31 (.pointer (some a1)) (.agg #[(.slice none 0 0), (.slice none 0 0), (.slice none 0 0)])) h1 fun _ h2 =>
  ∃ res2 : Sl × Sl × Sl, cellsAt h2 a1 0 [(.slice res2.1.ptr res2.1.len res2.1.cap), (.slice res2.2.1.ptr res2.2.1.len res2.2.1.cap), (.slice res2.2.2.ptr res2.2.2.len res2.2.2.cap)] ∧
  R (.tuple #[(.agg #[(.slice res2.1.ptr res2.1.len res2.1.cap), (.slice res2.2.1.ptr res2.2.1.len res2.2.1.cap), (.slice res2.2.2.ptr res2.2.2.len res2.2.2.cap)]), (.bool false)]) h2) (Br (decide (n_0 > (64 : Int)))
  (Runs Try.prog (Instr.storeAt 31 (.pointer (some a1)) (.agg #[(.slice none 0 0), (.slice none 0 0), (.slice none 0 0)])) h1 fun _ h3 =>
  ∃ res3 : Sl × Sl × Sl, cellsAt h3 a1 0 [(.slice res3.1.ptr res3.1.len res3.1.cap), (.slice res3.2.1.ptr res3.2.1.len res3.2.1.cap), (.slice res3.2.2.ptr res3.2.2.len res3.2.2.cap)] ∧
  R (.tuple #[(.agg #[(.slice res3.1.ptr res3.1.len res3.1.cap), (.slice res3.2.1.ptr res3.2.1.len res3.2.1.cap), (.slice res3.2.2.ptr res3.2.2.len res3.2.2.cap)]), (.bool false)]) h3)
  (K1 () h1)))
noncomputable def wellspringref11_Plan_ann : Ann := (.two .n (.two (.join [] [(5, 6), (22, 29)] .n) (.two (.two .n (.inn (.loop [(31, (.sc (.int .i64)))] [(5, 6), (7, 8), (31, 41)] .n))) (.two .n (.two (.join [(9, (.sc .slc)), (10, (.sc .slc))] [(9, 11), (41, 46)] .n) (.two (.two .n (.inn (.loop [(11, (.sc (.int .i64)))] [(11, 18), (19, 21), (47, 143)] (.two .n (.two (.inn (.two .n (.two .n (.two (.two .n (.inn (.loop [(12, (.sc (.int .i64))), (13, (.sc (.int .i64))), (55, (.sc (.int .i64)))] [(12, 14), (15, 18), (19, 20), (55, 92)] (.two .n (.two .n (.two (.inn (.two .n (.two .n (.two .n (.two (.join [(12, (.sc (.int .i64))), (13, (.sc (.int .i64)))] [(12, 14), (67, 78)] .n) (.two .n (.inn (.loop [(80, (.sc (.int .i64)))] [(19, 20), (80, 91)] .n)))))))) .n)))))) (.two .n (.two (.two .n (.inn (.loop [(13, (.sc (.int .i64))), (20, (.sc (.int .i64)))] [(13, 14), (20, 21), (108, 134)] .n))) .n)))))) .n))))) (.two (.two .n (.inn (.loop [(145, (.sc (.int .i64)))] [(21, 22), (145, 160)] .n))) .n)))))))
theorem wellspringref11_Plan_eq (n_0 : Int) (l_1 : Sl) (R : Value → Heap → Prop) (h : Heap) : fnV C Try.f12 300 wellspringref11_Plan_ann [(.int .i64 n_0), (.slice l_1.ptr l_1.len l_1.cap)] R h = wellspringref11_Plan_m n_0 l_1 R h := by kernel_rfl
theorem wellspringref11_Plan_run (n_0 : Int) (l_1 : Sl) {R : Value → Heap → Prop} {h : Heap} (hm : wellspringref11_Plan_m n_0 l_1 R h) : Spec Try.prog 12 #[(.int .i64 n_0), (.slice l_1.ptr l_1.len l_1.cap)] h R :=
  fn_spec C_ok (f := 12) (fn := Try.f12) (args := [(.int .i64 n_0), (.slice l_1.ptr l_1.len l_1.cap)]) Try.func12 (by rw [Try.ntmps12]; exact Nat.le_of_ble_eq_true rfl) (cast (wellspringref11_Plan_eq n_0 l_1 R h).symm hm)
/-- wellspring/wellspringref11.SamePlan -/
abbrev wellspringref11_SamePlan_id : FuncId := 13
noncomputable def wellspringref11_SamePlan_m (a_0 : Sl × Sl × Sl) (b_1 : Sl × Sl × Sl) (R : Value → Heap → Prop) (h : Heap) : Prop :=
  RunsA Try.prog (Instr.box 31 (.agg #[(.slice a_0.1.ptr a_0.1.len a_0.1.cap), (.slice a_0.2.1.ptr a_0.2.1.len a_0.2.1.cap), (.slice a_0.2.2.ptr a_0.2.2.len a_0.2.2.cap)])) h fun a1 h1 =>
  RunsA Try.prog (Instr.box 31 (.agg #[(.slice b_1.1.ptr b_1.1.len b_1.1.cap), (.slice b_1.2.1.ptr b_1.2.1.len b_1.2.1.cap), (.slice b_1.2.2.ptr b_1.2.2.len b_1.2.2.cap)])) h1 fun a2 h2 =>
  ∃ x3 : Sl, cellOf h2 a1 = some (.slice x3.ptr x3.len x3.cap) ∧
  ∃ x4 : Sl, cellOf h2 a2 = some (.slice x4.ptr x4.len x4.cap) ∧
  CallM Try.prog 24 #[(.slice x3.ptr x3.len x3.cap), (.slice x4.ptr x4.len x4.cap)] (.one (.sc .bool)) h2 fun r5 h3 =>
  Br r5 (∃ x6 : Sl, cellOf h3 (a1.add 1) = some (.slice x6.ptr x6.len x6.cap) ∧
  ∃ x7 : Sl, cellOf h3 (a2.add 1) = some (.slice x7.ptr x7.len x7.cap) ∧
  CallM Try.prog 17 #[(.slice x6.ptr x6.len x6.cap), (.slice x7.ptr x7.len x7.cap)] (.one (.sc .bool)) h3 fun r8 h4 =>
  Br r8 (∃ x9 : Sl, cellOf h4 (a1.add 2) = some (.slice x9.ptr x9.len x9.cap) ∧
  ∃ x10 : Sl, cellOf h4 (a2.add 2) = some (.slice x10.ptr x10.len x10.cap) ∧
  CallM Try.prog 17 #[(.slice x9.ptr x9.len x9.cap), (.slice x10.ptr x10.len x10.cap)] (.one (.sc .bool)) h4 fun r11 h5 =>
  R (.bool r11) h5) (R (.bool false) h4)) (R (.bool false) h3)
noncomputable def wellspringref11_SamePlan_ann : Ann := .n
theorem wellspringref11_SamePlan_eq (a_0 : Sl × Sl × Sl) (b_1 : Sl × Sl × Sl) (R : Value → Heap → Prop) (h : Heap) : fnV C Try.f13 300 wellspringref11_SamePlan_ann [(.agg #[(.slice a_0.1.ptr a_0.1.len a_0.1.cap), (.slice a_0.2.1.ptr a_0.2.1.len a_0.2.1.cap), (.slice a_0.2.2.ptr a_0.2.2.len a_0.2.2.cap)]), (.agg #[(.slice b_1.1.ptr b_1.1.len b_1.1.cap), (.slice b_1.2.1.ptr b_1.2.1.len b_1.2.1.cap), (.slice b_1.2.2.ptr b_1.2.2.len b_1.2.2.cap)])] R h = wellspringref11_SamePlan_m a_0 b_1 R h := by kernel_rfl
theorem wellspringref11_SamePlan_run (a_0 : Sl × Sl × Sl) (b_1 : Sl × Sl × Sl) {R : Value → Heap → Prop} {h : Heap} (hm : wellspringref11_SamePlan_m a_0 b_1 R h) : Spec Try.prog 13 #[(.agg #[(.slice a_0.1.ptr a_0.1.len a_0.1.cap), (.slice a_0.2.1.ptr a_0.2.1.len a_0.2.1.cap), (.slice a_0.2.2.ptr a_0.2.2.len a_0.2.2.cap)]), (.agg #[(.slice b_1.1.ptr b_1.1.len b_1.1.cap), (.slice b_1.2.1.ptr b_1.2.1.len b_1.2.1.cap), (.slice b_1.2.2.ptr b_1.2.2.len b_1.2.2.cap)])] h R :=
  fn_spec C_ok (f := 13) (fn := Try.f13) (args := [(.agg #[(.slice a_0.1.ptr a_0.1.len a_0.1.cap), (.slice a_0.2.1.ptr a_0.2.1.len a_0.2.1.cap), (.slice a_0.2.2.ptr a_0.2.2.len a_0.2.2.cap)]), (.agg #[(.slice b_1.1.ptr b_1.1.len b_1.1.cap), (.slice b_1.2.1.ptr b_1.2.1.len b_1.2.1.cap), (.slice b_1.2.2.ptr b_1.2.2.len b_1.2.2.cap)])]) Try.func13 (by rw [Try.ntmps13]; exact Nat.le_of_ble_eq_true rfl) (cast (wellspringref11_SamePlan_eq a_0 b_1 R h).symm hm)
/-- wellspring/wellspringkeep.Rows[int] -/
abbrev wellspringkeep_Rows_int_id : FuncId := 14
noncomputable def wellspringkeep_Rows_int_m (a_0 : Sl) (b_1 : Sl) (R : Value → Heap → Prop) (h : Heap) : Prop :=
  Br (((a_0.len : Nat) : Int) != ((b_1.len : Nat) : Int))
  (R (.bool false) h)
  (LoopM (σ := Int) (fun s1 K1 h1 =>
  Br (decide (s1 < ((a_0.len : Nat) : Int)))
  (∃ a2 : Addr, (a_0.ptr = some a2 ∧ 0 ≤ s1 ∧ s1 < ((a_0.len : Nat) : Int)) ∧
  ∃ x3 : Sl, cellOf h1 (a2.add (s1.toNat * 1)) = some (.slice x3.ptr x3.len x3.cap) ∧
  ∃ a4 : Addr, (b_1.ptr = some a4 ∧ 0 ≤ s1 ∧ s1 < ((b_1.len : Nat) : Int)) ∧
  ∃ x5 : Sl, cellOf h1 (a4.add (s1.toNat * 1)) = some (.slice x5.ptr x5.len x5.cap) ∧
  CallM Try.prog 17 #[(.slice x3.ptr x3.len x3.cap), (.slice x5.ptr x5.len x5.cap)] (.one (.sc .bool)) h1 fun r6 h2 =>
  (Held.ok [(a4.add (s1.toNat * 1), (.slice x5.ptr x5.len x5.cap)), (a2.add (s1.toNat * 1), (.slice x3.ptr x3.len x3.cap))] h2) ∧
  Br (!r6)
  (R (.bool false) h2)
  (K1 (IntKind.wrap .i64 (s1 + (1 : Int))) h2))
  (R (.bool true) h1)) (0 : Int) h)
noncomputable def wellspringkeep_Rows_int_ann : Ann := (.two .n (.two .n (.two (.two .n (.inn (.loop [(13, (.sc (.int .i64)))] [(4, 6), (13, 27)] .n))) .n)))
theorem wellspringkeep_Rows_int_eq (a_0 : Sl) (b_1 : Sl) (R : Value → Heap → Prop) (h : Heap) : fnV C Try.f14 300 wellspringkeep_Rows_int_ann [(.slice a_0.ptr a_0.len a_0.cap), (.slice b_1.ptr b_1.len b_1.cap)] R h = wellspringkeep_Rows_int_m a_0 b_1 R h := by kernel_rfl
theorem wellspringkeep_Rows_int_run (a_0 : Sl) (b_1 : Sl) {R : Value → Heap → Prop} {h : Heap} (hm : wellspringkeep_Rows_int_m a_0 b_1 R h) : Spec Try.prog 14 #[(.slice a_0.ptr a_0.len a_0.cap), (.slice b_1.ptr b_1.len b_1.cap)] h R :=
  fn_spec C_ok (f := 14) (fn := Try.f14) (args := [(.slice a_0.ptr a_0.len a_0.cap), (.slice b_1.ptr b_1.len b_1.cap)]) Try.func14 (by rw [Try.ntmps14]; exact Nat.le_of_ble_eq_true rfl) (cast (wellspringkeep_Rows_int_eq a_0 b_1 R h).symm hm)
/-- wellspring/wellspringkeep.Rises -/
abbrev wellspringkeep_Rises_id : FuncId := 15
noncomputable def wellspringkeep_Rises_m (l_0 : Sl) (R : Value → Heap → Prop) (h : Heap) : Prop :=
  LoopM (σ := Int) (fun s1 K1 h1 =>
  Br (decide (s1 < ((l_0.len : Nat) : Int)))
  (∃ a2 : Addr, (l_0.ptr = some a2 ∧ 0 ≤ s1 ∧ s1 < ((l_0.len : Nat) : Int)) ∧
  ∃ x3 : Int, cellOf h1 (a2.add (s1.toNat * 1)) = some (.int .i64 x3) ∧
  ∃ a4 : Addr, (l_0.ptr = some a4 ∧ 0 ≤ (IntKind.wrap .i64 (s1 - (1 : Int))) ∧ (IntKind.wrap .i64 (s1 - (1 : Int))) < ((l_0.len : Nat) : Int)) ∧
  ∃ x5 : Int, cellOf h1 (a4.add ((IntKind.wrap .i64 (s1 - (1 : Int))).toNat * 1)) = some (.int .i64 x5) ∧
  Br (decide (x3 ≤ x5))
  (R (.bool false) h1)
  (K1 (IntKind.wrap .i64 (s1 + (1 : Int))) h1))
  (R (.bool true) h1)) (1 : Int) h
noncomputable def wellspringkeep_Rises_ann : Ann := (.two .n (.two (.two .n (.inn (.loop [(3, (.sc (.int .i64)))] [(2, 20)] .n))) .n))
theorem wellspringkeep_Rises_eq (l_0 : Sl) (R : Value → Heap → Prop) (h : Heap) : fnV C Try.f15 300 wellspringkeep_Rises_ann [(.slice l_0.ptr l_0.len l_0.cap)] R h = wellspringkeep_Rises_m l_0 R h := by kernel_rfl
theorem wellspringkeep_Rises_run (l_0 : Sl) {R : Value → Heap → Prop} {h : Heap} (hm : wellspringkeep_Rises_m l_0 R h) : Spec Try.prog 15 #[(.slice l_0.ptr l_0.len l_0.cap)] h R :=
  fn_spec C_ok (f := 15) (fn := Try.f15) (args := [(.slice l_0.ptr l_0.len l_0.cap)]) Try.func15 (by rw [Try.ntmps15]; exact Nat.le_of_ble_eq_true rfl) (cast (wellspringkeep_Rises_eq l_0 R h).symm hm)
/-- wellspring/wellspringkeep.Member[int] -/
abbrev wellspringkeep_Member_int_id : FuncId := 16
noncomputable def wellspringkeep_Member_int_m (l_0 : Sl) (x_1 : Int) (R : Value → Heap → Prop) (h : Heap) : Prop :=
  LoopM (σ := Int) (fun s1 K1 h1 =>
  Br (decide (s1 < ((l_0.len : Nat) : Int)))
  (∃ a2 : Addr, (l_0.ptr = some a2 ∧ 0 ≤ s1 ∧ s1 < ((l_0.len : Nat) : Int)) ∧
  ∃ x3 : Int, cellOf h1 (a2.add (s1.toNat * 1)) = some (.int .i64 x3) ∧
  Br (x3 == x_1)
  (R (.bool true) h1)
  (K1 (IntKind.wrap .i64 (s1 + (1 : Int))) h1))
  (R (.bool false) h1)) (0 : Int) h
noncomputable def wellspringkeep_Member_int_ann : Ann := (.two .n (.two (.two .n (.inn (.loop [(8, (.sc (.int .i64)))] [(4, 6), (8, 18)] .n))) .n))
theorem wellspringkeep_Member_int_eq (l_0 : Sl) (x_1 : Int) (R : Value → Heap → Prop) (h : Heap) : fnV C Try.f16 300 wellspringkeep_Member_int_ann [(.slice l_0.ptr l_0.len l_0.cap), (.int .i64 x_1)] R h = wellspringkeep_Member_int_m l_0 x_1 R h := by kernel_rfl
theorem wellspringkeep_Member_int_run (l_0 : Sl) (x_1 : Int) {R : Value → Heap → Prop} {h : Heap} (hm : wellspringkeep_Member_int_m l_0 x_1 R h) : Spec Try.prog 16 #[(.slice l_0.ptr l_0.len l_0.cap), (.int .i64 x_1)] h R :=
  fn_spec C_ok (f := 16) (fn := Try.f16) (args := [(.slice l_0.ptr l_0.len l_0.cap), (.int .i64 x_1)]) Try.func16 (by rw [Try.ntmps16]; exact Nat.le_of_ble_eq_true rfl) (cast (wellspringkeep_Member_int_eq l_0 x_1 R h).symm hm)
/-- wellspring/wellspringkeep.Same[int] -/
abbrev wellspringkeep_Same_int_id : FuncId := 17
noncomputable def wellspringkeep_Same_int_m (a_0 : Sl) (b_1 : Sl) (R : Value → Heap → Prop) (h : Heap) : Prop :=
  Br (((a_0.len : Nat) : Int) != ((b_1.len : Nat) : Int))
  (R (.bool false) h)
  (LoopM (σ := Int) (fun s1 K1 h1 =>
  Br (decide (s1 < ((a_0.len : Nat) : Int)))
  (∃ a2 : Addr, (a_0.ptr = some a2 ∧ 0 ≤ s1 ∧ s1 < ((a_0.len : Nat) : Int)) ∧
  ∃ x3 : Int, cellOf h1 (a2.add (s1.toNat * 1)) = some (.int .i64 x3) ∧
  ∃ a4 : Addr, (b_1.ptr = some a4 ∧ 0 ≤ s1 ∧ s1 < ((b_1.len : Nat) : Int)) ∧
  ∃ x5 : Int, cellOf h1 (a4.add (s1.toNat * 1)) = some (.int .i64 x5) ∧
  Br (x3 != x5)
  (R (.bool false) h1)
  (K1 (IntKind.wrap .i64 (s1 + (1 : Int))) h1))
  (R (.bool true) h1)) (0 : Int) h)
noncomputable def wellspringkeep_Same_int_ann : Ann := (.two .n (.two .n (.two (.two .n (.inn (.loop [(13, (.sc (.int .i64)))] [(4, 6), (13, 26)] .n))) .n)))
theorem wellspringkeep_Same_int_eq (a_0 : Sl) (b_1 : Sl) (R : Value → Heap → Prop) (h : Heap) : fnV C Try.f17 300 wellspringkeep_Same_int_ann [(.slice a_0.ptr a_0.len a_0.cap), (.slice b_1.ptr b_1.len b_1.cap)] R h = wellspringkeep_Same_int_m a_0 b_1 R h := by kernel_rfl
theorem wellspringkeep_Same_int_run (a_0 : Sl) (b_1 : Sl) {R : Value → Heap → Prop} {h : Heap} (hm : wellspringkeep_Same_int_m a_0 b_1 R h) : Spec Try.prog 17 #[(.slice a_0.ptr a_0.len a_0.cap), (.slice b_1.ptr b_1.len b_1.cap)] h R :=
  fn_spec C_ok (f := 17) (fn := Try.f17) (args := [(.slice a_0.ptr a_0.len a_0.cap), (.slice b_1.ptr b_1.len b_1.cap)]) Try.func17 (by rw [Try.ntmps17]; exact Nat.le_of_ble_eq_true rfl) (cast (wellspringkeep_Same_int_eq a_0 b_1 R h).symm hm)
/-- wellspring/inact.right -/
abbrev inact_right_id : FuncId := 18
noncomputable def inact_right_m (n_0 : Int) (l_1 : Sl) (R : Value → Heap → Prop) (h : Heap) : Prop :=
  JoinM (σ := Unit) (fun s1 h1 =>
  LoopM (σ := Int) (fun s2 K2 h2 =>
  Br (decide (s2 < ((l_1.len : Nat) : Int)))
  (∃ a3 : Addr, (l_1.ptr = some a3 ∧ 0 ≤ s2 ∧ s2 < ((l_1.len : Nat) : Int)) ∧
  ∃ x4 : Sl, cellOf h2 (a3.add (s2.toNat * 1)) = some (.slice x4.ptr x4.len x4.cap) ∧
  LoopM (σ := Int) (fun s5 K3 h3 =>
  Br (decide (s5 < ((x4.len : Nat) : Int)))
  (∃ a6 : Addr, (x4.ptr = some a6 ∧ 0 ≤ s5 ∧ s5 < ((x4.len : Nat) : Int)) ∧
  ∃ x7 : Int, cellOf h3 (a6.add (s5.toNat * 1)) = some (.int .i64 x7) ∧
  Br (decide (x7 < (0 : Int))) (R (.bool false) h3) (Br (decide (x7 ≥ n_0)) (R (.bool false) h3) (Br (decide (s5 > (0 : Int))) (∃ a8 : Addr, (x4.ptr = some a8 ∧ 0 ≤ (IntKind.wrap .i64 (s5 - (1 : Int))) ∧ (IntKind.wrap .i64 (s5 - (1 : Int))) < ((x4.len : Nat) : Int)) ∧
  ∃ x9 : Int, cellOf h3 (a8.add ((IntKind.wrap .i64 (s5 - (1 : Int))).toNat * 1)) = some (.int .i64 x9) ∧
  Br (decide (x9 ≥ x7))
  (R (.bool false) h3)
  (K3 (IntKind.wrap .i64 (s5 + (1 : Int))) h3)) (K3 (IntKind.wrap .i64 (s5 + (1 : Int))) h3))))
  (K2 (IntKind.wrap .i64 (s2 + (1 : Int))) h3)) (0 : Int) h2)
  (R (.bool true) h2)) (0 : Int) h1)
  (fun K1 =>
  Br (decide (n_0 < (0 : Int))) (R (.bool false) h) (Br (decide (n_0 > (64 : Int)))
  (R (.bool false) h)
  (K1 () h)))
noncomputable def inact_right_ann : Ann := (.two .n (.two (.join [] [(4, 5), (9, 15)] .n) (.two (.two .n (.inn (.loop [(17, (.sc (.int .i64)))] [(4, 5), (6, 9), (17, 50)] (.two .n (.two .n (.two (.inn (.two .n (.two .n (.inn (.loop [(23, (.sc (.int .i64)))] [(4, 5), (7, 9), (23, 49)] .n))))) .n)))))) .n)))
theorem inact_right_eq (n_0 : Int) (l_1 : Sl) (R : Value → Heap → Prop) (h : Heap) : fnV C Try.f18 300 inact_right_ann [(.int .i64 n_0), (.slice l_1.ptr l_1.len l_1.cap)] R h = inact_right_m n_0 l_1 R h := by kernel_rfl
theorem inact_right_run (n_0 : Int) (l_1 : Sl) {R : Value → Heap → Prop} {h : Heap} (hm : inact_right_m n_0 l_1 R h) : Spec Try.prog 18 #[(.int .i64 n_0), (.slice l_1.ptr l_1.len l_1.cap)] h R :=
  fn_spec C_ok (f := 18) (fn := Try.f18) (args := [(.int .i64 n_0), (.slice l_1.ptr l_1.len l_1.cap)]) Try.func18 (by rw [Try.ntmps18]; exact Nat.le_of_ble_eq_true rfl) (cast (inact_right_eq n_0 l_1 R h).symm hm)
/-- slices.Contains[[]bool,bool] -/
abbrev slices_Contains_bool_bool_id : FuncId := 19
noncomputable def slices_Contains_bool_bool_m (s_0 : Sl) (v_1 : Bool) (R : Value → Heap → Prop) (h : Heap) : Prop :=
  CallM Try.prog 25 #[(.slice s_0.ptr s_0.len s_0.cap), (.bool v_1)] (.one (.sc (.int .i64))) h fun r1 h1 =>
  R (.bool (decide (r1 ≥ (0 : Int)))) h1
noncomputable def slices_Contains_bool_bool_ann : Ann := .n
theorem slices_Contains_bool_bool_eq (s_0 : Sl) (v_1 : Bool) (R : Value → Heap → Prop) (h : Heap) : fnV C Try.f19 300 slices_Contains_bool_bool_ann [(.slice s_0.ptr s_0.len s_0.cap), (.bool v_1)] R h = slices_Contains_bool_bool_m s_0 v_1 R h := by kernel_rfl
theorem slices_Contains_bool_bool_run (s_0 : Sl) (v_1 : Bool) {R : Value → Heap → Prop} {h : Heap} (hm : slices_Contains_bool_bool_m s_0 v_1 R h) : Spec Try.prog 19 #[(.slice s_0.ptr s_0.len s_0.cap), (.bool v_1)] h R :=
  fn_spec C_ok (f := 19) (fn := Try.f19) (args := [(.slice s_0.ptr s_0.len s_0.cap), (.bool v_1)]) Try.func19 (by rw [Try.ntmps19]; exact Nat.le_of_ble_eq_true rfl) (cast (slices_Contains_bool_bool_eq s_0 v_1 R h).symm hm)
/-- (*wellspring/inact.planner).step -/
abbrev inact_planner_step_id : FuncId := 20
noncomputable def inact_planner_step_m (p_0 : Option Addr) (R : Value → Heap → Prop) (h : Heap) : Prop :=
  RunsA Try.prog (Instr.alloc 40 true (.tuple #[])) h fun a1 h1 =>
  ∃ a2 : Addr, (p_0 = some a2) ∧
  ∃ x3 : Sl, cellOf h1 a2 = some (.slice x3.ptr x3.len x3.cap) ∧
  LoopM (σ := Int) (fun s4 K1 h2 =>
  Br (decide (s4 < ((x3.len : Nat) : Int)))
  (∃ a5 : Addr, (x3.ptr = some a5 ∧ 0 ≤ s4 ∧ s4 < ((x3.len : Nat) : Int)) ∧
  ∃ x6 : Sl, cellOf h2 (a5.add (s4.toNat * 1)) = some (.slice x6.ptr x6.len x6.cap) ∧
  ∃ a7 : Addr, (p_0 = some a7) ∧
  ∃ x8 : Sl, cellOf h2 (a7.add 2) = some (.slice x8.ptr x8.len x8.cap) ∧
  ∃ a9 : Addr, (x8.ptr = some a9 ∧ 0 ≤ s4 ∧ s4 < ((x8.len : Nat) : Int)) ∧
  ∃ x10 : Bool, cellOf h2 (a9.add (s4.toNat * 1)) = some (.bool x10) ∧
  Br x10
  (K1 (IntKind.wrap .i64 (s4 + (1 : Int))) h2)
  (CallM Try.prog 26 #[(.pointer p_0), (.slice x6.ptr x6.len x6.cap)] (.many [(.sc (.int .i64)), (.sc .bool)]) h2 fun r11 h3 =>
  Br r11.2
  (Runs Try.prog (Instr.storeAt 40 (.pointer (some a1)) (.agg #[(.int .i64 s4), (.int .i64 r11.1)])) h3 fun _ h4 =>
  ∃ res12 : Int × Int, cellsAt h4 a1 0 [(.int .i64 res12.1), (.int .i64 res12.2)] ∧
  R (.tuple #[(.agg #[(.int .i64 res12.1), (.int .i64 res12.2)]), (.bool true)]) h4)
  (K1 (IntKind.wrap .i64 (s4 + (1 : Int))) h3)))
  (Runs Try.prog (Instr.storeAt 40 (.pointer (some a1)) (.agg #[(.int .i64 (0 : Int)), (.int .i64 (0 : Int))])) h2 fun _ h5 =>
  ∃ res13 : Int × Int, cellsAt h5 a1 0 [(.int .i64 res13.1), (.int .i64 res13.2)] ∧
  R (.tuple #[(.agg #[(.int .i64 res13.1), (.int .i64 res13.2)]), (.bool false)]) h5)) (0 : Int) h1
noncomputable def inact_planner_step_ann : Ann := (.two .n (.two (.two .n (.inn (.loop [(13, (.sc (.int .i64)))] [(3, 8), (13, 36)] .n))) .n))
theorem inact_planner_step_eq (p_0 : Option Addr) (R : Value → Heap → Prop) (h : Heap) : fnV C Try.f20 300 inact_planner_step_ann [(.pointer p_0)] R h = inact_planner_step_m p_0 R h := by kernel_rfl
theorem inact_planner_step_run (p_0 : Option Addr) {R : Value → Heap → Prop} {h : Heap} (hm : inact_planner_step_m p_0 R h) : Spec Try.prog 20 #[(.pointer p_0)] h R :=
  fn_spec C_ok (f := 20) (fn := Try.f20) (args := [(.pointer p_0)]) Try.func20 (by rw [Try.ntmps20]; exact Nat.le_of_ble_eq_true rfl) (cast (inact_planner_step_eq p_0 R h).symm hm)
/-- (*wellspring/inact.planner).most -/
abbrev inact_planner_most_id : FuncId := 21
noncomputable def inact_planner_most_m (p_0 : Option Addr) (R : Value → Heap → Prop) (h : Heap) : Prop :=
  ∃ a1 : Addr, (p_0 = some a1) ∧
  ∃ x2 : Sl, cellOf h (a1.add 1) = some (.slice x2.ptr x2.len x2.cap) ∧
  RunsR Try.prog (Instr.makeSlice 23 (.int .i64 ((x2.len : Nat) : Int)) (.int .i64 ((x2.len : Nat) : Int))) (.one (.sc .slc)) h fun v3 h1 =>
  ∃ a4 : Addr, (p_0 = some a4) ∧
  ∃ x5 : Sl, cellOf h1 a4 = some (.slice x5.ptr x5.len x5.cap) ∧
  LoopM (σ := Int) (fun s6 K1 h2 =>
  Br (decide (s6 < ((x5.len : Nat) : Int)))
  (∃ a7 : Addr, (x5.ptr = some a7 ∧ 0 ≤ s6 ∧ s6 < ((x5.len : Nat) : Int)) ∧
  ∃ x8 : Sl, cellOf h2 (a7.add (s6.toNat * 1)) = some (.slice x8.ptr x8.len x8.cap) ∧
  LoopM (σ := Int) (fun s9 K2 h3 =>
  Br (decide (s9 < ((x8.len : Nat) : Int)))
  (∃ a10 : Addr, (x8.ptr = some a10 ∧ 0 ≤ s9 ∧ s9 < ((x8.len : Nat) : Int)) ∧
  ∃ x11 : Int, cellOf h3 (a10.add (s9.toNat * 1)) = some (.int .i64 x11) ∧
  ∃ a12 : Addr, (p_0 = some a12) ∧
  ∃ x13 : Sl, cellOf h3 (a12.add 2) = some (.slice x13.ptr x13.len x13.cap) ∧
  ∃ a14 : Addr, (x13.ptr = some a14 ∧ 0 ≤ s6 ∧ s6 < ((x13.len : Nat) : Int)) ∧
  ∃ x15 : Bool, cellOf h3 (a14.add (s6.toNat * 1)) = some (.bool x15) ∧
  Br (!x15)
  (∃ a16 : Addr, (v3.ptr = some a16 ∧ 0 ≤ x11 ∧ x11 < ((v3.len : Nat) : Int)) ∧
  ∃ x17 : Int, cellOf h3 (a16.add (x11.toNat * 1)) = some (.int .i64 x17) ∧
  ∃ a18 : Addr, (v3.ptr = some a18 ∧ 0 ≤ x11 ∧ x11 < ((v3.len : Nat) : Int)) ∧
  Runs Try.prog (Instr.storeAt 3 (.pointer (some (a18.add (x11.toNat * 1)))) (.int .i64 (IntKind.wrap .i64 (x17 + (1 : Int))))) h3 fun _ h4 =>
  K2 (IntKind.wrap .i64 (s9 + (1 : Int))) h4)
  (K2 (IntKind.wrap .i64 (s9 + (1 : Int))) h3))
  (K1 (IntKind.wrap .i64 (s6 + (1 : Int))) h3)) (0 : Int) h2)
  (∃ a19 : Addr, (p_0 = some a19) ∧
  ∃ x20 : Sl, cellOf h2 (a19.add 1) = some (.slice x20.ptr x20.len x20.cap) ∧
  LoopM (σ := Int × Int) (fun s21 K3 h5 =>
  Br (decide (s21.2 < ((x20.len : Nat) : Int)))
  (∃ a22 : Addr, (x20.ptr = some a22 ∧ 0 ≤ s21.2 ∧ s21.2 < ((x20.len : Nat) : Int)) ∧
  ∃ x23 : Bool, cellOf h5 (a22.add (s21.2.toNat * 1)) = some (.bool x23) ∧
  Br x23 (Br (decide (s21.1 < (0 : Int))) (K3 (s21.2, IntKind.wrap .i64 (s21.2 + (1 : Int))) h5) (∃ a24 : Addr, (v3.ptr = some a24 ∧ 0 ≤ s21.2 ∧ s21.2 < ((v3.len : Nat) : Int)) ∧
  ∃ x25 : Int, cellOf h5 (a24.add (s21.2.toNat * 1)) = some (.int .i64 x25) ∧
  ∃ a26 : Addr, (v3.ptr = some a26 ∧ 0 ≤ s21.1 ∧ s21.1 < ((v3.len : Nat) : Int)) ∧
  ∃ x27 : Int, cellOf h5 (a26.add (s21.1.toNat * 1)) = some (.int .i64 x27) ∧
  Br (decide (x25 > x27))
  (K3 (s21.2, IntKind.wrap .i64 (s21.2 + (1 : Int))) h5)
  (K3 (s21.1, IntKind.wrap .i64 (s21.2 + (1 : Int))) h5))) (K3 (s21.1, IntKind.wrap .i64 (s21.2 + (1 : Int))) h5))
  (R (.int .i64 s21.1) h5)) ((-1 : Int), (0 : Int)) h2)) (0 : Int) h1
noncomputable def inact_planner_most_ann : Ann := (.two .n (.two .n (.two (.two .n (.inn (.loop [(22, (.sc (.int .i64)))] [(4, 6), (7, 8), (22, 49)] (.two .n (.two .n (.two (.inn (.two .n (.two .n (.inn (.loop [(29, (.sc (.int .i64)))] [(7, 8), (29, 48)] .n))))) .n)))))) (.two .n (.two (.two .n (.inn (.loop [(8, (.sc (.int .i64))), (54, (.sc (.int .i64)))] [(8, 11), (54, 77)] .n))) .n)))))
theorem inact_planner_most_eq (p_0 : Option Addr) (R : Value → Heap → Prop) (h : Heap) : fnV C Try.f21 300 inact_planner_most_ann [(.pointer p_0)] R h = inact_planner_most_m p_0 R h := by kernel_rfl
theorem inact_planner_most_run (p_0 : Option Addr) {R : Value → Heap → Prop} {h : Heap} (hm : inact_planner_most_m p_0 R h) : Spec Try.prog 21 #[(.pointer p_0)] h R :=
  fn_spec C_ok (f := 21) (fn := Try.f21) (args := [(.pointer p_0)]) Try.func21 (by rw [Try.ntmps21]; exact Nat.le_of_ble_eq_true rfl) (cast (inact_planner_most_eq p_0 R h).symm hm)
/-- wellspring/wellspringref11.MayRow -/
abbrev wellspringref11_MayRow_id : FuncId := 22
noncomputable def wellspringref11_MayRow_m (n_0 : Int) (cols_1 : Sl) (R : Value → Heap → Prop) (h : Heap) : Prop :=
  LoopM (σ := Int) (fun s1 K1 h1 =>
  Br (decide (s1 < ((cols_1.len : Nat) : Int)))
  (∃ a2 : Addr, (cols_1.ptr = some a2 ∧ 0 ≤ s1 ∧ s1 < ((cols_1.len : Nat) : Int)) ∧
  ∃ x3 : Int, cellOf h1 (a2.add (s1.toNat * 1)) = some (.int .i64 x3) ∧
  Br (decide (x3 < (0 : Int))) (R (.bool false) h1) (Br (decide (x3 ≥ n_0)) (R (.bool false) h1) (Br (decide (s1 > (0 : Int))) (∃ a4 : Addr, (cols_1.ptr = some a4 ∧ 0 ≤ (IntKind.wrap .i64 (s1 - (1 : Int))) ∧ (IntKind.wrap .i64 (s1 - (1 : Int))) < ((cols_1.len : Nat) : Int)) ∧
  ∃ x5 : Int, cellOf h1 (a4.add ((IntKind.wrap .i64 (s1 - (1 : Int))).toNat * 1)) = some (.int .i64 x5) ∧
  Br (decide (x3 ≤ x5))
  (R (.bool false) h1)
  (K1 (IntKind.wrap .i64 (s1 + (1 : Int))) h1)) (K1 (IntKind.wrap .i64 (s1 + (1 : Int))) h1))))
  (R (.bool true) h1)) (0 : Int) h
noncomputable def wellspringref11_MayRow_ann : Ann := (.two .n (.two (.two .n (.inn (.loop [(9, (.sc (.int .i64)))] [(4, 7), (9, 35)] .n))) .n))
theorem wellspringref11_MayRow_eq (n_0 : Int) (cols_1 : Sl) (R : Value → Heap → Prop) (h : Heap) : fnV C Try.f22 300 wellspringref11_MayRow_ann [(.int .i64 n_0), (.slice cols_1.ptr cols_1.len cols_1.cap)] R h = wellspringref11_MayRow_m n_0 cols_1 R h := by kernel_rfl
theorem wellspringref11_MayRow_run (n_0 : Int) (cols_1 : Sl) {R : Value → Heap → Prop} {h : Heap} (hm : wellspringref11_MayRow_m n_0 cols_1 R h) : Spec Try.prog 22 #[(.int .i64 n_0), (.slice cols_1.ptr cols_1.len cols_1.cap)] h R :=
  fn_spec C_ok (f := 22) (fn := Try.f22) (args := [(.int .i64 n_0), (.slice cols_1.ptr cols_1.len cols_1.cap)]) Try.func22 (by rw [Try.ntmps22]; exact Nat.le_of_ble_eq_true rfl) (cast (wellspringref11_MayRow_eq n_0 cols_1 R h).symm hm)
/-- wellspring/wellspringref11.open -/
abbrev wellspringref11_open_id : FuncId := 23
noncomputable def wellspringref11_open_m (cols_0 : Sl) (done_1 : Sl) (R : Value → Heap → Prop) (h : Heap) : Prop :=
  LoopM (σ := Sl × Int) (fun s1 K1 h1 =>
  Br (decide (s1.2 < ((cols_0.len : Nat) : Int)))
  (∃ a2 : Addr, (cols_0.ptr = some a2 ∧ 0 ≤ s1.2 ∧ s1.2 < ((cols_0.len : Nat) : Int)) ∧
  ∃ x3 : Int, cellOf h1 (a2.add (s1.2.toNat * 1)) = some (.int .i64 x3) ∧
  ∃ a4 : Addr, (done_1.ptr = some a4 ∧ 0 ≤ x3 ∧ x3 < ((done_1.len : Nat) : Int)) ∧
  ∃ x5 : Bool, cellOf h1 (a4.add (x3.toNat * 1)) = some (.bool x5) ∧
  Br (!x5)
  (RunsR Try.prog (Instr.buildSlice 23 1 #[(0, (.int .i64 x3))]) (.one (.sc .slc)) h1 fun v6 h2 =>
  RunsR Try.prog (Builtin.append_ #[23, 23] 23 #[(.slice s1.1.ptr s1.1.len s1.1.cap), (.slice v6.ptr v6.len v6.cap)]) (.one (.sc .slc)) h2 fun v7 h3 =>
  K1 ((⟨v7.ptr, v7.len, v7.cap⟩ : Sl), IntKind.wrap .i64 (s1.2 + (1 : Int))) h3)
  (K1 ((⟨s1.1.ptr, s1.1.len, s1.1.cap⟩ : Sl), IntKind.wrap .i64 (s1.2 + (1 : Int))) h1))
  (R (.slice s1.1.ptr s1.1.len s1.1.cap) h1)) ((⟨none, 0, 0⟩ : Sl), (0 : Int)) h
noncomputable def wellspringref11_open_ann : Ann := (.two .n (.two .n (.two (.two .n (.inn (.loop [(5, (.sc .slc)), (10, (.sc (.int .i64)))] [(5, 6), (7, 8), (10, 24)] .n))) .n)))
theorem wellspringref11_open_eq (cols_0 : Sl) (done_1 : Sl) (R : Value → Heap → Prop) (h : Heap) : fnV C Try.f23 300 wellspringref11_open_ann [(.slice cols_0.ptr cols_0.len cols_0.cap), (.slice done_1.ptr done_1.len done_1.cap)] R h = wellspringref11_open_m cols_0 done_1 R h := by kernel_rfl
theorem wellspringref11_open_run (cols_0 : Sl) (done_1 : Sl) {R : Value → Heap → Prop} {h : Heap} (hm : wellspringref11_open_m cols_0 done_1 R h) : Spec Try.prog 23 #[(.slice cols_0.ptr cols_0.len cols_0.cap), (.slice done_1.ptr done_1.len done_1.cap)] h R :=
  fn_spec C_ok (f := 23) (fn := Try.f23) (args := [(.slice cols_0.ptr cols_0.len cols_0.cap), (.slice done_1.ptr done_1.len done_1.cap)]) Try.func23 (by rw [Try.ntmps23]; exact Nat.le_of_ble_eq_true rfl) (cast (wellspringref11_open_eq cols_0 done_1 R h).symm hm)
/-- wellspring/wellspringkeep.Same[wellspring/api.Step] -/
abbrev wellspringkeep_Same_api_Step_id : FuncId := 24
noncomputable def wellspringkeep_Same_api_Step_m (a_0 : Sl) (b_1 : Sl) (R : Value → Heap → Prop) (h : Heap) : Prop :=
  Br (((a_0.len : Nat) : Int) != ((b_1.len : Nat) : Int))
  (R (.bool false) h)
  (LoopM (σ := Int) (fun s1 K1 h1 =>
  Br (decide (s1 < ((a_0.len : Nat) : Int)))
  (∃ a2 : Addr, (a_0.ptr = some a2 ∧ 0 ≤ s1 ∧ s1 < ((a_0.len : Nat) : Int)) ∧
  ∃ x3 : Int × Int, cellsAt h1 (a2.add (s1.toNat * 2)) 0 [(.int .i64 x3.1), (.int .i64 x3.2)] ∧
  ∃ a4 : Addr, (b_1.ptr = some a4 ∧ 0 ≤ s1 ∧ s1 < ((b_1.len : Nat) : Int)) ∧
  ∃ x5 : Int × Int, cellsAt h1 (a4.add (s1.toNat * 2)) 0 [(.int .i64 x5.1), (.int .i64 x5.2)] ∧
  ∃ b6 : Bool, (RawBin Try.prog .neq 40 (.tmp 19) (.tmp 23) (.agg #[(.int .i64 x3.1), (.int .i64 x3.2)]) (.agg #[(.int .i64 x5.1), (.int .i64 x5.2)]) (.bool b6)) ∧
  Br b6
  (R (.bool false) h1)
  (K1 (IntKind.wrap .i64 (s1 + (1 : Int))) h1))
  (R (.bool true) h1)) (0 : Int) h)
noncomputable def wellspringkeep_Same_api_Step_ann : Ann := (.two .n (.two .n (.two (.two .n (.inn (.loop [(13, (.sc (.int .i64)))] [(4, 6), (13, 26)] .n))) .n)))
theorem wellspringkeep_Same_api_Step_eq (a_0 : Sl) (b_1 : Sl) (R : Value → Heap → Prop) (h : Heap) : fnV C Try.f24 300 wellspringkeep_Same_api_Step_ann [(.slice a_0.ptr a_0.len a_0.cap), (.slice b_1.ptr b_1.len b_1.cap)] R h = wellspringkeep_Same_api_Step_m a_0 b_1 R h := by kernel_rfl
theorem wellspringkeep_Same_api_Step_run (a_0 : Sl) (b_1 : Sl) {R : Value → Heap → Prop} {h : Heap} (hm : wellspringkeep_Same_api_Step_m a_0 b_1 R h) : Spec Try.prog 24 #[(.slice a_0.ptr a_0.len a_0.cap), (.slice b_1.ptr b_1.len b_1.cap)] h R :=
  fn_spec C_ok (f := 24) (fn := Try.f24) (args := [(.slice a_0.ptr a_0.len a_0.cap), (.slice b_1.ptr b_1.len b_1.cap)]) Try.func24 (by rw [Try.ntmps24]; exact Nat.le_of_ble_eq_true rfl) (cast (wellspringkeep_Same_api_Step_eq a_0 b_1 R h).symm hm)
/-- slices.Index[[]bool,bool] -/
abbrev slices_Index_bool_bool_id : FuncId := 25
noncomputable def slices_Index_bool_bool_m (s_0 : Sl) (v_1 : Bool) (R : Value → Heap → Prop) (h : Heap) : Prop :=
  LoopM (σ := Int) (fun s1 K1 h1 =>
  Br (decide (s1 < ((s_0.len : Nat) : Int)))
  (∃ a2 : Addr, (s_0.ptr = some a2 ∧ 0 ≤ s1 ∧ s1 < ((s_0.len : Nat) : Int)) ∧
  ∃ x3 : Bool, cellOf h1 (a2.add (s1.toNat * 1)) = some (.bool x3) ∧
  Br (v_1 == x3)
  (R (.int .i64 s1) h1)
  (K1 (IntKind.wrap .i64 (s1 + (1 : Int))) h1))
  (R (.int .i64 (-1 : Int)) h1)) (0 : Int) h
noncomputable def slices_Index_bool_bool_ann : Ann := (.two .n (.two (.two .n (.inn (.loop [(8, (.sc (.int .i64)))] [(4, 6), (8, 19)] .n))) .n))
theorem slices_Index_bool_bool_eq (s_0 : Sl) (v_1 : Bool) (R : Value → Heap → Prop) (h : Heap) : fnV C Try.f25 300 slices_Index_bool_bool_ann [(.slice s_0.ptr s_0.len s_0.cap), (.bool v_1)] R h = slices_Index_bool_bool_m s_0 v_1 R h := by kernel_rfl
theorem slices_Index_bool_bool_run (s_0 : Sl) (v_1 : Bool) {R : Value → Heap → Prop} {h : Heap} (hm : slices_Index_bool_bool_m s_0 v_1 R h) : Spec Try.prog 25 #[(.slice s_0.ptr s_0.len s_0.cap), (.bool v_1)] h R :=
  fn_spec C_ok (f := 25) (fn := Try.f25) (args := [(.slice s_0.ptr s_0.len s_0.cap), (.bool v_1)]) Try.func25 (by rw [Try.ntmps25]; exact Nat.le_of_ble_eq_true rfl) (cast (slices_Index_bool_bool_eq s_0 v_1 R h).symm hm)
/-- (*wellspring/inact.planner).single -/
abbrev inact_planner_single_id : FuncId := 26
noncomputable def inact_planner_single_m (p_0 : Option Addr) (r_1 : Sl) (R : Value → Heap → Prop) (h : Heap) : Prop :=
  LoopM (σ := Int × Int × Int) (fun s1 K1 h1 =>
  Br (decide (s1.2.2 < ((r_1.len : Nat) : Int)))
  (∃ a2 : Addr, (r_1.ptr = some a2 ∧ 0 ≤ s1.2.2 ∧ s1.2.2 < ((r_1.len : Nat) : Int)) ∧
  ∃ x3 : Int, cellOf h1 (a2.add (s1.2.2.toNat * 1)) = some (.int .i64 x3) ∧
  ∃ a4 : Addr, (p_0 = some a4) ∧
  ∃ x5 : Sl, cellOf h1 (a4.add 1) = some (.slice x5.ptr x5.len x5.cap) ∧
  ∃ a6 : Addr, (x5.ptr = some a6 ∧ 0 ≤ x3 ∧ x3 < ((x5.len : Nat) : Int)) ∧
  ∃ x7 : Bool, cellOf h1 (a6.add (x3.toNat * 1)) = some (.bool x7) ∧
  Br x7
  (K1 (x3, IntKind.wrap .i64 (s1.2.1 + (1 : Int)), IntKind.wrap .i64 (s1.2.2 + (1 : Int))) h1)
  (K1 (s1.1, s1.2.1, IntKind.wrap .i64 (s1.2.2 + (1 : Int))) h1))
  (R (.tuple #[(.int .i64 s1.1), (.bool (s1.2.1 == (1 : Int)))]) h1)) ((0 : Int), (0 : Int), (0 : Int)) h
noncomputable def inact_planner_single_ann : Ann := (.two .n (.two .n (.two (.two .n (.inn (.loop [(6, (.sc (.int .i64))), (7, (.sc (.int .i64))), (12, (.sc (.int .i64)))] [(6, 8), (9, 10), (12, 27)] .n))) .n)))
theorem inact_planner_single_eq (p_0 : Option Addr) (r_1 : Sl) (R : Value → Heap → Prop) (h : Heap) : fnV C Try.f26 300 inact_planner_single_ann [(.pointer p_0), (.slice r_1.ptr r_1.len r_1.cap)] R h = inact_planner_single_m p_0 r_1 R h := by kernel_rfl
theorem inact_planner_single_run (p_0 : Option Addr) (r_1 : Sl) {R : Value → Heap → Prop} {h : Heap} (hm : inact_planner_single_m p_0 r_1 R h) : Spec Try.prog 26 #[(.pointer p_0), (.slice r_1.ptr r_1.len r_1.cap)] h R :=
  fn_spec C_ok (f := 26) (fn := Try.f26) (args := [(.pointer p_0), (.slice r_1.ptr r_1.len r_1.cap)]) Try.func26 (by rw [Try.ntmps26]; exact Nat.le_of_ble_eq_true rfl) (cast (inact_planner_single_eq p_0 r_1 R h).symm hm)
end Go.Proofs.Ytlefjaiignpnaaa
