/- Part of the proofs that wellspringlaw25's laws answer true whatever the input reads, and leave it as it was; no condition. -/
import Derived.Test.YtpbdnfgjjpgpoaaHpA
import Derived.Test.YtpbdnfgjjpgpoaaProg
set_option linter.unusedVariables false
set_option linter.unusedSimpArgs false
namespace Go.Proofs.Ytpbdnfgjjpgpoaa
open Go Go.Vc Go.Proofs
set_option maxRecDepth 1000000

abbrev T_func : Nat := 1
abbrev T_int64 : Nat := 2
abbrev T_int : Nat := 3
abbrev T_bool : Nat := 4
abbrev T_uint8 : Nat := 5
abbrev T_abi_BoundsErrorCode : Nat := 6
abbrev T_runtime_boundsError : Nat := 8
abbrev T_string : Nat := 9
abbrev T_runtime_errorString : Nat := 10
abbrev T_runtime_plainError : Nat := 11
abbrev T_uintptr : Nat := 12
abbrev T_struct_msg_string_addr_uintptr : Nat := 13
abbrev T_runtime_errorAddressString : Nat := 14
abbrev T_ptr_runtime_TypeAssertionError : Nat := 15
abbrev T_ptr_runtime_PanicNilError : Nat := 16
abbrev T_ptr_abi_Type : Nat := 17
abbrev T_struct_typ_ptr_abi_Type : Nat := 18
abbrev T_maps_unhashableTypeError : Nat := 19
abbrev T_interface : Nat := 20
abbrev T_int32 : Nat := 21
abbrev T_sl_int : Nat := 22
abbrev T_func_int_int_int : Nat := 23
abbrev T_func_sl_int_int_sl_int : Nat := 24
abbrev T_2_int : Nat := 25
abbrev T_sl_2_int : Nat := 26
abbrev T_func_int_int_sl_int_sl_int : Nat := 27
abbrev T_func_sl_int_sl_int_bool : Nat := 28
abbrev T_func_sl_int_sl_int_int_bool : Nat := 29
abbrev T_func_sl_int_int_int : Nat := 30
abbrev T_func_bool : Nat := 31
abbrev T_func_int_int_sl_int_int_sl_int_bool : Nat := 32
abbrev T_complex128 : Nat := 33
abbrev T_func_int_complex128 : Nat := 34
abbrev T_func_sl_int_int_bool : Nat := 35
abbrev T_float64 : Nat := 36
abbrev T_func_complex128_complex128_float64 : Nat := 37
abbrev T_func_int_int_sl_int_int_bool : Nat := 38
abbrev T_func_int_int_int_bool : Nat := 39
abbrev T_sl_place_far : Nat := 40
abbrev T_64_bool : Nat := 41
abbrev T_struct_slot_int_way_float64 : Nat := 42
abbrev T_place_far : Nat := 43
abbrev T_func_int_int : Nat := 45
abbrev T_func_float64_float64_int : Nat := 46
abbrev T_func_place_far_place_far_int : Nat := 47
abbrev T_struct_X_int_Y_int : Nat := 48
abbrev T_wellspringref21_Spot : Nat := 49
abbrev T_func_int_wellspringref21_Spot : Nat := 50
abbrev T_ptr_plane_spiral : Nat := 52
abbrev T_func_ptr_plane_spiral : Nat := 53
abbrev T_plane_spiral : Nat := 55
abbrev T_func_uint_int : Nat := 57
abbrev T_uint : Nat := 58
abbrev T_func_float64_bool : Nat := 59
abbrev T_func_int_bool : Nat := 60
abbrev T_func_complex128_int_complex128 : Nat := 61
abbrev T_slices_sortedHint : Nat := 63
abbrev T_int_slices_sortedHint : Nat := 64
abbrev T_int_bool : Nat := 68
abbrev T_func_uint32_int : Nat := 70
abbrev T_uint32 : Nat := 71
abbrev T_func_uint64_int : Nat := 72
abbrev T_uint64 : Nat := 73
abbrev T_slices_xorshift : Nat := 74
abbrev T_func_int_uint : Nat := 75
abbrev T_func_uint64 : Nat := 76
abbrev T_ptr_int : Nat := 78
abbrev T_ptr_slices_xorshift : Nat := 80
abbrev T_int_int : Nat := 81
abbrev T_func_string : Nat := 83
abbrev T_runtime_TypeAssertionError : Nat := 85
abbrev T_0_ptr_runtime_PanicNilError : Nat := 86
abbrev T_struct_0_ptr_runtime_PanicNilError : Nat := 87
abbrev T_runtime_PanicNilError : Nat := 88
abbrev T_func_int : Nat := 89
abbrev T_abi_TFlag : Nat := 90
abbrev T_abi_Kind : Nat := 91
abbrev T_ptr_uint8 : Nat := 93
abbrev T_abi_NameOff : Nat := 94
abbrev T_abi_TypeOff : Nat := 95
abbrev T_abi_Type : Nat := 97
abbrev T_unsafe_Pointer : Nat := 98
noncomputable def tbl : Tbl := [
  ⟨.other, (.sc .any), 1, 0, [(Go.Value.tuple #[])]⟩,
  ⟨.fn, (.sc .fn), 1, 8, [Go.Value.nilFunc]⟩,
  ⟨.int .i64, (.sc (.int .i64)), 1, 8, [(Go.Value.int Go.IntKind.i64 0)]⟩,
  ⟨.int .i64, (.sc (.int .i64)), 1, 8, [(Go.Value.int Go.IntKind.i64 0)]⟩,
  ⟨.bool, (.sc .bool), 1, 1, [(Go.Value.bool Bool.false)]⟩,
  ⟨.int .u8, (.sc (.int .u8)), 1, 1, [(Go.Value.int Go.IntKind.u8 0)]⟩,
  ⟨.int .u8, (.sc (.int .u8)), 1, 1, [(Go.Value.int Go.IntKind.u8 0)]⟩,
  ⟨.struct [(0, 2), (1, 3), (2, 4), (3, 6)], (.agg [(.int .i64), (.int .i64), .bool, (.int .u8)]), 4, 24, [(Go.Value.int Go.IntKind.i64 0), (Go.Value.int Go.IntKind.i64 0), (Go.Value.bool Bool.false), (Go.Value.int Go.IntKind.u8 0)]⟩,
  ⟨.struct [(0, 2), (1, 3), (2, 4), (3, 6)], (.agg [(.int .i64), (.int .i64), .bool, (.int .u8)]), 4, 24, [(Go.Value.int Go.IntKind.i64 0), (Go.Value.int Go.IntKind.i64 0), (Go.Value.bool Bool.false), (Go.Value.int Go.IntKind.u8 0)]⟩,
  ⟨.str, (.sc .str), 1, 16, [(Go.Value.string (ByteArray.mk #[]))]⟩,
  ⟨.str, (.sc .str), 1, 16, [(Go.Value.string (ByteArray.mk #[]))]⟩,
  ⟨.str, (.sc .str), 1, 16, [(Go.Value.string (ByteArray.mk #[]))]⟩,
  ⟨.int .u64, (.sc (.int .u64)), 1, 8, [(Go.Value.int Go.IntKind.u64 0)]⟩,
  ⟨.struct [(0, 9), (1, 12)], (.agg [.str, (.int .u64)]), 2, 24, [(Go.Value.string (ByteArray.mk #[])), (Go.Value.int Go.IntKind.u64 0)]⟩,
  ⟨.struct [(0, 9), (1, 12)], (.agg [.str, (.int .u64)]), 2, 24, [(Go.Value.string (ByteArray.mk #[])), (Go.Value.int Go.IntKind.u64 0)]⟩,
  ⟨.ptr 85, (.sc .ptr), 1, 8, [(Go.Value.pointer Option.none)]⟩,
  ⟨.ptr 88, (.sc .ptr), 1, 8, [(Go.Value.pointer Option.none)]⟩,
  ⟨.ptr 97, (.sc .ptr), 1, 8, [(Go.Value.pointer Option.none)]⟩,
  ⟨.struct [(0, 17)], (.agg [.ptr]), 1, 8, [(Go.Value.pointer Option.none)]⟩,
  ⟨.struct [(0, 17)], (.agg [.ptr]), 1, 8, [(Go.Value.pointer Option.none)]⟩,
  ⟨.other, (.sc .any), 1, 16, [Go.Value.nilIface]⟩,
  ⟨.int .i32, (.sc (.int .i32)), 1, 4, [(Go.Value.int Go.IntKind.i32 0)]⟩,
  ⟨.slice 3, (.sc .slc), 1, 24, [(Go.Value.slice Option.none 0 0)]⟩,
  ⟨.fn, (.sc .fn), 1, 8, [Go.Value.nilFunc]⟩,
  ⟨.fn, (.sc .fn), 1, 8, [Go.Value.nilFunc]⟩,
  ⟨.array 2 3, (.arr (.int .i64)), 2, 16, [(Go.Value.int Go.IntKind.i64 0), (Go.Value.int Go.IntKind.i64 0)]⟩,
  ⟨.slice 25, (.sc .slc), 1, 24, [(Go.Value.slice Option.none 0 0)]⟩,
  ⟨.fn, (.sc .fn), 1, 8, [Go.Value.nilFunc]⟩,
  ⟨.fn, (.sc .fn), 1, 8, [Go.Value.nilFunc]⟩,
  ⟨.fn, (.sc .fn), 1, 8, [Go.Value.nilFunc]⟩,
  ⟨.fn, (.sc .fn), 1, 8, [Go.Value.nilFunc]⟩,
  ⟨.fn, (.sc .fn), 1, 8, [Go.Value.nilFunc]⟩,
  ⟨.fn, (.sc .fn), 1, 8, [Go.Value.nilFunc]⟩,
  ⟨.cpx, (.sc (.cpx .f64)), 1, 16, [(Go.Value.complex Go.FloatKind.f64 0 0)]⟩,
  ⟨.fn, (.sc .fn), 1, 8, [Go.Value.nilFunc]⟩,
  ⟨.fn, (.sc .fn), 1, 8, [Go.Value.nilFunc]⟩,
  ⟨.flt, (.sc (.flt .f64)), 1, 8, [(Go.Value.float Go.FloatKind.f64 0)]⟩,
  ⟨.fn, (.sc .fn), 1, 8, [Go.Value.nilFunc]⟩,
  ⟨.fn, (.sc .fn), 1, 8, [Go.Value.nilFunc]⟩,
  ⟨.fn, (.sc .fn), 1, 8, [Go.Value.nilFunc]⟩,
  ⟨.slice 43, (.sc .slc), 1, 24, [(Go.Value.slice Option.none 0 0)]⟩,
  ⟨.array 64 4, (.arr .bool), 64, 64, [(Go.Value.bool Bool.false), (Go.Value.bool Bool.false), (Go.Value.bool Bool.false), (Go.Value.bool Bool.false), (Go.Value.bool Bool.false), (Go.Value.bool Bool.false), (Go.Value.bool Bool.false), (Go.Value.bool Bool.false), (Go.Value.bool Bool.false), (Go.Value.bool Bool.false), (Go.Value.bool Bool.false), (Go.Value.bool Bool.false), (Go.Value.bool Bool.false), (Go.Value.bool Bool.false), (Go.Value.bool Bool.false), (Go.Value.bool Bool.false), (Go.Value.bool Bool.false), (Go.Value.bool Bool.false), (Go.Value.bool Bool.false), (Go.Value.bool Bool.false), (Go.Value.bool Bool.false), (Go.Value.bool Bool.false), (Go.Value.bool Bool.false), (Go.Value.bool Bool.false), (Go.Value.bool Bool.false), (Go.Value.bool Bool.false), (Go.Value.bool Bool.false), (Go.Value.bool Bool.false), (Go.Value.bool Bool.false), (Go.Value.bool Bool.false), (Go.Value.bool Bool.false), (Go.Value.bool Bool.false), (Go.Value.bool Bool.false), (Go.Value.bool Bool.false), (Go.Value.bool Bool.false), (Go.Value.bool Bool.false), (Go.Value.bool Bool.false), (Go.Value.bool Bool.false), (Go.Value.bool Bool.false), (Go.Value.bool Bool.false), (Go.Value.bool Bool.false), (Go.Value.bool Bool.false), (Go.Value.bool Bool.false), (Go.Value.bool Bool.false), (Go.Value.bool Bool.false), (Go.Value.bool Bool.false), (Go.Value.bool Bool.false), (Go.Value.bool Bool.false), (Go.Value.bool Bool.false), (Go.Value.bool Bool.false), (Go.Value.bool Bool.false), (Go.Value.bool Bool.false), (Go.Value.bool Bool.false), (Go.Value.bool Bool.false), (Go.Value.bool Bool.false), (Go.Value.bool Bool.false), (Go.Value.bool Bool.false), (Go.Value.bool Bool.false), (Go.Value.bool Bool.false), (Go.Value.bool Bool.false), (Go.Value.bool Bool.false), (Go.Value.bool Bool.false), (Go.Value.bool Bool.false), (Go.Value.bool Bool.false)]⟩,
  ⟨.struct [(0, 3), (1, 36)], (.agg [(.int .i64), (.flt .f64)]), 2, 16, [(Go.Value.int Go.IntKind.i64 0), (Go.Value.float Go.FloatKind.f64 0)]⟩,
  ⟨.struct [(0, 3), (1, 36)], (.agg [(.int .i64), (.flt .f64)]), 2, 16, [(Go.Value.int Go.IntKind.i64 0), (Go.Value.float Go.FloatKind.f64 0)]⟩,
  ⟨.fn, (.sc .fn), 1, 8, [Go.Value.nilFunc]⟩,
  ⟨.fn, (.sc .fn), 1, 8, [Go.Value.nilFunc]⟩,
  ⟨.fn, (.sc .fn), 1, 8, [Go.Value.nilFunc]⟩,
  ⟨.fn, (.sc .fn), 1, 8, [Go.Value.nilFunc]⟩,
  ⟨.struct [(0, 3), (1, 3)], (.agg [(.int .i64), (.int .i64)]), 2, 16, [(Go.Value.int Go.IntKind.i64 0), (Go.Value.int Go.IntKind.i64 0)]⟩,
  ⟨.struct [(0, 3), (1, 3)], (.agg [(.int .i64), (.int .i64)]), 2, 16, [(Go.Value.int Go.IntKind.i64 0), (Go.Value.int Go.IntKind.i64 0)]⟩,
  ⟨.fn, (.sc .fn), 1, 8, [Go.Value.nilFunc]⟩,
  ⟨.fn, (.sc .fn), 1, 8, [Go.Value.nilFunc]⟩,
  ⟨.ptr 55, (.sc .ptr), 1, 8, [(Go.Value.pointer Option.none)]⟩,
  ⟨.fn, (.sc .fn), 1, 8, [Go.Value.nilFunc]⟩,
  ⟨.struct [(0, 33), (1, 33), (2, 3), (3, 3), (4, 4)], (.agg [(.cpx .f64), (.cpx .f64), (.int .i64), (.int .i64), .bool]), 5, 56, [(Go.Value.complex Go.FloatKind.f64 0 0), (Go.Value.complex Go.FloatKind.f64 0 0), (Go.Value.int Go.IntKind.i64 0), (Go.Value.int Go.IntKind.i64 0), (Go.Value.bool Bool.false)]⟩,
  ⟨.struct [(0, 33), (1, 33), (2, 3), (3, 3), (4, 4)], (.agg [(.cpx .f64), (.cpx .f64), (.int .i64), (.int .i64), .bool]), 5, 56, [(Go.Value.complex Go.FloatKind.f64 0 0), (Go.Value.complex Go.FloatKind.f64 0 0), (Go.Value.int Go.IntKind.i64 0), (Go.Value.int Go.IntKind.i64 0), (Go.Value.bool Bool.false)]⟩,
  ⟨.fn, (.sc .fn), 1, 8, [Go.Value.nilFunc]⟩,
  ⟨.fn, (.sc .fn), 1, 8, [Go.Value.nilFunc]⟩,
  ⟨.int .u64, (.sc (.int .u64)), 1, 8, [(Go.Value.int Go.IntKind.u64 0)]⟩,
  ⟨.fn, (.sc .fn), 1, 8, [Go.Value.nilFunc]⟩,
  ⟨.fn, (.sc .fn), 1, 8, [Go.Value.nilFunc]⟩,
  ⟨.fn, (.sc .fn), 1, 8, [Go.Value.nilFunc]⟩,
  ⟨.fn, (.sc .fn), 1, 8, [Go.Value.nilFunc]⟩,
  ⟨.int .i64, (.sc (.int .i64)), 1, 8, [(Go.Value.int Go.IntKind.i64 0)]⟩,
  ⟨.other, (.sc .any), 1, 0, [(Go.Value.tuple #[(Go.Value.int Go.IntKind.i64 0), (Go.Value.int Go.IntKind.i64 0)])]⟩,
  ⟨.fn, (.sc .fn), 1, 8, [Go.Value.nilFunc]⟩,
  ⟨.fn, (.sc .fn), 1, 8, [Go.Value.nilFunc]⟩,
  ⟨.fn, (.sc .fn), 1, 8, [Go.Value.nilFunc]⟩,
  ⟨.other, (.sc .any), 1, 0, [(Go.Value.tuple #[(Go.Value.int Go.IntKind.i64 0), (Go.Value.bool Bool.false)])]⟩,
  ⟨.fn, (.sc .fn), 1, 8, [Go.Value.nilFunc]⟩,
  ⟨.fn, (.sc .fn), 1, 8, [Go.Value.nilFunc]⟩,
  ⟨.int .u32, (.sc (.int .u32)), 1, 4, [(Go.Value.int Go.IntKind.u32 0)]⟩,
  ⟨.fn, (.sc .fn), 1, 8, [Go.Value.nilFunc]⟩,
  ⟨.int .u64, (.sc (.int .u64)), 1, 8, [(Go.Value.int Go.IntKind.u64 0)]⟩,
  ⟨.int .u64, (.sc (.int .u64)), 1, 8, [(Go.Value.int Go.IntKind.u64 0)]⟩,
  ⟨.fn, (.sc .fn), 1, 8, [Go.Value.nilFunc]⟩,
  ⟨.fn, (.sc .fn), 1, 8, [Go.Value.nilFunc]⟩,
  ⟨.fn, (.sc .fn), 1, 8, [Go.Value.nilFunc]⟩,
  ⟨.ptr 3, (.sc .ptr), 1, 8, [(Go.Value.pointer Option.none)]⟩,
  ⟨.fn, (.sc .fn), 1, 8, [Go.Value.nilFunc]⟩,
  ⟨.ptr 74, (.sc .ptr), 1, 8, [(Go.Value.pointer Option.none)]⟩,
  ⟨.other, (.sc .any), 1, 0, [(Go.Value.tuple #[(Go.Value.int Go.IntKind.i64 0), (Go.Value.int Go.IntKind.i64 0)])]⟩,
  ⟨.fn, (.sc .fn), 1, 8, [Go.Value.nilFunc]⟩,
  ⟨.fn, (.sc .fn), 1, 8, [Go.Value.nilFunc]⟩,
  ⟨.struct [(0, 17), (1, 17), (2, 17), (3, 9)], (.agg [.ptr, .ptr, .ptr, .str]), 4, 40, [(Go.Value.pointer Option.none), (Go.Value.pointer Option.none), (Go.Value.pointer Option.none), (Go.Value.string (ByteArray.mk #[]))]⟩,
  ⟨.struct [(0, 17), (1, 17), (2, 17), (3, 9)], (.agg [.ptr, .ptr, .ptr, .str]), 4, 40, [(Go.Value.pointer Option.none), (Go.Value.pointer Option.none), (Go.Value.pointer Option.none), (Go.Value.string (ByteArray.mk #[]))]⟩,
  ⟨.array 0 16, (.arr .ptr), 0, 0, []⟩,
  ⟨.struct [(0, 86)], (.agg []), 0, 0, []⟩,
  ⟨.struct [(0, 86)], (.agg []), 0, 0, []⟩,
  ⟨.fn, (.sc .fn), 1, 8, [Go.Value.nilFunc]⟩,
  ⟨.int .u8, (.sc (.int .u8)), 1, 1, [(Go.Value.int Go.IntKind.u8 0)]⟩,
  ⟨.int .u8, (.sc (.int .u8)), 1, 1, [(Go.Value.int Go.IntKind.u8 0)]⟩,
  ⟨.fn, (.sc .fn), 1, 8, [Go.Value.nilFunc]⟩,
  ⟨.ptr 5, (.sc .ptr), 1, 8, [(Go.Value.pointer Option.none)]⟩,
  ⟨.int .i32, (.sc (.int .i32)), 1, 4, [(Go.Value.int Go.IntKind.i32 0)]⟩,
  ⟨.int .i32, (.sc (.int .i32)), 1, 4, [(Go.Value.int Go.IntKind.i32 0)]⟩,
  ⟨.struct [(0, 12), (1, 12), (2, 71), (3, 90), (4, 5), (5, 5), (6, 91), (7, 92), (8, 93), (9, 94), (10, 95)], (.agg [(.int .u64), (.int .u64), (.int .u32), (.int .u8), (.int .u8), (.int .u8), (.int .u8), .fn, .ptr, (.int .i32), (.int .i32)]), 11, 48, [(Go.Value.int Go.IntKind.u64 0), (Go.Value.int Go.IntKind.u64 0), (Go.Value.int Go.IntKind.u32 0), (Go.Value.int Go.IntKind.u8 0), (Go.Value.int Go.IntKind.u8 0), (Go.Value.int Go.IntKind.u8 0), (Go.Value.int Go.IntKind.u8 0), Go.Value.nilFunc, (Go.Value.pointer Option.none), (Go.Value.int Go.IntKind.i32 0), (Go.Value.int Go.IntKind.i32 0)]⟩,
  ⟨.struct [(0, 12), (1, 12), (2, 71), (3, 90), (4, 5), (5, 5), (6, 91), (7, 92), (8, 93), (9, 94), (10, 95)], (.agg [(.int .u64), (.int .u64), (.int .u32), (.int .u8), (.int .u8), (.int .u8), (.int .u8), .fn, .ptr, (.int .i32), (.int .i32)]), 11, 48, [(Go.Value.int Go.IntKind.u64 0), (Go.Value.int Go.IntKind.u64 0), (Go.Value.int Go.IntKind.u32 0), (Go.Value.int Go.IntKind.u8 0), (Go.Value.int Go.IntKind.u8 0), (Go.Value.int Go.IntKind.u8 0), (Go.Value.int Go.IntKind.u8 0), Go.Value.nilFunc, (Go.Value.pointer Option.none), (Go.Value.int Go.IntKind.i32 0), (Go.Value.int Go.IntKind.i32 0)]⟩,
  ⟨.other, (.sc .any), 1, 8, [(Go.Value.pointer Option.none)]⟩]
noncomputable def C : Ctx := { P := Try.prog, T := tbl, tup := [(0, []), (64, [(.sc (.int .i64)), (.sc (.int .i64))]), (68, [(.sc (.int .i64)), (.sc .bool)]), (81, [(.sc (.int .i64)), (.sc (.int .i64))])], fns := [false, false, true, true, true, true, true, true, true, true, true, true, true, true, true, true, true, true, true, true, true, true, true, true, true, true, true, true, true, true, true, true, true, true, true, true, true, true, true, true, true, true, true, true, true, true, true, true, true, true, false, false, false, false, false, false, false, false, false, false, false, false, false, false, false, false] }
theorem C_tbl : (List.range C.T.length).map (Tbl.seen C.P) = C.T.map Tbl.told := by kernel_rfl
theorem C_mixed : C.P.follows .mixedOrders = true := by kernel_rfl
theorem C_fns : (C.P.funcs.toList.map fun f => !(f.name == "runtime.NumGoroutine") && f.body.isSome) = C.fns := by kernel_rfl
theorem C_ok : C.Ok := { tbl := C_tbl, mixed := C_mixed, fns := C_fns }
/-- wellspring/wellspringlaw25.PlaceTells -/
abbrev wellspringlaw25_PlaceTells_id : FuncId := 3
noncomputable def wellspringlaw25_PlaceTells_m (object_0 : Int) (block_1 : Int) (l_2 : Sl) (id_3 : Int) (raw_4 : Sl) (R : Value → Heap → Prop) (h : Heap) : Prop :=
  CallM Try.prog 8 #[(.slice l_2.ptr l_2.len l_2.cap), (.int .i64 (70 : Int))] (.one (.sc .slc)) h fun r1 h1 =>
  CallM Try.prog 7 #[(.int .i64 object_0), (.int .i64 (16777216 : Int))] (.one (.sc (.int .i64))) h1 fun r2 h2 =>
  CallM Try.prog 7 #[(.int .i64 block_1), (.int .i64 (8 : Int))] (.one (.sc (.int .i64))) h2 fun r3 h3 =>
  CallM Try.prog 7 #[(.int .i64 object_0), (.int .i64 (40 : Int))] (.one (.sc (.int .i64))) h3 fun r4 h4 =>
  CallM Try.prog 7 #[(.int .i64 block_1), (.int .i64 (10 : Int))] (.one (.sc (.int .i64))) h4 fun r5 h5 =>
  RunsR Try.prog (Instr.buildSlice 26 3 #[(0, (.agg #[(.int .i64 object_0), (.int .i64 block_1)])), (1, (.agg #[(.int .i64 r2), (.int .i64 r3)])), (2, (.agg #[(.int .i64 r4), (.int .i64 (IntKind.wrap .i64 (r5 - (1 : Int))))]))]) (.one (.sc .slc)) h5 fun v6 h6 =>
  LoopM (σ := Int) (fun s7 K1 h7 =>
  Br (decide (s7 < ((v6.len : Nat) : Int)))
  (∃ a8 : Addr, (v6.ptr = some a8 ∧ 0 ≤ s7 ∧ s7 < ((v6.len : Nat) : Int)) ∧
  ∃ x9 : List (Int), (x9.length = 2 ∧ cellsAt h7 (a8.add (s7.toNat * 2)) 0 (x9.map (Sc.enc (.int .i64)))) ∧
  RunsA Try.prog (Instr.alloc 25 true (.tuple #[])) h7 fun a10 h8 =>
  Runs Try.prog (Instr.storeAt 25 (.pointer (some a10)) (.agg (x9.map (Sc.enc (.int .i64))).toArray)) h8 fun _ h9 =>
  CallM Try.prog 9 #[(.slice r1.ptr r1.len r1.cap), (.int .i64 (71 : Int))] (.one (.sc .slc)) h9 fun r11 h10 =>
  (0 ≤ (0 : Int) ∧ (0 : Int) < ((2 : Nat) : Int)) ∧
  ∃ x12 : Int, cellOf h10 (a10.add ((0 : Int).toNat * 1)) = some (.int .i64 x12) ∧
  (0 ≤ (1 : Int) ∧ (1 : Int) < ((2 : Nat) : Int)) ∧
  ∃ x13 : Int, cellOf h10 (a10.add ((1 : Int).toNat * 1)) = some (.int .i64 x13) ∧
  CallM Try.prog 10 #[(.int .i64 x12), (.int .i64 x13), (.slice r11.ptr r11.len r11.cap)] (.one (.sc .slc)) h10 fun r14 h11 =>
  (0 ≤ (0 : Int) ∧ (0 : Int) < ((2 : Nat) : Int)) ∧
  ∃ x15 : Int, cellOf h11 (a10.add ((0 : Int).toNat * 1)) = some (.int .i64 x15) ∧
  (0 ≤ (1 : Int) ∧ (1 : Int) < ((2 : Nat) : Int)) ∧
  ∃ x16 : Int, cellOf h11 (a10.add ((1 : Int).toNat * 1)) = some (.int .i64 x16) ∧
  CallM Try.prog 12 #[(.int .i64 x15), (.int .i64 x16), (.slice r1.ptr r1.len r1.cap)] (.one (.sc .slc)) h11 fun r17 h12 =>
  CallM Try.prog 11 #[(.slice r14.ptr r14.len r14.cap), (.slice r17.ptr r17.len r17.cap)] (.one (.sc .bool)) h12 fun r18 h13 =>
  Br (!r18) (R (.bool false) h13) (CallM Try.prog 13 #[(.slice r11.ptr r11.len r11.cap), (.slice r1.ptr r1.len r1.cap), (.int .i64 (71 : Int))] (.one (.sc .bool)) h13 fun r19 h14 =>
  Br (!r19)
  (R (.bool false) h14)
  (K1 (IntKind.wrap .i64 (s7 + (1 : Int))) h14)))
  (CallM Try.prog 14 #[(.slice raw_4.ptr raw_4.len raw_4.cap), (.int .i64 id_3)] (.one (.sc (.int .i64))) h7 fun r20 h15 =>
  CallM Try.prog 15 #[(.slice raw_4.ptr raw_4.len raw_4.cap), (.int .i64 id_3)] (.one (.sc (.int .i64))) h15 fun r21 h16 =>
  Br (r20 == r21) (CallM Try.prog 7 #[(.int .i64 id_3), (.int .i64 (1000 : Int))] (.one (.sc (.int .i64))) h16 fun r22 h17 =>
  CallM Try.prog 14 #[(.slice r1.ptr r1.len r1.cap), (.int .i64 r22)] (.one (.sc (.int .i64))) h17 fun r23 h18 =>
  CallM Try.prog 7 #[(.int .i64 id_3), (.int .i64 (1000 : Int))] (.one (.sc (.int .i64))) h18 fun r24 h19 =>
  CallM Try.prog 15 #[(.slice r1.ptr r1.len r1.cap), (.int .i64 r24)] (.one (.sc (.int .i64))) h19 fun r25 h20 =>
  Br (r23 == r25) (CallM Try.prog 16 #[] (.one (.sc .bool)) h20 fun r26 h21 =>
  R (.bool r26) h21) (R (.bool false) h20)) (R (.bool false) h16))) (0 : Int) h6
noncomputable def wellspringlaw25_PlaceTells_ann : Ann := (.two .n (.two .n (.two .n (.two (.two .n (.inn (.loop [(39, (.sc (.int .i64)))] [(10, 11), (14, 17), (39, 67)] .n))) .n))))
theorem wellspringlaw25_PlaceTells_eq (object_0 : Int) (block_1 : Int) (l_2 : Sl) (id_3 : Int) (raw_4 : Sl) (R : Value → Heap → Prop) (h : Heap) : fnV C Try.f3 300 wellspringlaw25_PlaceTells_ann [(.int .i64 object_0), (.int .i64 block_1), (.slice l_2.ptr l_2.len l_2.cap), (.int .i64 id_3), (.slice raw_4.ptr raw_4.len raw_4.cap)] R h = wellspringlaw25_PlaceTells_m object_0 block_1 l_2 id_3 raw_4 R h := by kernel_rfl
theorem wellspringlaw25_PlaceTells_run (object_0 : Int) (block_1 : Int) (l_2 : Sl) (id_3 : Int) (raw_4 : Sl) {R : Value → Heap → Prop} {h : Heap} (hm : wellspringlaw25_PlaceTells_m object_0 block_1 l_2 id_3 raw_4 R h) : Meets Try.prog 3 #[(.int .i64 object_0), (.int .i64 block_1), (.slice l_2.ptr l_2.len l_2.cap), (.int .i64 id_3), (.slice raw_4.ptr raw_4.len raw_4.cap)] h R :=
  fn_spec C_ok (f := 3) (fn := Try.f3) (args := [(.int .i64 object_0), (.int .i64 block_1), (.slice l_2.ptr l_2.len l_2.cap), (.int .i64 id_3), (.slice raw_4.ptr raw_4.len raw_4.cap)]) Try.func3 (by rw [Try.ntmps3]; exact Nat.le_of_ble_eq_true rfl) (cast (wellspringlaw25_PlaceTells_eq object_0 block_1 l_2 id_3 raw_4 R h).symm hm)
/-- wellspring/wellspringlaw25.PlaceNear -/
abbrev wellspringlaw25_PlaceNear_id : FuncId := 4
noncomputable def wellspringlaw25_PlaceNear_m (object_0 : Int) (block_1 : Int) (l_2 : Sl) (turn_3 : Int) (R : Value → Heap → Prop) (h : Heap) : Prop :=
  CallM Try.prog 7 #[(.int .i64 object_0), (.int .i64 (16777216 : Int))] (.one (.sc (.int .i64))) h fun r1 h1 =>
  CallM Try.prog 7 #[(.int .i64 block_1), (.int .i64 (8 : Int))] (.one (.sc (.int .i64))) h1 fun r2 h2 =>
  JoinM (σ := Sl) (fun s10 h8 =>
  CallM Try.prog 10 #[(.int .i64 r1), (.int .i64 r2), (.slice s10.ptr s10.len s10.cap)] (.one (.sc .slc)) h8 fun r11 h9 =>
  ((64 : Int) ≠ 0) ∧
  CallM Try.prog 17 #[(.int .i64 (Int.tmod (IntKind.wrap .i64 ((IntKind.wrap .i64 ((8 : Int) * r1)) + r2)) (64 : Int)))] (.one (.sc (.cpx .f64))) h9 fun r12 h10 =>
  LoopM (σ := Int) (fun s13 K4 h11 =>
  Br (decide (s13 < ((r11.len : Nat) : Int)))
  (∃ a14 : Addr, (r11.ptr = some a14 ∧ 0 ≤ s13 ∧ s13 < ((r11.len : Nat) : Int)) ∧
  ∃ x15 : Int, cellOf h11 (a14.add (s13.toNat * 1)) = some (.int .i64 x15) ∧
  CallM Try.prog 18 #[(.slice s10.ptr s10.len s10.cap), (.int .i64 x15)] (.one (.sc .bool)) h11 fun r16 h12 =>
  Br (!r16)
  (R (.bool false) h12)
  (Br (decide (s13 > (0 : Int)))
  (JoinM (σ := Nat × Nat) (fun s25 h17 =>
  Br ((FloatKind.format .f64).order s25.1 s25.2 == some .gt) (R (.bool false) h17) (Br ((FloatKind.format .f64).order s25.1 s25.2 == some .eq) (∃ a26 : Addr, (r11.ptr = some a26 ∧ 0 ≤ (IntKind.wrap .i64 (s13 - (1 : Int))) ∧ (IntKind.wrap .i64 (s13 - (1 : Int))) < ((r11.len : Nat) : Int)) ∧
  ∃ x27 : Int, cellOf h17 (a26.add ((IntKind.wrap .i64 (s13 - (1 : Int))).toNat * 1)) = some (.int .i64 x27) ∧
  ∃ a28 : Addr, (r11.ptr = some a28 ∧ 0 ≤ s13 ∧ s13 < ((r11.len : Nat) : Int)) ∧
  ∃ x29 : Int, cellOf h17 (a28.add (s13.toNat * 1)) = some (.int .i64 x29) ∧
  Br (decide (x27 ≥ x29))
  (R (.bool false) h17)
  (K4 (IntKind.wrap .i64 (s13 + (1 : Int))) h17)) (K4 (IntKind.wrap .i64 (s13 + (1 : Int))) h17)))
  (fun K5 =>
  ∃ a17 : Addr, (r11.ptr = some a17 ∧ 0 ≤ (IntKind.wrap .i64 (s13 - (1 : Int))) ∧ (IntKind.wrap .i64 (s13 - (1 : Int))) < ((r11.len : Nat) : Int)) ∧
  ∃ x18 : Int, cellOf h12 (a17.add ((IntKind.wrap .i64 (s13 - (1 : Int))).toNat * 1)) = some (.int .i64 x18) ∧
  ∃ a19 : Addr, (r11.ptr = some a19 ∧ 0 ≤ s13 ∧ s13 < ((r11.len : Nat) : Int)) ∧
  ∃ x20 : Int, cellOf h12 (a19.add (s13.toNat * 1)) = some (.int .i64 x20) ∧
  CallM Try.prog 17 #[(.int .i64 x18)] (.one (.sc (.cpx .f64))) h12 fun r21 h13 =>
  (Held.ok [(a19.add (s13.toNat * 1), (.int .i64 x20))] h13) ∧
  CallM Try.prog 19 #[(.complex .f64 r21.1 r21.2), (.complex .f64 r12.1 r12.2)] (.one (.sc (.flt .f64))) h13 fun r22 h14 =>
  (Held.ok [(a19.add (s13.toNat * 1), (.int .i64 x20))] h14) ∧
  CallM Try.prog 17 #[(.int .i64 x20)] (.one (.sc (.cpx .f64))) h14 fun r23 h15 =>
  (Held.ok [] h15) ∧
  CallM Try.prog 19 #[(.complex .f64 r23.1 r23.2), (.complex .f64 r12.1 r12.2)] (.one (.sc (.flt .f64))) h15 fun r24 h16 =>
  (Held.ok [] h16) ∧
  K5 (r22, r24) h16))
  (K4 (IntKind.wrap .i64 (s13 + (1 : Int))) h12)))
  (LoopM (σ := Int) (fun s30 K6 h18 =>
  Br (decide (s30 < ((s10.len : Nat) : Int)))
  (∃ a31 : Addr, (s10.ptr = some a31 ∧ 0 ≤ s30 ∧ s30 < ((s10.len : Nat) : Int)) ∧
  ∃ x32 : Int, cellOf h18 (a31.add (s30.toNat * 1)) = some (.int .i64 x32) ∧
  CallM Try.prog 18 #[(.slice r11.ptr r11.len r11.cap), (.int .i64 x32)] (.one (.sc .bool)) h18 fun r33 h19 =>
  Br (!r33)
  (R (.bool false) h19)
  (K6 (IntKind.wrap .i64 (s30 + (1 : Int))) h19))
  (CallM Try.prog 7 #[(.int .i64 turn_3), (.int .i64 (IntKind.wrap .i64 (((s10.len : Nat) : Int) + (1 : Int))))] (.one (.sc (.int .i64))) h18 fun r34 h20 =>
  (0 ≤ r34 ∧ r34 ≤ ((s10.len : Nat) : Int)) ∧
  RunsR Try.prog (Builtin.append_ #[22, 22] 22 #[(.slice none 0 0), (.slice (if s10.cap = r34.toNat then s10.ptr else s10.ptr.map (·.add (r34.toNat * 1))) (s10.len - r34.toNat) (s10.cap - r34.toNat))]) (.one (.sc .slc)) h20 fun v35 h21 =>
  RunsR Try.prog (Builtin.append_ #[22, 22] 22 #[(.slice v35.ptr v35.len v35.cap), (.slice s10.ptr s10.len s10.cap)]) (.one (.sc .slc)) h21 fun v36 h22 =>
  CallM Try.prog 10 #[(.int .i64 r1), (.int .i64 r2), (.slice v36.ptr v36.len v36.cap)] (.one (.sc .slc)) h22 fun r37 h23 =>
  CallM Try.prog 11 #[(.slice r11.ptr r11.len r11.cap), (.slice r37.ptr r37.len r37.cap)] (.one (.sc .bool)) h23 fun r38 h24 =>
  Br r38 (CallM Try.prog 16 #[] (.one (.sc .bool)) h24 fun r39 h25 =>
  R (.bool r39) h25) (R (.bool false) h24))) (0 : Int) h11)) (0 : Int) h10)
  (fun K1 =>
  LoopM (σ := Sl × Int) (fun s3 K2 h3 =>
  JoinM (σ := Unit) (fun _ h4 =>
  ∃ a5 : Addr, (l_2.ptr = some a5 ∧ 0 ≤ s3.2 ∧ s3.2 < ((l_2.len : Nat) : Int)) ∧
  ∃ x6 : Int, cellOf h4 (a5.add (s3.2.toNat * 1)) = some (.int .i64 x6) ∧
  CallM Try.prog 7 #[(.int .i64 x6), (.int .i64 (64 : Int))] (.one (.sc (.int .i64))) h4 fun r7 h5 =>
  RunsR Try.prog (Instr.buildSlice 22 1 #[(0, (.int .i64 r7))]) (.one (.sc .slc)) h5 fun v8 h6 =>
  RunsR Try.prog (Builtin.append_ #[22, 22] 22 #[(.slice s3.1.ptr s3.1.len s3.1.cap), (.slice v8.ptr v8.len v8.cap)]) (.one (.sc .slc)) h6 fun v9 h7 =>
  K2 ((⟨v9.ptr, v9.len, v9.cap⟩ : Sl), IntKind.wrap .i64 (s3.2 + (1 : Int))) h7)
  (fun K3 =>
  Br (decide (s3.2 < ((l_2.len : Nat) : Int))) (Br (decide (s3.2 < (70 : Int)))
  (K3 () h3)
  (K1 (⟨s3.1.ptr, s3.1.len, s3.1.cap⟩ : Sl) h3)) (K1 (⟨s3.1.ptr, s3.1.len, s3.1.cap⟩ : Sl) h3))) ((⟨none, 0, 0⟩ : Sl), (0 : Int)) h2)
noncomputable def wellspringlaw25_PlaceNear_ann : Ann := (.two .n (.two .n (.two .n (.two (.join [(9, (.sc .slc))] [(9, 11), (23, 41)] (.two .n (.inn (.loop [(9, (.sc .slc)), (10, (.sc (.int .i64)))] [(9, 11), (23, 41)] (.two (.join [] [(23, 31)] .n) .n))))) (.two .n (.two .n (.two (.two .n (.inn (.loop [(53, (.sc (.int .i64)))] [(8, 9), (13, 16), (53, 101)] (.two .n (.two .n (.two (.inn (.two .n (.two .n (.two .n (.two (.two (.join [(14, (.sc (.flt .f64))), (15, (.sc (.flt .f64)))] [(14, 16), (65, 80)] .n) .n) .n))))) .n)))))) (.two (.two .n (.inn (.loop [(103, (.sc (.int .i64)))] [(8, 9), (17, 18), (103, 112)] .n))) .n))))))))
theorem wellspringlaw25_PlaceNear_eq (object_0 : Int) (block_1 : Int) (l_2 : Sl) (turn_3 : Int) (R : Value → Heap → Prop) (h : Heap) : fnV C Try.f4 300 wellspringlaw25_PlaceNear_ann [(.int .i64 object_0), (.int .i64 block_1), (.slice l_2.ptr l_2.len l_2.cap), (.int .i64 turn_3)] R h = wellspringlaw25_PlaceNear_m object_0 block_1 l_2 turn_3 R h := by kernel_rfl
theorem wellspringlaw25_PlaceNear_run (object_0 : Int) (block_1 : Int) (l_2 : Sl) (turn_3 : Int) {R : Value → Heap → Prop} {h : Heap} (hm : wellspringlaw25_PlaceNear_m object_0 block_1 l_2 turn_3 R h) : Meets Try.prog 4 #[(.int .i64 object_0), (.int .i64 block_1), (.slice l_2.ptr l_2.len l_2.cap), (.int .i64 turn_3)] h R :=
  fn_spec C_ok (f := 4) (fn := Try.f4) (args := [(.int .i64 object_0), (.int .i64 block_1), (.slice l_2.ptr l_2.len l_2.cap), (.int .i64 turn_3)]) Try.func4 (by rw [Try.ntmps4]; exact Nat.le_of_ble_eq_true rfl) (cast (wellspringlaw25_PlaceNear_eq object_0 block_1 l_2 turn_3 R h).symm hm)
/-- wellspring/wellspringlaw25.PlaceSpreads -/
abbrev wellspringlaw25_PlaceSpreads_id : FuncId := 5
noncomputable def wellspringlaw25_PlaceSpreads_m (object_0 : Int) (block_1 : Int) (l_2 : Sl) (id_3 : Int) (R : Value → Heap → Prop) (h : Heap) : Prop :=
  CallM Try.prog 7 #[(.int .i64 object_0), (.int .i64 (16777216 : Int))] (.one (.sc (.int .i64))) h fun r1 h1 =>
  CallM Try.prog 7 #[(.int .i64 block_1), (.int .i64 (8 : Int))] (.one (.sc (.int .i64))) h1 fun r2 h2 =>
  JoinM (σ := Sl) (fun s10 h8 =>
  CallM Try.prog 10 #[(.int .i64 r1), (.int .i64 r2), (.slice s10.ptr s10.len s10.cap)] (.one (.sc .slc)) h8 fun r11 h9 =>
  Br (((r11.len : Nat) : Int) == (0 : Int))
  (Br (((s10.len : Nat) : Int) == (0 : Int)) (CallM Try.prog 14 #[(.slice r11.ptr r11.len r11.cap), (.int .i64 id_3)] (.one (.sc (.int .i64))) h9 fun r12 h10 =>
  Br (r12 == (-1 : Int)) (CallM Try.prog 16 #[] (.one (.sc .bool)) h10 fun r13 h11 =>
  R (.bool r13) h11) (R (.bool false) h10)) (R (.bool false) h9))
  (CallM Try.prog 7 #[(.int .i64 id_3), (.int .i64 (60000 : Int))] (.one (.sc (.int .i64))) h9 fun r14 h12 =>
  LoopM (σ := Sl × Int) (fun s15 K4 h13 =>
  Br (decide (s15.2 < ((r11.len : Nat) : Int)))
  (CallM Try.prog 14 #[(.slice r11.ptr r11.len r11.cap), (.int .i64 (IntKind.wrap .i64 (r14 + s15.2)))] (.one (.sc (.int .i64))) h13 fun r16 h14 =>
  JoinM (σ := Unit) (fun _ h17 =>
  RunsR Try.prog (Instr.buildSlice 22 1 #[(0, (.int .i64 r16))]) (.one (.sc .slc)) h17 fun v20 h18 =>
  RunsR Try.prog (Builtin.append_ #[22, 22] 22 #[(.slice s15.1.ptr s15.1.len s15.1.cap), (.slice v20.ptr v20.len v20.cap)]) (.one (.sc .slc)) h18 fun v21 h19 =>
  K4 ((⟨v21.ptr, v21.len, v21.cap⟩ : Sl), IntKind.wrap .i64 (s15.2 + (1 : Int))) h19)
  (fun K5 =>
  CallM Try.prog 18 #[(.slice s15.1.ptr s15.1.len s15.1.cap), (.int .i64 r16)] (.one (.sc .bool)) h14 fun r17 h15 =>
  Br r17 (R (.bool false) h15) (CallM Try.prog 18 #[(.slice s10.ptr s10.len s10.cap), (.int .i64 r16)] (.one (.sc .bool)) h15 fun r18 h16 =>
  Br (!r18)
  (R (.bool false) h16)
  (K5 () h16))))
  (CallM Try.prog 14 #[(.slice r11.ptr r11.len r11.cap), (.int .i64 r14)] (.one (.sc (.int .i64))) h13 fun r22 h20 =>
  CallM Try.prog 14 #[(.slice r11.ptr r11.len r11.cap), (.int .i64 (IntKind.wrap .i64 (r14 + ((r11.len : Nat) : Int))))] (.one (.sc (.int .i64))) h20 fun r23 h21 =>
  Br (r22 == r23) (CallM Try.prog 14 #[(.slice r11.ptr r11.len r11.cap), (.int .i64 (IntKind.wrap .i64 ((-1 : Int) - r14)))] (.one (.sc (.int .i64))) h21 fun r24 h22 =>
  Br (r24 == (-1 : Int)) (CallM Try.prog 16 #[] (.one (.sc .bool)) h22 fun r25 h23 =>
  R (.bool r25) h23) (R (.bool false) h22)) (R (.bool false) h21))) ((⟨none, 0, 0⟩ : Sl), (0 : Int)) h12))
  (fun K1 =>
  LoopM (σ := Sl × Int) (fun s3 K2 h3 =>
  JoinM (σ := Unit) (fun _ h4 =>
  ∃ a5 : Addr, (l_2.ptr = some a5 ∧ 0 ≤ s3.2 ∧ s3.2 < ((l_2.len : Nat) : Int)) ∧
  ∃ x6 : Int, cellOf h4 (a5.add (s3.2.toNat * 1)) = some (.int .i64 x6) ∧
  CallM Try.prog 7 #[(.int .i64 x6), (.int .i64 (64 : Int))] (.one (.sc (.int .i64))) h4 fun r7 h5 =>
  RunsR Try.prog (Instr.buildSlice 22 1 #[(0, (.int .i64 r7))]) (.one (.sc .slc)) h5 fun v8 h6 =>
  RunsR Try.prog (Builtin.append_ #[22, 22] 22 #[(.slice s3.1.ptr s3.1.len s3.1.cap), (.slice v8.ptr v8.len v8.cap)]) (.one (.sc .slc)) h6 fun v9 h7 =>
  K2 ((⟨v9.ptr, v9.len, v9.cap⟩ : Sl), IntKind.wrap .i64 (s3.2 + (1 : Int))) h7)
  (fun K3 =>
  Br (decide (s3.2 < ((l_2.len : Nat) : Int))) (Br (decide (s3.2 < (70 : Int)))
  (K3 () h3)
  (K1 (⟨s3.1.ptr, s3.1.len, s3.1.cap⟩ : Sl) h3)) (K1 (⟨s3.1.ptr, s3.1.len, s3.1.cap⟩ : Sl) h3))) ((⟨none, 0, 0⟩ : Sl), (0 : Int)) h2)
noncomputable def wellspringlaw25_PlaceSpreads_ann : Ann := (.two .n (.two .n (.two .n (.two (.join [(9, (.sc .slc))] [(9, 11), (19, 37)] (.two .n (.inn (.loop [(9, (.sc .slc)), (10, (.sc (.int .i64)))] [(9, 11), (19, 37)] (.two (.join [] [(19, 27)] .n) .n))))) (.two .n (.two .n (.two .n (.two .n (.two (.two .n (.inn (.loop [(12, (.sc .slc)), (60, (.sc (.int .i64)))] [(8, 9), (12, 15), (60, 82)] (.two .n (.two .n (.two (.inn (.two .n (.two .n (.two (.join [] [(8, 9), (68, 77)] .n) .n)))) .n)))))) .n)))))))))
theorem wellspringlaw25_PlaceSpreads_eq (object_0 : Int) (block_1 : Int) (l_2 : Sl) (id_3 : Int) (R : Value → Heap → Prop) (h : Heap) : fnV C Try.f5 300 wellspringlaw25_PlaceSpreads_ann [(.int .i64 object_0), (.int .i64 block_1), (.slice l_2.ptr l_2.len l_2.cap), (.int .i64 id_3)] R h = wellspringlaw25_PlaceSpreads_m object_0 block_1 l_2 id_3 R h := by kernel_rfl
theorem wellspringlaw25_PlaceSpreads_run (object_0 : Int) (block_1 : Int) (l_2 : Sl) (id_3 : Int) {R : Value → Heap → Prop} {h : Heap} (hm : wellspringlaw25_PlaceSpreads_m object_0 block_1 l_2 id_3 R h) : Meets Try.prog 5 #[(.int .i64 object_0), (.int .i64 block_1), (.slice l_2.ptr l_2.len l_2.cap), (.int .i64 id_3)] h R :=
  fn_spec C_ok (f := 5) (fn := Try.f5) (args := [(.int .i64 object_0), (.int .i64 block_1), (.slice l_2.ptr l_2.len l_2.cap), (.int .i64 id_3)]) Try.func5 (by rw [Try.ntmps5]; exact Nat.le_of_ble_eq_true rfl) (cast (wellspringlaw25_PlaceSpreads_eq object_0 block_1 l_2 id_3 R h).symm hm)
/-- wellspring/wellspringlaw25.PlaceMiddle -/
abbrev wellspringlaw25_PlaceMiddle_id : FuncId := 6
noncomputable def wellspringlaw25_PlaceMiddle_m (object_0 : Int) (block_1 : Int) (gone_2 : Int) (R : Value → Heap → Prop) (h : Heap) : Prop :=
  CallM Try.prog 7 #[(.int .i64 object_0), (.int .i64 (16777216 : Int))] (.one (.sc (.int .i64))) h fun r1 h1 =>
  CallM Try.prog 7 #[(.int .i64 block_1), (.int .i64 (8 : Int))] (.one (.sc (.int .i64))) h1 fun r2 h2 =>
  CallM Try.prog 7 #[(.int .i64 gone_2), (.int .i64 (64 : Int))] (.one (.sc (.int .i64))) h2 fun r3 h3 =>
  LoopM (σ := Sl × Sl × Int) (fun s4 K1 h4 =>
  Br (decide (s4.2.2 < (64 : Int)))
  (RunsR Try.prog (Instr.buildSlice 22 1 #[(0, (.int .i64 s4.2.2))]) (.one (.sc .slc)) h4 fun v5 h5 =>
  RunsR Try.prog (Builtin.append_ #[22, 22] 22 #[(.slice s4.1.ptr s4.1.len s4.1.cap), (.slice v5.ptr v5.len v5.cap)]) (.one (.sc .slc)) h5 fun v6 h6 =>
  Br (s4.2.2 != r3)
  (RunsR Try.prog (Instr.buildSlice 22 1 #[(0, (.int .i64 s4.2.2))]) (.one (.sc .slc)) h6 fun v7 h7 =>
  RunsR Try.prog (Builtin.append_ #[22, 22] 22 #[(.slice s4.2.1.ptr s4.2.1.len s4.2.1.cap), (.slice v7.ptr v7.len v7.cap)]) (.one (.sc .slc)) h7 fun v8 h8 =>
  K1 ((⟨v6.ptr, v6.len, v6.cap⟩ : Sl), (⟨v8.ptr, v8.len, v8.cap⟩ : Sl), IntKind.wrap .i64 (s4.2.2 + (1 : Int))) h8)
  (K1 ((⟨v6.ptr, v6.len, v6.cap⟩ : Sl), (⟨s4.2.1.ptr, s4.2.1.len, s4.2.1.cap⟩ : Sl), IntKind.wrap .i64 (s4.2.2 + (1 : Int))) h6))
  (CallM Try.prog 10 #[(.int .i64 r1), (.int .i64 r2), (.slice s4.1.ptr s4.1.len s4.1.cap)] (.one (.sc .slc)) h4 fun r9 h9 =>
  CallM Try.prog 10 #[(.int .i64 r1), (.int .i64 r2), (.slice s4.2.1.ptr s4.2.1.len s4.2.1.cap)] (.one (.sc .slc)) h9 fun r10 h10 =>
  JoinM (σ := Unit) (fun _ h11 =>
  LoopM (σ := Sl × Int) (fun s12 K3 h12 =>
  Br (decide (s12.2 < ((r9.len : Nat) : Int)))
  (∃ a13 : Addr, (r9.ptr = some a13 ∧ 0 ≤ s12.2 ∧ s12.2 < ((r9.len : Nat) : Int)) ∧
  ∃ x14 : Int, cellOf h12 (a13.add (s12.2.toNat * 1)) = some (.int .i64 x14) ∧
  Br (x14 != r3)
  (RunsR Try.prog (Instr.buildSlice 22 1 #[(0, (.int .i64 x14))]) (.one (.sc .slc)) h12 fun v15 h13 =>
  RunsR Try.prog (Builtin.append_ #[22, 22] 22 #[(.slice s12.1.ptr s12.1.len s12.1.cap), (.slice v15.ptr v15.len v15.cap)]) (.one (.sc .slc)) h13 fun v16 h14 =>
  K3 ((⟨v16.ptr, v16.len, v16.cap⟩ : Sl), IntKind.wrap .i64 (s12.2 + (1 : Int))) h14)
  (K3 ((⟨s12.1.ptr, s12.1.len, s12.1.cap⟩ : Sl), IntKind.wrap .i64 (s12.2 + (1 : Int))) h12))
  (∃ a17 : Addr, (r9.ptr = some a17 ∧ 0 ≤ (0 : Int) ∧ (0 : Int) < ((r9.len : Nat) : Int)) ∧
  ∃ x18 : Int, cellOf h12 (a17.add ((0 : Int).toNat * 1)) = some (.int .i64 x18) ∧
  ((64 : Int) ≠ 0) ∧
  Br (x18 == (Int.tmod (IntKind.wrap .i64 ((IntKind.wrap .i64 ((8 : Int) * r1)) + r2)) (64 : Int))) (CallM Try.prog 11 #[(.slice s12.1.ptr s12.1.len s12.1.cap), (.slice r10.ptr r10.len r10.cap)] (.one (.sc .bool)) h12 fun r19 h15 =>
  Br r19 (CallM Try.prog 16 #[] (.one (.sc .bool)) h15 fun r20 h16 =>
  R (.bool r20) h16) (R (.bool false) h15)) (R (.bool false) h12))) ((⟨none, 0, 0⟩ : Sl), (0 : Int)) h11)
  (fun K2 =>
  Br (((r9.len : Nat) : Int) != (64 : Int)) (R (.bool false) h10) (Br (((r10.len : Nat) : Int) != (63 : Int))
  (R (.bool false) h10)
  (K2 () h10))))) ((⟨none, 0, 0⟩ : Sl), (⟨none, 0, 0⟩ : Sl), (0 : Int)) h3
noncomputable def wellspringlaw25_PlaceMiddle_ann : Ann := (.two .n (.two .n (.two .n (.two .n (.two (.two .n (.inn (.loop [(7, (.sc .slc)), (8, (.sc .slc)), (10, (.sc (.int .i64)))] [(7, 9), (10, 11), (22, 37)] .n))) (.two .n (.two (.join [] [(6, 7), (45, 53)] .n) (.two .n (.two (.two .n (.inn (.loop [(13, (.sc .slc)), (55, (.sc (.int .i64)))] [(13, 14), (15, 16), (55, 67)] .n))) .n)))))))))
theorem wellspringlaw25_PlaceMiddle_eq (object_0 : Int) (block_1 : Int) (gone_2 : Int) (R : Value → Heap → Prop) (h : Heap) : fnV C Try.f6 300 wellspringlaw25_PlaceMiddle_ann [(.int .i64 object_0), (.int .i64 block_1), (.int .i64 gone_2)] R h = wellspringlaw25_PlaceMiddle_m object_0 block_1 gone_2 R h := by kernel_rfl
theorem wellspringlaw25_PlaceMiddle_run (object_0 : Int) (block_1 : Int) (gone_2 : Int) {R : Value → Heap → Prop} {h : Heap} (hm : wellspringlaw25_PlaceMiddle_m object_0 block_1 gone_2 R h) : Meets Try.prog 6 #[(.int .i64 object_0), (.int .i64 block_1), (.int .i64 gone_2)] h R :=
  fn_spec C_ok (f := 6) (fn := Try.f6) (args := [(.int .i64 object_0), (.int .i64 block_1), (.int .i64 gone_2)]) Try.func6 (by rw [Try.ntmps6]; exact Nat.le_of_ble_eq_true rfl) (cast (wellspringlaw25_PlaceMiddle_eq object_0 block_1 gone_2 R h).symm hm)
/-- wellspring/wellspringkeep.Within -/
abbrev wellspringkeep_Within_id : FuncId := 7
noncomputable def wellspringkeep_Within_m (x_0 : Int) (n_1 : Int) (R : Value → Heap → Prop) (h : Heap) : Prop :=
  (n_1 ≠ 0) ∧
  JoinM (σ := Int) (fun s1 h1 =>
  R (.int .i64 s1) h1)
  (fun K1 =>
  Br (decide ((Int.tmod x_0 n_1) < (0 : Int)))
  (K1 (IntKind.wrap .i64 ((Int.tmod x_0 n_1) + n_1)) h)
  (K1 (Int.tmod x_0 n_1) h))
noncomputable def wellspringkeep_Within_ann : Ann := (.two .n (.two .n (.two (.join [(0, (.sc (.int .i64)))] [(0, 1), (8, 13)] .n) .n)))
theorem wellspringkeep_Within_eq (x_0 : Int) (n_1 : Int) (R : Value → Heap → Prop) (h : Heap) : fnV C Try.f7 300 wellspringkeep_Within_ann [(.int .i64 x_0), (.int .i64 n_1)] R h = wellspringkeep_Within_m x_0 n_1 R h := by kernel_rfl
theorem wellspringkeep_Within_run (x_0 : Int) (n_1 : Int) {R : Value → Heap → Prop} {h : Heap} (hm : wellspringkeep_Within_m x_0 n_1 R h) : Meets Try.prog 7 #[(.int .i64 x_0), (.int .i64 n_1)] h R :=
  fn_spec C_ok (f := 7) (fn := Try.f7) (args := [(.int .i64 x_0), (.int .i64 n_1)]) Try.func7 (by rw [Try.ntmps7]; exact Nat.le_of_ble_eq_true rfl) (cast (wellspringkeep_Within_eq x_0 n_1 R h).symm hm)
/-- wellspring/wellspringlaw25.Slots -/
abbrev wellspringlaw25_Slots_id : FuncId := 8
noncomputable def wellspringlaw25_Slots_m (l_0 : Sl) (most_1 : Int) (R : Value → Heap → Prop) (h : Heap) : Prop :=
  JoinM (σ := Sl) (fun s14 h8 =>
  R (.slice s14.ptr s14.len s14.cap) h8)
  (fun K1 =>
  LoopM (σ := Sl × Int) (fun s1 K2 h1 =>
  JoinM (σ := Unit) (fun _ h2 =>
  ∃ a3 : Addr, (l_0.ptr = some a3 ∧ 0 ≤ s1.2 ∧ s1.2 < ((l_0.len : Nat) : Int)) ∧
  ∃ x4 : Int, cellOf h2 (a3.add (s1.2.toNat * 1)) = some (.int .i64 x4) ∧
  ((9 : Int) ≠ 0) ∧
  Br ((Int.tmod x4 (9 : Int)) == (0 : Int))
  (∃ a5 : Addr, (l_0.ptr = some a5 ∧ 0 ≤ s1.2 ∧ s1.2 < ((l_0.len : Nat) : Int)) ∧
  ∃ x6 : Int, cellOf h2 (a5.add (s1.2.toNat * 1)) = some (.int .i64 x6) ∧
  RunsR Try.prog (Instr.buildSlice 22 1 #[(0, (.int .i64 x6))]) (.one (.sc .slc)) h2 fun v7 h3 =>
  RunsR Try.prog (Builtin.append_ #[22, 22] 22 #[(.slice s1.1.ptr s1.1.len s1.1.cap), (.slice v7.ptr v7.len v7.cap)]) (.one (.sc .slc)) h3 fun v8 h4 =>
  K2 ((⟨v8.ptr, v8.len, v8.cap⟩ : Sl), IntKind.wrap .i64 (s1.2 + (1 : Int))) h4)
  (∃ a9 : Addr, (l_0.ptr = some a9 ∧ 0 ≤ s1.2 ∧ s1.2 < ((l_0.len : Nat) : Int)) ∧
  ∃ x10 : Int, cellOf h2 (a9.add (s1.2.toNat * 1)) = some (.int .i64 x10) ∧
  CallM Try.prog 7 #[(.int .i64 x10), (.int .i64 (64 : Int))] (.one (.sc (.int .i64))) h2 fun r11 h5 =>
  RunsR Try.prog (Instr.buildSlice 22 1 #[(0, (.int .i64 r11))]) (.one (.sc .slc)) h5 fun v12 h6 =>
  RunsR Try.prog (Builtin.append_ #[22, 22] 22 #[(.slice s1.1.ptr s1.1.len s1.1.cap), (.slice v12.ptr v12.len v12.cap)]) (.one (.sc .slc)) h6 fun v13 h7 =>
  K2 ((⟨v13.ptr, v13.len, v13.cap⟩ : Sl), IntKind.wrap .i64 (s1.2 + (1 : Int))) h7))
  (fun K3 =>
  Br (decide (s1.2 < ((l_0.len : Nat) : Int))) (Br (decide (s1.2 < most_1))
  (K3 () h1)
  (K1 (⟨s1.1.ptr, s1.1.len, s1.1.cap⟩ : Sl) h1)) (K1 (⟨s1.1.ptr, s1.1.len, s1.1.cap⟩ : Sl) h1))) ((⟨none, 0, 0⟩ : Sl), (0 : Int)) h)
noncomputable def wellspringlaw25_Slots_ann : Ann := (.two .n (.two .n (.two (.join [(5, (.sc .slc))] [(5, 39)] (.two .n (.inn (.loop [(5, (.sc .slc)), (6, (.sc (.int .i64)))] [(5, 39)] (.two (.join [] [(7, 16)] .n) .n))))) .n)))
theorem wellspringlaw25_Slots_eq (l_0 : Sl) (most_1 : Int) (R : Value → Heap → Prop) (h : Heap) : fnV C Try.f8 300 wellspringlaw25_Slots_ann [(.slice l_0.ptr l_0.len l_0.cap), (.int .i64 most_1)] R h = wellspringlaw25_Slots_m l_0 most_1 R h := by kernel_rfl
theorem wellspringlaw25_Slots_run (l_0 : Sl) (most_1 : Int) {R : Value → Heap → Prop} {h : Heap} (hm : wellspringlaw25_Slots_m l_0 most_1 R h) : Meets Try.prog 8 #[(.slice l_0.ptr l_0.len l_0.cap), (.int .i64 most_1)] h R :=
  fn_spec C_ok (f := 8) (fn := Try.f8) (args := [(.slice l_0.ptr l_0.len l_0.cap), (.int .i64 most_1)]) Try.func8 (by rw [Try.ntmps8]; exact Nat.le_of_ble_eq_true rfl) (cast (wellspringlaw25_Slots_eq l_0 most_1 R h).symm hm)
/-- wellspring/wellspringkeep.Spare[int] -/
abbrev wellspringkeep_Spare_int_id : FuncId := 9
noncomputable def wellspringkeep_Spare_int_m (l_0 : Sl) (mark_1 : Int) (R : Value → Heap → Prop) (h : Heap) : Prop :=
  RunsR Try.prog (Instr.makeSlice 22 (.int .i64 ((l_0.len : Nat) : Int)) (.int .i64 (IntKind.wrap .i64 (((l_0.len : Nat) : Int) + (2 : Int))))) (.one (.sc .slc)) h fun v1 h1 =>
  RunsR Try.prog (Builtin.copy_ #[22, 22] 3 #[(.slice v1.ptr v1.len v1.cap), (.slice l_0.ptr l_0.len l_0.cap)]) (.one (.sc (.int .i64))) h1 fun _ h2 =>
  (0 ≤ ((v1.cap : Nat) : Int) ∧ ((v1.cap : Nat) : Int) ≤ ((v1.cap : Nat) : Int)) ∧
  LoopM (σ := Int) (fun s3 K1 h3 =>
  Br (decide (s3 < ((((v1.cap : Nat) : Int).toNat : Nat) : Int)))
  (∃ a4 : Addr, (v1.ptr = some a4 ∧ 0 ≤ s3 ∧ s3 < ((((v1.cap : Nat) : Int).toNat : Nat) : Int)) ∧
  Runs Try.prog (Instr.storeAt 3 (.pointer (some (a4.add (s3.toNat * 1)))) (.int .i64 mark_1)) h3 fun _ h4 =>
  K1 (IntKind.wrap .i64 (s3 + (1 : Int))) h4)
  (R (.slice v1.ptr v1.len v1.cap) h3)) ((l_0.len : Nat) : Int) h2
noncomputable def wellspringkeep_Spare_int_ann : Ann := (.two .n (.two .n (.two .n (.two .n (.two (.two .n (.inn (.loop [(7, (.sc (.int .i64)))] [(7, 8), (23, 33)] .n))) .n)))))
theorem wellspringkeep_Spare_int_eq (l_0 : Sl) (mark_1 : Int) (R : Value → Heap → Prop) (h : Heap) : fnV C Try.f9 300 wellspringkeep_Spare_int_ann [(.slice l_0.ptr l_0.len l_0.cap), (.int .i64 mark_1)] R h = wellspringkeep_Spare_int_m l_0 mark_1 R h := by kernel_rfl
theorem wellspringkeep_Spare_int_run (l_0 : Sl) (mark_1 : Int) {R : Value → Heap → Prop} {h : Heap} (hm : wellspringkeep_Spare_int_m l_0 mark_1 R h) : Meets Try.prog 9 #[(.slice l_0.ptr l_0.len l_0.cap), (.int .i64 mark_1)] h R :=
  fn_spec C_ok (f := 9) (fn := Try.f9) (args := [(.slice l_0.ptr l_0.len l_0.cap), (.int .i64 mark_1)]) Try.func9 (by rw [Try.ntmps9]; exact Nat.le_of_ble_eq_true rfl) (cast (wellspringkeep_Spare_int_eq l_0 mark_1 R h).symm hm)
/-- wellspring/place.Order -/
abbrev place_Order_id : FuncId := 10
noncomputable def place_Order_m (object_0 : Int) (block_1 : Int) (live_2 : Sl) (R : Value → Heap → Prop) (h : Heap) : Prop :=
  JoinM (σ := Unit) (fun _ h1 =>
  ((64 : Int) ≠ 0) ∧
  CallM Try.prog 17 #[(.int .i64 (Int.tmod (IntKind.wrap .i64 ((IntKind.wrap .i64 ((8 : Int) * object_0)) + block_1)) (64 : Int)))] (.one (.sc (.cpx .f64))) h1 fun r2 h2 =>
  RunsA Try.prog (Instr.alloc 41 true (.tuple #[])) h2 fun a3 h3 =>
  LoopM (σ := Sl × Int) (fun s4 K2 h4 =>
  Br (decide (s4.2 < ((live_2.len : Nat) : Int)))
  (∃ a5 : Addr, (live_2.ptr = some a5 ∧ 0 ≤ s4.2 ∧ s4.2 < ((live_2.len : Nat) : Int)) ∧
  ∃ x6 : Int, cellOf h4 (a5.add (s4.2.toNat * 1)) = some (.int .i64 x6) ∧
  JoinM (σ := Bool) (fun s8 h5 =>
  Br s8
  ((0 ≤ x6 ∧ x6 < ((64 : Nat) : Int)) ∧
  Runs Try.prog (Instr.storeAt 4 (.pointer (some (a3.add (x6.toNat * 1)))) (.bool true)) h5 fun _ h6 =>
  CallM Try.prog 17 #[(.int .i64 x6)] (.one (.sc (.cpx .f64))) h6 fun r9 h7 =>
  CallM Try.prog 19 #[(.complex .f64 r9.1 r9.2), (.complex .f64 r2.1 r2.2)] (.one (.sc (.flt .f64))) h7 fun r10 h8 =>
  RunsR Try.prog (Instr.buildSlice 40 1 #[(0, (.agg #[(.int .i64 x6), (.float .f64 r10)]))]) (.one (.sc .slc)) h8 fun v11 h9 =>
  RunsR Try.prog (Builtin.append_ #[40, 40] 40 #[(.slice s4.1.ptr s4.1.len s4.1.cap), (.slice v11.ptr v11.len v11.cap)]) (.one (.sc .slc)) h9 fun v12 h10 =>
  K2 ((⟨v12.ptr, v12.len, v12.cap⟩ : Sl), IntKind.wrap .i64 (s4.2 + (1 : Int))) h10)
  (K2 ((⟨s4.1.ptr, s4.1.len, s4.1.cap⟩ : Sl), IntKind.wrap .i64 (s4.2 + (1 : Int))) h5))
  (fun K3 =>
  Br (decide (x6 ≥ (0 : Int))) (Br (decide (x6 < (64 : Int))) ((0 ≤ x6 ∧ x6 < ((64 : Nat) : Int)) ∧
  ∃ x7 : Bool, cellOf h4 (a3.add (x6.toNat * 1)) = some (.bool x7) ∧
  K3 (!x7) h4) (K3 false h4)) (K3 false h4)))
  (CallM Try.prog 20 #[(.slice s4.1.ptr s4.1.len s4.1.cap), (.func (.func 21) #[] #[])] (.many []) h4 fun _ h11 =>
  LoopM (σ := Sl × Int) (fun s14 K4 h12 =>
  Br (decide (s14.2 < ((s4.1.len : Nat) : Int)))
  (∃ a15 : Addr, (s4.1.ptr = some a15 ∧ 0 ≤ s14.2 ∧ s14.2 < ((s4.1.len : Nat) : Int)) ∧
  ∃ x16 : Int × Nat, cellsAt h12 (a15.add (s14.2.toNat * 2)) 0 [(.int .i64 x16.1), (.float .f64 x16.2)] ∧
  RunsA Try.prog (Instr.alloc 43 true (.tuple #[])) h12 fun a17 h13 =>
  Runs Try.prog (Instr.storeAt 43 (.pointer (some a17)) (.agg #[(.int .i64 x16.1), (.float .f64 x16.2)])) h13 fun _ h14 =>
  ∃ x18 : Int, cellOf h14 a17 = some (.int .i64 x18) ∧
  RunsR Try.prog (Instr.buildSlice 22 1 #[(0, (.int .i64 x18))]) (.one (.sc .slc)) h14 fun v19 h15 =>
  RunsR Try.prog (Builtin.append_ #[22, 22] 22 #[(.slice s14.1.ptr s14.1.len s14.1.cap), (.slice v19.ptr v19.len v19.cap)]) (.one (.sc .slc)) h15 fun v20 h16 =>
  K4 ((⟨v20.ptr, v20.len, v20.cap⟩ : Sl), IntKind.wrap .i64 (s14.2 + (1 : Int))) h16)
  (R (.slice s14.1.ptr s14.1.len s14.1.cap) h12)) ((⟨none, 0, 0⟩ : Sl), (0 : Int)) h11)) ((⟨none, 0, 0⟩ : Sl), (0 : Int)) h3)
  (fun K1 =>
  Br (decide (object_0 < (0 : Int))) (R (.slice none 0 0) h) (Br (decide (object_0 > (16777215 : Int))) (R (.slice none 0 0) h) (Br (decide (block_1 < (0 : Int))) (R (.slice none 0 0) h) (Br (decide (block_1 ≥ (8 : Int)))
  (R (.slice none 0 0) h)
  (K1 () h)))))
noncomputable def place_Order_ann : Ann := (.two .n (.two (.join [] [(6, 7), (15, 29)] .n) (.two .n (.two .n (.two .n (.two (.two .n (.inn (.loop [(8, (.sc .slc)), (37, (.sc (.int .i64)))] [(8, 9), (11, 12), (37, 65)] (.two .n (.two .n (.two (.inn (.two .n (.two (.join [(52, (.sc .bool))] [(41, 53)] .n) .n))) .n)))))) (.two .n (.two .n (.two (.two .n (.inn (.loop [(12, (.sc .slc)), (69, (.sc (.int .i64)))] [(12, 13), (14, 15), (69, 79)] .n))) .n)))))))))
theorem place_Order_eq (object_0 : Int) (block_1 : Int) (live_2 : Sl) (R : Value → Heap → Prop) (h : Heap) : fnV C Try.f10 300 place_Order_ann [(.int .i64 object_0), (.int .i64 block_1), (.slice live_2.ptr live_2.len live_2.cap)] R h = place_Order_m object_0 block_1 live_2 R h := by kernel_rfl
theorem place_Order_run (object_0 : Int) (block_1 : Int) (live_2 : Sl) {R : Value → Heap → Prop} {h : Heap} (hm : place_Order_m object_0 block_1 live_2 R h) : Meets Try.prog 10 #[(.int .i64 object_0), (.int .i64 block_1), (.slice live_2.ptr live_2.len live_2.cap)] h R :=
  fn_spec C_ok (f := 10) (fn := Try.f10) (args := [(.int .i64 object_0), (.int .i64 block_1), (.slice live_2.ptr live_2.len live_2.cap)]) Try.func10 (by rw [Try.ntmps10]; exact Nat.le_of_ble_eq_true rfl) (cast (place_Order_eq object_0 block_1 live_2 R h).symm hm)
/-- wellspring/wellspringkeep.Same[int] -/
abbrev wellspringkeep_Same_int_id : FuncId := 11
noncomputable def wellspringkeep_Same_int_m (a_0 : Sl) (b_1 : Sl) (R : Value → Heap → Prop) (h : Heap) : Prop :=
  Br (((a_0.len : Nat) : Int) != ((b_1.len : Nat) : Int))
  (R (.bool false) h)
  (LoopM (σ := Int) (fun s1 K1 h1 =>
  Br (decide (s1 < ((a_0.len : Nat) : Int)))
  (∃ a2 : Addr, (a_0.ptr = some a2 ∧ 0 ≤ s1 ∧ s1 < ((a_0.len : Nat) : Int)) ∧
  ∃ x3 : Int, cellOf h1 (a2.add (s1.toNat * 1)) = some (.int .i64 x3) ∧
  ∃ a4 : Addr, (b_1.ptr = some a4 ∧ 0 ≤ s1 ∧ s1 < ((b_1.len : Nat) : Int)) ∧
  ∃ x5 : Int, cellOf h1 (a4.add (s1.toNat * 1)) = some (.int .i64 x5) ∧
  Br (x3 != x5)
  (R (.bool false) h1)
  (K1 (IntKind.wrap .i64 (s1 + (1 : Int))) h1))
  (R (.bool true) h1)) (0 : Int) h)
noncomputable def wellspringkeep_Same_int_ann : Ann := (.two .n (.two .n (.two (.two .n (.inn (.loop [(13, (.sc (.int .i64)))] [(4, 6), (13, 26)] .n))) .n)))
theorem wellspringkeep_Same_int_eq (a_0 : Sl) (b_1 : Sl) (R : Value → Heap → Prop) (h : Heap) : fnV C Try.f11 300 wellspringkeep_Same_int_ann [(.slice a_0.ptr a_0.len a_0.cap), (.slice b_1.ptr b_1.len b_1.cap)] R h = wellspringkeep_Same_int_m a_0 b_1 R h := by kernel_rfl
theorem wellspringkeep_Same_int_run (a_0 : Sl) (b_1 : Sl) {R : Value → Heap → Prop} {h : Heap} (hm : wellspringkeep_Same_int_m a_0 b_1 R h) : Meets Try.prog 11 #[(.slice a_0.ptr a_0.len a_0.cap), (.slice b_1.ptr b_1.len b_1.cap)] h R :=
  fn_spec C_ok (f := 11) (fn := Try.f11) (args := [(.slice a_0.ptr a_0.len a_0.cap), (.slice b_1.ptr b_1.len b_1.cap)]) Try.func11 (by rw [Try.ntmps11]; exact Nat.le_of_ble_eq_true rfl) (cast (wellspringkeep_Same_int_eq a_0 b_1 R h).symm hm)
/-- wellspring/wellspringref21.Order -/
abbrev wellspringref21_Order_id : FuncId := 12
noncomputable def wellspringref21_Order_m (object_0 : Int) (block_1 : Int) (live_2 : Sl) (R : Value → Heap → Prop) (h : Heap) : Prop :=
  JoinM (σ := Unit) (fun _ h1 =>
  ((64 : Int) ≠ 0) ∧
  CallM Try.prog 25 #[(.int .i64 (Int.tmod (IntKind.wrap .i64 ((IntKind.wrap .i64 ((8 : Int) * object_0)) + block_1)) (64 : Int)))] (.one (.agg [(.int .i64), (.int .i64)])) h1 fun r2 h2 =>
  RunsA Try.prog (Instr.alloc 49 true (.tuple #[])) h2 fun a3 h3 =>
  Runs Try.prog (Instr.storeAt 49 (.pointer (some a3)) (.agg #[(.int .i64 r2.1), (.int .i64 r2.2)])) h3 fun _ h4 =>
  LoopM (σ := Sl × Int) (fun s4 K2 h5 =>
  Br (decide (s4.2 < ((live_2.len : Nat) : Int)))
  (∃ a5 : Addr, (live_2.ptr = some a5 ∧ 0 ≤ s4.2 ∧ s4.2 < ((live_2.len : Nat) : Int)) ∧
  ∃ x6 : Int, cellOf h5 (a5.add (s4.2.toNat * 1)) = some (.int .i64 x6) ∧
  JoinM (σ := Unit) (fun _ h7 =>
  JoinM (σ := Int) (fun s21 h14 =>
  (0 ≤ s21 ∧ s21 ≤ ((s4.1.len : Nat) : Int)) ∧
  (RunsR Try.prog (Instr.sliceAt 22 (.slice s4.1.ptr s4.1.len s4.1.cap) none (some (.int .i64 s21)) (some (.int .i64 s21))) (.one (.sc .slc)) h14 fun v22 h15 =>
  (Held.ok [] h15) ∧
  RunsR Try.prog (Instr.buildSlice 22 1 #[(0, (.int .i64 x6))]) (.one (.sc .slc)) h15 fun v23 h16 =>
  (Held.ok [] h16) ∧
  RunsR Try.prog (Builtin.append_ #[22, 22] 22 #[(.slice v23.ptr v23.len v23.cap), (.slice (if s4.1.cap = s21.toNat then s4.1.ptr else s4.1.ptr.map (·.add (s21.toNat * 1))) (s4.1.len - s21.toNat) (s4.1.cap - s21.toNat))]) (.one (.sc .slc)) h16 fun v24 h17 =>
  (Held.ok [] h17) ∧
  RunsR Try.prog (Builtin.append_ #[22, 22] 22 #[(.slice v22.ptr v22.len v22.cap), (.slice v24.ptr v24.len v24.cap)]) (.one (.sc .slc)) h17 fun v25 h18 =>
  (Held.ok [] h18) ∧
  K2 ((⟨v25.ptr, v25.len, v25.cap⟩ : Sl), IntKind.wrap .i64 (s4.2 + (1 : Int))) h18) ∧ (RunsR Try.prog (Instr.buildSlice 22 1 #[(0, (.int .i64 x6))]) (.one (.sc .slc)) h14 fun v26 h19 =>
  (Held.ok [] h19) ∧
  (RunsR Try.prog (Instr.sliceAt 22 (.slice s4.1.ptr s4.1.len s4.1.cap) none (some (.int .i64 s21)) (some (.int .i64 s21))) (.one (.sc .slc)) h19 fun v27 h20 =>
  (Held.ok [] h20) ∧
  RunsR Try.prog (Builtin.append_ #[22, 22] 22 #[(.slice v26.ptr v26.len v26.cap), (.slice (if s4.1.cap = s21.toNat then s4.1.ptr else s4.1.ptr.map (·.add (s21.toNat * 1))) (s4.1.len - s21.toNat) (s4.1.cap - s21.toNat))]) (.one (.sc .slc)) h20 fun v28 h21 =>
  (Held.ok [] h21) ∧
  RunsR Try.prog (Builtin.append_ #[22, 22] 22 #[(.slice v27.ptr v27.len v27.cap), (.slice v28.ptr v28.len v28.cap)]) (.one (.sc .slc)) h21 fun v29 h22 =>
  (Held.ok [] h22) ∧
  K2 ((⟨v29.ptr, v29.len, v29.cap⟩ : Sl), IntKind.wrap .i64 (s4.2 + (1 : Int))) h22) ∧ (RunsR Try.prog (Builtin.append_ #[22, 22] 22 #[(.slice v26.ptr v26.len v26.cap), (.slice (if s4.1.cap = s21.toNat then s4.1.ptr else s4.1.ptr.map (·.add (s21.toNat * 1))) (s4.1.len - s21.toNat) (s4.1.cap - s21.toNat))]) (.one (.sc .slc)) h19 fun v30 h23 =>
  (Held.ok [] h23) ∧
  RunsR Try.prog (Instr.sliceAt 22 (.slice s4.1.ptr s4.1.len s4.1.cap) none (some (.int .i64 s21)) (some (.int .i64 s21))) (.one (.sc .slc)) h23 fun v31 h24 =>
  (Held.ok [] h24) ∧
  RunsR Try.prog (Builtin.append_ #[22, 22] 22 #[(.slice v31.ptr v31.len v31.cap), (.slice v30.ptr v30.len v30.cap)]) (.one (.sc .slc)) h24 fun v32 h25 =>
  (Held.ok [] h25) ∧
  K2 ((⟨v32.ptr, v32.len, v32.cap⟩ : Sl), IntKind.wrap .i64 (s4.2 + (1 : Int))) h25)))
  (fun K4 =>
  LoopM (σ := Int) (fun s9 K5 h8 =>
  Br (decide (s9 > (0 : Int)))
  (JoinM (σ := Int × Int) (fun s18 h13 =>
  Br (decide (s18.1 > s18.2)) (K4 s9 h13) (Br (s18.1 == s18.2) (∃ a19 : Addr, (s4.1.ptr = some a19 ∧ 0 ≤ (IntKind.wrap .i64 (s9 - (1 : Int))) ∧ (IntKind.wrap .i64 (s9 - (1 : Int))) < ((s4.1.len : Nat) : Int)) ∧
  ∃ x20 : Int, cellOf h13 (a19.add ((IntKind.wrap .i64 (s9 - (1 : Int))).toNat * 1)) = some (.int .i64 x20) ∧
  Br (decide (x6 > x20))
  (K4 s9 h13)
  (K5 (IntKind.wrap .i64 (s9 - (1 : Int))) h13)) (K5 (IntKind.wrap .i64 (s9 - (1 : Int))) h13)))
  (fun K6 =>
  ∃ x10 : Int × Int, cellsAt h8 a3 0 [(.int .i64 x10.1), (.int .i64 x10.2)] ∧
  ∃ a11 : Addr, (s4.1.ptr = some a11 ∧ 0 ≤ (IntKind.wrap .i64 (s9 - (1 : Int))) ∧ (IntKind.wrap .i64 (s9 - (1 : Int))) < ((s4.1.len : Nat) : Int)) ∧
  ∃ x12 : Int, cellOf h8 (a11.add ((IntKind.wrap .i64 (s9 - (1 : Int))).toNat * 1)) = some (.int .i64 x12) ∧
  ∃ x13 : Int × Int, cellsAt h8 a3 0 [(.int .i64 x13.1), (.int .i64 x13.2)] ∧
  CallM Try.prog 25 #[(.int .i64 x6)] (.one (.agg [(.int .i64), (.int .i64)])) h8 fun r14 h9 =>
  (Held.ok [(a3, (.int .i64 x13.1)), (a3.add 1, (.int .i64 x13.2)), (a11.add ((IntKind.wrap .i64 (s9 - (1 : Int))).toNat * 1), (.int .i64 x12)), (a3, (.int .i64 x10.1)), (a3.add 1, (.int .i64 x10.2))] h9) ∧
  CallM Try.prog 26 #[(.agg #[(.int .i64 r14.1), (.int .i64 r14.2)]), (.agg #[(.int .i64 x10.1), (.int .i64 x10.2)])] (.one (.sc (.int .i64))) h9 fun r15 h10 =>
  (Held.ok [(a3, (.int .i64 x13.1)), (a3.add 1, (.int .i64 x13.2)), (a11.add ((IntKind.wrap .i64 (s9 - (1 : Int))).toNat * 1), (.int .i64 x12))] h10) ∧
  CallM Try.prog 25 #[(.int .i64 x12)] (.one (.agg [(.int .i64), (.int .i64)])) h10 fun r16 h11 =>
  (Held.ok [(a3, (.int .i64 x13.1)), (a3.add 1, (.int .i64 x13.2))] h11) ∧
  CallM Try.prog 26 #[(.agg #[(.int .i64 r16.1), (.int .i64 r16.2)]), (.agg #[(.int .i64 x13.1), (.int .i64 x13.2)])] (.one (.sc (.int .i64))) h11 fun r17 h12 =>
  (Held.ok [] h12) ∧
  K6 (r15, r17) h12))
  (K4 s9 h8)) ((s4.1.len : Nat) : Int) h7))
  (fun K3 =>
  Br (decide (x6 < (0 : Int))) (K2 ((⟨s4.1.ptr, s4.1.len, s4.1.cap⟩ : Sl), IntKind.wrap .i64 (s4.2 + (1 : Int))) h5) (Br (decide (x6 ≥ (64 : Int))) (K2 ((⟨s4.1.ptr, s4.1.len, s4.1.cap⟩ : Sl), IntKind.wrap .i64 (s4.2 + (1 : Int))) h5) (CallM Try.prog 18 #[(.slice s4.1.ptr s4.1.len s4.1.cap), (.int .i64 x6)] (.one (.sc .bool)) h5 fun r7 h6 =>
  Br r7
  (K2 ((⟨s4.1.ptr, s4.1.len, s4.1.cap⟩ : Sl), IntKind.wrap .i64 (s4.2 + (1 : Int))) h6)
  (K3 () h6)))))
  (R (.slice s4.1.ptr s4.1.len s4.1.cap) h5)) ((⟨none, 0, 0⟩ : Sl), (0 : Int)) h4)
  (fun K1 =>
  Br (decide (object_0 < (0 : Int))) (R (.slice none 0 0) h) (Br (decide (object_0 > (16777215 : Int))) (R (.slice none 0 0) h) (Br (decide (block_1 < (0 : Int))) (R (.slice none 0 0) h) (Br (decide (block_1 ≥ (8 : Int)))
  (R (.slice none 0 0) h)
  (K1 () h)))))
noncomputable def wellspringref21_Order_ann : Ann := (.two .n (.two (.join [] [(6, 7), (14, 28)] .n) (.two .n (.two .n (.two (.two .n (.inn (.loop [(8, (.sc .slc)), (36, (.sc (.int .i64)))] [(8, 9), (10, 14), (36, 98)] (.two .n (.two .n (.two (.inn (.two .n (.two (.join [] [(40, 51)] .n) (.two .n (.two (.join [(11, (.sc (.int .i64)))] [(11, 14), (53, 86)] (.inn (.loop [(11, (.sc (.int .i64)))] [(11, 14), (53, 86)] (.two .n (.inn (.two (.join [(12, (.sc (.int .i64))), (13, (.sc (.int .i64)))] [(12, 14), (55, 67)] .n) .n)))))) .n))))) .n)))))) .n)))))
theorem wellspringref21_Order_eq (object_0 : Int) (block_1 : Int) (live_2 : Sl) (R : Value → Heap → Prop) (h : Heap) : fnV C Try.f12 300 wellspringref21_Order_ann [(.int .i64 object_0), (.int .i64 block_1), (.slice live_2.ptr live_2.len live_2.cap)] R h = wellspringref21_Order_m object_0 block_1 live_2 R h := by kernel_rfl
theorem wellspringref21_Order_run (object_0 : Int) (block_1 : Int) (live_2 : Sl) {R : Value → Heap → Prop} {h : Heap} (hm : wellspringref21_Order_m object_0 block_1 live_2 R h) : Meets Try.prog 12 #[(.int .i64 object_0), (.int .i64 block_1), (.slice live_2.ptr live_2.len live_2.cap)] h R :=
  fn_spec C_ok (f := 12) (fn := Try.f12) (args := [(.int .i64 object_0), (.int .i64 block_1), (.slice live_2.ptr live_2.len live_2.cap)]) Try.func12 (by rw [Try.ntmps12]; exact Nat.le_of_ble_eq_true rfl) (cast (wellspringref21_Order_eq object_0 block_1 live_2 R h).symm hm)
/-- wellspring/wellspringkeep.Kept[int] -/
abbrev wellspringkeep_Kept_int_id : FuncId := 13
noncomputable def wellspringkeep_Kept_int_m (l_0 : Sl) (was_1 : Sl) (mark_2 : Int) (R : Value → Heap → Prop) (h : Heap) : Prop :=
  (0 ≤ ((l_0.cap : Nat) : Int) ∧ ((l_0.cap : Nat) : Int) ≤ ((l_0.cap : Nat) : Int)) ∧
  CallM Try.prog 11 #[(.slice l_0.ptr l_0.len l_0.cap), (.slice was_1.ptr was_1.len was_1.cap)] (.one (.sc .bool)) h fun r1 h1 =>
  Br (!r1)
  (R (.bool false) h1)
  (LoopM (σ := Int) (fun s2 K1 h2 =>
  Br (decide (s2 < ((((l_0.cap : Nat) : Int).toNat : Nat) : Int)))
  (∃ a3 : Addr, (l_0.ptr = some a3 ∧ 0 ≤ s2 ∧ s2 < ((((l_0.cap : Nat) : Int).toNat : Nat) : Int)) ∧
  ∃ x4 : Int, cellOf h2 (a3.add (s2.toNat * 1)) = some (.int .i64 x4) ∧
  Br (x4 != mark_2)
  (R (.bool false) h2)
  (K1 (IntKind.wrap .i64 (s2 + (1 : Int))) h2))
  (R (.bool true) h2)) ((l_0.len : Nat) : Int) h1)
noncomputable def wellspringkeep_Kept_int_ann : Ann := (.two .n (.two .n (.two .n (.two (.two .n (.inn (.loop [(8, (.sc (.int .i64)))] [(6, 7), (8, 9), (19, 31)] .n))) .n))))
theorem wellspringkeep_Kept_int_eq (l_0 : Sl) (was_1 : Sl) (mark_2 : Int) (R : Value → Heap → Prop) (h : Heap) : fnV C Try.f13 300 wellspringkeep_Kept_int_ann [(.slice l_0.ptr l_0.len l_0.cap), (.slice was_1.ptr was_1.len was_1.cap), (.int .i64 mark_2)] R h = wellspringkeep_Kept_int_m l_0 was_1 mark_2 R h := by kernel_rfl
theorem wellspringkeep_Kept_int_run (l_0 : Sl) (was_1 : Sl) (mark_2 : Int) {R : Value → Heap → Prop} {h : Heap} (hm : wellspringkeep_Kept_int_m l_0 was_1 mark_2 R h) : Meets Try.prog 13 #[(.slice l_0.ptr l_0.len l_0.cap), (.slice was_1.ptr was_1.len was_1.cap), (.int .i64 mark_2)] h R :=
  fn_spec C_ok (f := 13) (fn := Try.f13) (args := [(.slice l_0.ptr l_0.len l_0.cap), (.slice was_1.ptr was_1.len was_1.cap), (.int .i64 mark_2)]) Try.func13 (by rw [Try.ntmps13]; exact Nat.le_of_ble_eq_true rfl) (cast (wellspringkeep_Kept_int_eq l_0 was_1 mark_2 R h).symm hm)
/-- wellspring/place.Of -/
abbrev place_Of_id : FuncId := 14
noncomputable def place_Of_m (order_0 : Sl) (id_1 : Int) (R : Value → Heap → Prop) (h : Heap) : Prop :=
  JoinM (σ := Unit) (fun _ h1 =>
  (((order_0.len : Nat) : Int) ≠ 0) ∧
  ∃ a2 : Addr, (order_0.ptr = some a2 ∧ 0 ≤ (Int.tmod id_1 ((order_0.len : Nat) : Int)) ∧ (Int.tmod id_1 ((order_0.len : Nat) : Int)) < ((order_0.len : Nat) : Int)) ∧
  ∃ x3 : Int, cellOf h1 (a2.add ((Int.tmod id_1 ((order_0.len : Nat) : Int)).toNat * 1)) = some (.int .i64 x3) ∧
  R (.int .i64 x3) h1)
  (fun K1 =>
  Br (((order_0.len : Nat) : Int) == (0 : Int)) (R (.int .i64 (-1 : Int)) h) (Br (decide (id_1 < (0 : Int)))
  (R (.int .i64 (-1 : Int)) h)
  (K1 () h)))
noncomputable def place_Of_ann : Ann := (.two .n (.two (.join [] [(4, 12)] .n) .n))
theorem place_Of_eq (order_0 : Sl) (id_1 : Int) (R : Value → Heap → Prop) (h : Heap) : fnV C Try.f14 300 place_Of_ann [(.slice order_0.ptr order_0.len order_0.cap), (.int .i64 id_1)] R h = place_Of_m order_0 id_1 R h := by kernel_rfl
theorem place_Of_run (order_0 : Sl) (id_1 : Int) {R : Value → Heap → Prop} {h : Heap} (hm : place_Of_m order_0 id_1 R h) : Meets Try.prog 14 #[(.slice order_0.ptr order_0.len order_0.cap), (.int .i64 id_1)] h R :=
  fn_spec C_ok (f := 14) (fn := Try.f14) (args := [(.slice order_0.ptr order_0.len order_0.cap), (.int .i64 id_1)]) Try.func14 (by rw [Try.ntmps14]; exact Nat.le_of_ble_eq_true rfl) (cast (place_Of_eq order_0 id_1 R h).symm hm)
/-- wellspring/wellspringref21.Of -/
abbrev wellspringref21_Of_id : FuncId := 15
noncomputable def wellspringref21_Of_m (order_0 : Sl) (id_1 : Int) (R : Value → Heap → Prop) (h : Heap) : Prop :=
  JoinM (σ := Unit) (fun _ h1 =>
  (((order_0.len : Nat) : Int) ≠ 0) ∧
  ∃ a2 : Addr, (order_0.ptr = some a2 ∧ 0 ≤ (Int.tmod id_1 ((order_0.len : Nat) : Int)) ∧ (Int.tmod id_1 ((order_0.len : Nat) : Int)) < ((order_0.len : Nat) : Int)) ∧
  ∃ x3 : Int, cellOf h1 (a2.add ((Int.tmod id_1 ((order_0.len : Nat) : Int)).toNat * 1)) = some (.int .i64 x3) ∧
  R (.int .i64 x3) h1)
  (fun K1 =>
  Br (((order_0.len : Nat) : Int) == (0 : Int)) (R (.int .i64 (-1 : Int)) h) (Br (decide (id_1 < (0 : Int)))
  (R (.int .i64 (-1 : Int)) h)
  (K1 () h)))
noncomputable def wellspringref21_Of_ann : Ann := (.two .n (.two (.join [] [(4, 12)] .n) .n))
theorem wellspringref21_Of_eq (order_0 : Sl) (id_1 : Int) (R : Value → Heap → Prop) (h : Heap) : fnV C Try.f15 300 wellspringref21_Of_ann [(.slice order_0.ptr order_0.len order_0.cap), (.int .i64 id_1)] R h = wellspringref21_Of_m order_0 id_1 R h := by kernel_rfl
theorem wellspringref21_Of_run (order_0 : Sl) (id_1 : Int) {R : Value → Heap → Prop} {h : Heap} (hm : wellspringref21_Of_m order_0 id_1 R h) : Meets Try.prog 15 #[(.slice order_0.ptr order_0.len order_0.cap), (.int .i64 id_1)] h R :=
  fn_spec C_ok (f := 15) (fn := Try.f15) (args := [(.slice order_0.ptr order_0.len order_0.cap), (.int .i64 id_1)]) Try.func15 (by rw [Try.ntmps15]; exact Nat.le_of_ble_eq_true rfl) (cast (wellspringref21_Of_eq order_0 id_1 R h).symm hm)
/-- wellspring/wellspringlaw25.wakes -/
abbrev wellspringlaw25_wakes_id : FuncId := 16
noncomputable def wellspringlaw25_wakes_m  (R : Value → Heap → Prop) (h : Heap) : Prop :=
  RunsR Try.prog (Instr.buildSlice 22 2 #[(0, (.int .i64 (1 : Int))), (1, (.int .i64 (0 : Int)))]) (.one (.sc .slc)) h fun v1 h1 =>
  CallM Try.prog 10 #[(.int .i64 (0 : Int)), (.int .i64 (0 : Int)), (.slice v1.ptr v1.len v1.cap)] (.one (.sc .slc)) h1 fun r2 h2 =>
  RunsR Try.prog (Instr.buildSlice 22 2 #[(0, (.int .i64 (0 : Int))), (1, (.int .i64 (1 : Int)))]) (.one (.sc .slc)) h2 fun v3 h3 =>
  CallM Try.prog 11 #[(.slice r2.ptr r2.len r2.cap), (.slice v3.ptr v3.len v3.cap)] (.one (.sc .bool)) h3 fun r4 h4 =>
  Br r4 (CallM Try.prog 14 #[(.slice none 0 0), (.int .i64 (3 : Int))] (.one (.sc (.int .i64))) h4 fun r5 h5 =>
  R (.bool (r5 == (-1 : Int))) h5) (R (.bool false) h4)
noncomputable def wellspringlaw25_wakes_ann : Ann := .n
theorem wellspringlaw25_wakes_eq  (R : Value → Heap → Prop) (h : Heap) : fnV C Try.f16 300 wellspringlaw25_wakes_ann [] R h = wellspringlaw25_wakes_m  R h := by kernel_rfl
theorem wellspringlaw25_wakes_run  {R : Value → Heap → Prop} {h : Heap} (hm : wellspringlaw25_wakes_m  R h) : Meets Try.prog 16 #[] h R :=
  fn_spec C_ok (f := 16) (fn := Try.f16) (args := []) Try.func16 (by rw [Try.ntmps16]; exact Nat.le_of_ble_eq_true rfl) (cast (wellspringlaw25_wakes_eq  R h).symm hm)
/-- wellspring/plane.At -/
abbrev plane_At_id : FuncId := 17
noncomputable def plane_At_m (n_0 : Int) (R : Value → Heap → Prop) (h : Heap) : Prop :=
  Br (decide (n_0 < (0 : Int))) (R (.complex .f64 0 0) h) (Br (decide (n_0 ≥ (4096 : Int)))
  (R (.complex .f64 0 0) h)
  (CallM Try.prog 27 #[] (.one (.sc .ptr)) h fun r1 h1 =>
  LoopM (σ := Int) (fun s2 K1 h2 =>
  Br (s2 == n_0)
  (∃ a3 : Addr, (r1 = some a3) ∧
  ∃ x4 : Nat × Nat, cellOf h2 a3 = some (.complex .f64 x4.1 x4.2) ∧
  R (.complex .f64 x4.1 x4.2) h2)
  (CallM Try.prog 28 #[(.pointer r1)] (.many []) h2 fun _ h3 =>
  K1 (IntKind.wrap .i64 (s2 + (1 : Int))) h3)) (0 : Int) h1))
noncomputable def plane_At_ann : Ann := (.two .n (.scope 0 [(4, (.sc (.int .i64)))] [(2, 3), (4, 5), (12, 23)] [.n, .n, .n] [.n] []))
theorem plane_At_eq (n_0 : Int) (R : Value → Heap → Prop) (h : Heap) : fnV C Try.f17 300 plane_At_ann [(.int .i64 n_0)] R h = plane_At_m n_0 R h := by kernel_rfl
theorem plane_At_run (n_0 : Int) {R : Value → Heap → Prop} {h : Heap} (hm : plane_At_m n_0 R h) : Meets Try.prog 17 #[(.int .i64 n_0)] h R :=
  fn_spec C_ok (f := 17) (fn := Try.f17) (args := [(.int .i64 n_0)]) Try.func17 (by rw [Try.ntmps17]; exact Nat.le_of_ble_eq_true rfl) (cast (plane_At_eq n_0 R h).symm hm)
/-- wellspring/wellspringkeep.Member[int] -/
abbrev wellspringkeep_Member_int_id : FuncId := 18
noncomputable def wellspringkeep_Member_int_m (l_0 : Sl) (x_1 : Int) (R : Value → Heap → Prop) (h : Heap) : Prop :=
  LoopM (σ := Int) (fun s1 K1 h1 =>
  Br (decide (s1 < ((l_0.len : Nat) : Int)))
  (∃ a2 : Addr, (l_0.ptr = some a2 ∧ 0 ≤ s1 ∧ s1 < ((l_0.len : Nat) : Int)) ∧
  ∃ x3 : Int, cellOf h1 (a2.add (s1.toNat * 1)) = some (.int .i64 x3) ∧
  Br (x3 == x_1)
  (R (.bool true) h1)
  (K1 (IntKind.wrap .i64 (s1 + (1 : Int))) h1))
  (R (.bool false) h1)) (0 : Int) h
noncomputable def wellspringkeep_Member_int_ann : Ann := (.two .n (.two (.two .n (.inn (.loop [(8, (.sc (.int .i64)))] [(4, 6), (8, 18)] .n))) .n))
theorem wellspringkeep_Member_int_eq (l_0 : Sl) (x_1 : Int) (R : Value → Heap → Prop) (h : Heap) : fnV C Try.f18 300 wellspringkeep_Member_int_ann [(.slice l_0.ptr l_0.len l_0.cap), (.int .i64 x_1)] R h = wellspringkeep_Member_int_m l_0 x_1 R h := by kernel_rfl
theorem wellspringkeep_Member_int_run (l_0 : Sl) (x_1 : Int) {R : Value → Heap → Prop} {h : Heap} (hm : wellspringkeep_Member_int_m l_0 x_1 R h) : Meets Try.prog 18 #[(.slice l_0.ptr l_0.len l_0.cap), (.int .i64 x_1)] h R :=
  fn_spec C_ok (f := 18) (fn := Try.f18) (args := [(.slice l_0.ptr l_0.len l_0.cap), (.int .i64 x_1)]) Try.func18 (by rw [Try.ntmps18]; exact Nat.le_of_ble_eq_true rfl) (cast (wellspringkeep_Member_int_eq l_0 x_1 R h).symm hm)
/-- wellspring/plane.Far -/
abbrev plane_Far_id : FuncId := 19
noncomputable def plane_Far_m (a_0 : Nat × Nat) (b_1 : Nat × Nat) (R : Value → Heap → Prop) (h : Heap) : Prop :=
  ∃ z1 : Nat × Nat, (RawBin Try.prog .sub 33 (.tmp 6) (.tmp 7) (.complex .f64 a_0.1 a_0.2) (.complex .f64 b_1.1 b_1.2) (.complex .f64 z1.1 z1.2)) ∧
  ∃ r2 : Nat, ((FloatKind.format .f64).mul z1.1 z1.1 = some r2) ∧
  ∃ r3 : Nat, ((FloatKind.format .f64).mul z1.2 z1.2 = some r3) ∧
  ∃ r4 : Nat, ((FloatKind.format .f64).add r2 r3 = some r4) ∧
  R (.float .f64 r4) h
noncomputable def plane_Far_ann : Ann := .n
theorem plane_Far_eq (a_0 : Nat × Nat) (b_1 : Nat × Nat) (R : Value → Heap → Prop) (h : Heap) : fnV C Try.f19 300 plane_Far_ann [(.complex .f64 a_0.1 a_0.2), (.complex .f64 b_1.1 b_1.2)] R h = plane_Far_m a_0 b_1 R h := by kernel_rfl
theorem plane_Far_run (a_0 : Nat × Nat) (b_1 : Nat × Nat) {R : Value → Heap → Prop} {h : Heap} (hm : plane_Far_m a_0 b_1 R h) : Meets Try.prog 19 #[(.complex .f64 a_0.1 a_0.2), (.complex .f64 b_1.1 b_1.2)] h R :=
  fn_spec C_ok (f := 19) (fn := Try.f19) (args := [(.complex .f64 a_0.1 a_0.2), (.complex .f64 b_1.1 b_1.2)]) Try.func19 (by rw [Try.ntmps19]; exact Nat.le_of_ble_eq_true rfl) (cast (plane_Far_eq a_0 b_1 R h).symm hm)
/-- slices.SortFunc[[]wellspring/place.far,wellspring/place.far] -/
abbrev slices_SortFunc_place_far_place_far_id : FuncId := 20
noncomputable def slices_SortFunc_place_far_place_far_m (x_0 : Sl) (cmp_1 : FuncId × Array Value) (R : Value → Heap → Prop) (h : Heap) : Prop :=
  CallM Try.prog 30 #[(.int .u64 (IntKind.wrap .u64 ((x_0.len : Nat) : Int)))] (.one (.sc (.int .i64))) h fun r1 h1 =>
  CallM Try.prog 29 #[(.slice x_0.ptr x_0.len x_0.cap), (.int .i64 (0 : Int)), (.int .i64 ((x_0.len : Nat) : Int)), (.int .i64 r1), (.func (.func cmp_1.1) #[] cmp_1.2)] (.many []) h1 fun _ h2 =>
  R (.tuple #[]) h2
noncomputable def slices_SortFunc_place_far_place_far_ann : Ann := .n
theorem slices_SortFunc_place_far_place_far_eq (x_0 : Sl) (cmp_1 : FuncId × Array Value) (R : Value → Heap → Prop) (h : Heap) : fnV C Try.f20 300 slices_SortFunc_place_far_place_far_ann [(.slice x_0.ptr x_0.len x_0.cap), (.func (.func cmp_1.1) #[] cmp_1.2)] R h = slices_SortFunc_place_far_place_far_m x_0 cmp_1 R h := by kernel_rfl
theorem slices_SortFunc_place_far_place_far_run (x_0 : Sl) (cmp_1 : FuncId × Array Value) {R : Value → Heap → Prop} {h : Heap} (hm : slices_SortFunc_place_far_place_far_m x_0 cmp_1 R h) : Meets Try.prog 20 #[(.slice x_0.ptr x_0.len x_0.cap), (.func (.func cmp_1.1) #[] cmp_1.2)] h R :=
  fn_spec C_ok (f := 20) (fn := Try.f20) (args := [(.slice x_0.ptr x_0.len x_0.cap), (.func (.func cmp_1.1) #[] cmp_1.2)]) Try.func20 (by rw [Try.ntmps20]; exact Nat.le_of_ble_eq_true rfl) (cast (slices_SortFunc_place_far_place_far_eq x_0 cmp_1 R h).symm hm)
/-- wellspring/place.Order$1 -/
abbrev place_Order_1_id : FuncId := 21
noncomputable def place_Order_1_m (a_0 : Int × Nat) (b_1 : Int × Nat) (R : Value → Heap → Prop) (h : Heap) : Prop :=
  RunsA Try.prog (Instr.box 43 (.agg #[(.int .i64 a_0.1), (.float .f64 a_0.2)])) h fun a1 h1 =>
  RunsA Try.prog (Instr.box 43 (.agg #[(.int .i64 b_1.1), (.float .f64 b_1.2)])) h1 fun a2 h2 =>
  ∃ x3 : Nat, cellOf h2 (a1.add 1) = some (.float .f64 x3) ∧
  ∃ x4 : Nat, cellOf h2 (a2.add 1) = some (.float .f64 x4) ∧
  ∃ x5 : Int, cellOf h2 a1 = some (.int .i64 x5) ∧
  ∃ x6 : Int, cellOf h2 a2 = some (.int .i64 x6) ∧
  CallM Try.prog 23 #[(.float .f64 x3), (.float .f64 x4)] (.one (.sc (.int .i64))) h2 fun r7 h3 =>
  (Held.ok [(a2, (.int .i64 x6)), (a1, (.int .i64 x5))] h3) ∧
  CallM Try.prog 24 #[(.int .i64 x5), (.int .i64 x6)] (.one (.sc (.int .i64))) h3 fun r8 h4 =>
  (Held.ok [] h4) ∧
  RunsR Try.prog (Instr.buildSlice 22 2 #[(0, (.int .i64 r7)), (1, (.int .i64 r8))]) (.one (.sc .slc)) h4 fun v9 h5 =>
  (Held.ok [] h5) ∧
  CallM Try.prog 22 #[(.slice v9.ptr v9.len v9.cap)] (.one (.sc (.int .i64))) h5 fun r10 h6 =>
  (Held.ok [] h6) ∧
  R (.int .i64 r10) h6
noncomputable def place_Order_1_ann : Ann := .n
theorem place_Order_1_eq (a_0 : Int × Nat) (b_1 : Int × Nat) (R : Value → Heap → Prop) (h : Heap) : fnV C Try.f21 300 place_Order_1_ann [(.agg #[(.int .i64 a_0.1), (.float .f64 a_0.2)]), (.agg #[(.int .i64 b_1.1), (.float .f64 b_1.2)])] R h = place_Order_1_m a_0 b_1 R h := by kernel_rfl
theorem place_Order_1_run (a_0 : Int × Nat) (b_1 : Int × Nat) {R : Value → Heap → Prop} {h : Heap} (hm : place_Order_1_m a_0 b_1 R h) : Meets Try.prog 21 #[(.agg #[(.int .i64 a_0.1), (.float .f64 a_0.2)]), (.agg #[(.int .i64 b_1.1), (.float .f64 b_1.2)])] h R :=
  fn_spec C_ok (f := 21) (fn := Try.f21) (args := [(.agg #[(.int .i64 a_0.1), (.float .f64 a_0.2)]), (.agg #[(.int .i64 b_1.1), (.float .f64 b_1.2)])]) Try.func21 (by rw [Try.ntmps21]; exact Nat.le_of_ble_eq_true rfl) (cast (place_Order_1_eq a_0 b_1 R h).symm hm)
/-- cmp.Or[int] -/
abbrev cmp_Or_int_id : FuncId := 22
noncomputable def cmp_Or_int_m (vals_0 : Sl) (R : Value → Heap → Prop) (h : Heap) : Prop :=
  LoopM (σ := Int) (fun s1 K1 h1 =>
  Br (decide (s1 < ((vals_0.len : Nat) : Int)))
  (∃ a2 : Addr, (vals_0.ptr = some a2 ∧ 0 ≤ s1 ∧ s1 < ((vals_0.len : Nat) : Int)) ∧
  ∃ x3 : Int, cellOf h1 (a2.add (s1.toNat * 1)) = some (.int .i64 x3) ∧
  Br (x3 != (0 : Int))
  (R (.int .i64 x3) h1)
  (K1 (IntKind.wrap .i64 (s1 + (1 : Int))) h1))
  (R (.int .i64 (0 : Int)) h1)) (0 : Int) h
noncomputable def cmp_Or_int_ann : Ann := (.two .n (.two .n (.two (.two .n (.inn (.loop [(8, (.sc (.int .i64)))] [(2, 3), (5, 6), (8, 17)] .n))) .n)))
theorem cmp_Or_int_eq (vals_0 : Sl) (R : Value → Heap → Prop) (h : Heap) : fnV C Try.f22 300 cmp_Or_int_ann [(.slice vals_0.ptr vals_0.len vals_0.cap)] R h = cmp_Or_int_m vals_0 R h := by kernel_rfl
theorem cmp_Or_int_run (vals_0 : Sl) {R : Value → Heap → Prop} {h : Heap} (hm : cmp_Or_int_m vals_0 R h) : Meets Try.prog 22 #[(.slice vals_0.ptr vals_0.len vals_0.cap)] h R :=
  fn_spec C_ok (f := 22) (fn := Try.f22) (args := [(.slice vals_0.ptr vals_0.len vals_0.cap)]) Try.func22 (by rw [Try.ntmps22]; exact Nat.le_of_ble_eq_true rfl) (cast (cmp_Or_int_eq vals_0 R h).symm hm)
/-- cmp.Compare[float64] -/
abbrev cmp_Compare_float64_id : FuncId := 23
noncomputable def cmp_Compare_float64_m (x_0 : Nat) (y_1 : Nat) (R : Value → Heap → Prop) (h : Heap) : Prop :=
  CallM Try.prog 31 #[(.float .f64 x_0)] (.one (.sc .bool)) h fun r1 h1 =>
  CallM Try.prog 31 #[(.float .f64 y_1)] (.one (.sc .bool)) h1 fun r2 h2 =>
  Br r1
  (Br r2
  (R (.int .i64 (0 : Int)) h2)
  (R (.int .i64 (-1 : Int)) h2))
  (Br r2
  (R (.int .i64 (1 : Int)) h2)
  (Br ((FloatKind.format .f64).order x_0 y_1 == some .lt)
  (R (.int .i64 (-1 : Int)) h2)
  (Br ((FloatKind.format .f64).order x_0 y_1 == some .gt)
  (R (.int .i64 (1 : Int)) h2)
  (R (.int .i64 (0 : Int)) h2))))
noncomputable def cmp_Compare_float64_ann : Ann := .n
theorem cmp_Compare_float64_eq (x_0 : Nat) (y_1 : Nat) (R : Value → Heap → Prop) (h : Heap) : fnV C Try.f23 300 cmp_Compare_float64_ann [(.float .f64 x_0), (.float .f64 y_1)] R h = cmp_Compare_float64_m x_0 y_1 R h := by kernel_rfl
theorem cmp_Compare_float64_run (x_0 : Nat) (y_1 : Nat) {R : Value → Heap → Prop} {h : Heap} (hm : cmp_Compare_float64_m x_0 y_1 R h) : Meets Try.prog 23 #[(.float .f64 x_0), (.float .f64 y_1)] h R :=
  fn_spec C_ok (f := 23) (fn := Try.f23) (args := [(.float .f64 x_0), (.float .f64 y_1)]) Try.func23 (by rw [Try.ntmps23]; exact Nat.le_of_ble_eq_true rfl) (cast (cmp_Compare_float64_eq x_0 y_1 R h).symm hm)
/-- cmp.Compare[int] -/
abbrev cmp_Compare_int_id : FuncId := 24
noncomputable def cmp_Compare_int_m (x_0 : Int) (y_1 : Int) (R : Value → Heap → Prop) (h : Heap) : Prop :=
  CallM Try.prog 32 #[(.int .i64 x_0)] (.one (.sc .bool)) h fun r1 h1 =>
  CallM Try.prog 32 #[(.int .i64 y_1)] (.one (.sc .bool)) h1 fun r2 h2 =>
  Br r1
  (Br r2
  (R (.int .i64 (0 : Int)) h2)
  (R (.int .i64 (-1 : Int)) h2))
  (Br r2
  (R (.int .i64 (1 : Int)) h2)
  (Br (decide (x_0 < y_1))
  (R (.int .i64 (-1 : Int)) h2)
  (Br (decide (x_0 > y_1))
  (R (.int .i64 (1 : Int)) h2)
  (R (.int .i64 (0 : Int)) h2))))
noncomputable def cmp_Compare_int_ann : Ann := .n
theorem cmp_Compare_int_eq (x_0 : Int) (y_1 : Int) (R : Value → Heap → Prop) (h : Heap) : fnV C Try.f24 300 cmp_Compare_int_ann [(.int .i64 x_0), (.int .i64 y_1)] R h = cmp_Compare_int_m x_0 y_1 R h := by kernel_rfl
theorem cmp_Compare_int_run (x_0 : Int) (y_1 : Int) {R : Value → Heap → Prop} {h : Heap} (hm : cmp_Compare_int_m x_0 y_1 R h) : Meets Try.prog 24 #[(.int .i64 x_0), (.int .i64 y_1)] h R :=
  fn_spec C_ok (f := 24) (fn := Try.f24) (args := [(.int .i64 x_0), (.int .i64 y_1)]) Try.func24 (by rw [Try.ntmps24]; exact Nat.le_of_ble_eq_true rfl) (cast (cmp_Compare_int_eq x_0 y_1 R h).symm hm)
/-- wellspring/wellspringref21.At -/
abbrev wellspringref21_At_id : FuncId := 25
noncomputable def wellspringref21_At_m (n_0 : Int) (R : Value → Heap → Prop) (h : Heap) : Prop :=
  RunsA Try.prog (Instr.alloc 49 true (.tuple #[])) h fun a1 h1 =>
  RunsA Try.prog (Instr.alloc 49 true (.tuple #[])) h1 fun a2 h2 =>
  JoinM (σ := Unit) (fun _ h5 =>
  LoopM (σ := Int × Int × Int × Int × Int × Int) (fun s8 K2 h6 =>
  Br (decide (s8.2.2.2.2.2 < n_0))
  (∃ x9 : Int, cellOf h6 a2 = some (.int .i64 x9) ∧
  ∃ x10 : Int, cellOf h6 (a2.add 1) = some (.int .i64 x10) ∧
  Runs Try.prog (Instr.storeAt 3 (.pointer (some a2)) (.int .i64 (IntKind.wrap .i64 (x9 + s8.1)))) h6 fun _ h7 =>
  Runs Try.prog (Instr.storeAt 3 (.pointer (some (a2.add 1))) (.int .i64 (IntKind.wrap .i64 (x10 + s8.2.1)))) h7 fun _ h8 =>
  Br ((IntKind.wrap .i64 (s8.2.2.2.1 - (1 : Int))) == (0 : Int))
  (((2 : Int) ≠ 0) ∧
  Br ((Int.tmod (IntKind.wrap .i64 (s8.2.2.2.2.1 + (1 : Int))) (2 : Int)) == (0 : Int))
  (K2 (IntKind.wrap .i64 (0 - s8.2.1), s8.1, IntKind.wrap .i64 (s8.2.2.1 + (1 : Int)), IntKind.wrap .i64 (s8.2.2.1 + (1 : Int)), IntKind.wrap .i64 (s8.2.2.2.2.1 + (1 : Int)), IntKind.wrap .i64 (s8.2.2.2.2.2 + (1 : Int))) h8)
  (K2 (IntKind.wrap .i64 (0 - s8.2.1), s8.1, s8.2.2.1, s8.2.2.1, IntKind.wrap .i64 (s8.2.2.2.2.1 + (1 : Int)), IntKind.wrap .i64 (s8.2.2.2.2.2 + (1 : Int))) h8))
  (K2 (s8.1, s8.2.1, s8.2.2.1, IntKind.wrap .i64 (s8.2.2.2.1 - (1 : Int)), s8.2.2.2.2.1, IntKind.wrap .i64 (s8.2.2.2.2.2 + (1 : Int))) h8))
  (∃ x11 : Int × Int, cellsAt h6 a2 0 [(.int .i64 x11.1), (.int .i64 x11.2)] ∧
  Runs Try.prog (Instr.storeAt 49 (.pointer (some a1)) (.agg #[(.int .i64 x11.1), (.int .i64 x11.2)])) h6 fun _ h9 =>
  ∃ res12 : Int × Int, cellsAt h9 a1 0 [(.int .i64 res12.1), (.int .i64 res12.2)] ∧
  R (.agg #[(.int .i64 res12.1), (.int .i64 res12.2)]) h9)) ((1 : Int), (0 : Int), (1 : Int), (1 : Int), (0 : Int), (0 : Int)) h5)
  (fun K1 =>
  Br (decide (n_0 < (0 : Int))) (∃ x3 : Int × Int, cellsAt h2 a2 0 [(.int .i64 x3.1), (.int .i64 x3.2)] ∧
  Runs Try.prog (Instr.storeAt 49 (.pointer (some a1)) (.agg #[(.int .i64 x3.1), (.int .i64 x3.2)])) h2 fun _ h3 =>
  ∃ res4 : Int × Int, cellsAt h3 a1 0 [(.int .i64 res4.1), (.int .i64 res4.2)] ∧
  R (.agg #[(.int .i64 res4.1), (.int .i64 res4.2)]) h3) (Br (decide (n_0 > (4095 : Int)))
  (∃ x5 : Int × Int, cellsAt h2 a2 0 [(.int .i64 x5.1), (.int .i64 x5.2)] ∧
  Runs Try.prog (Instr.storeAt 49 (.pointer (some a1)) (.agg #[(.int .i64 x5.1), (.int .i64 x5.2)])) h2 fun _ h4 =>
  ∃ res6 : Int × Int, cellsAt h4 a1 0 [(.int .i64 res6.1), (.int .i64 res6.2)] ∧
  R (.agg #[(.int .i64 res6.1), (.int .i64 res6.2)]) h4)
  (K1 () h2)))
noncomputable def wellspringref21_At_ann : Ann := (.two .n (.two .n (.two (.join [] [(10, 17)] .n) (.two .n (.two (.two .n (.inn (.loop [(4, (.sc (.int .i64))), (5, (.sc (.int .i64))), (6, (.sc (.int .i64))), (7, (.sc (.int .i64))), (8, (.sc (.int .i64))), (9, (.sc (.int .i64)))] [(4, 10), (17, 47)] .n))) .n)))))
theorem wellspringref21_At_eq (n_0 : Int) (R : Value → Heap → Prop) (h : Heap) : fnV C Try.f25 300 wellspringref21_At_ann [(.int .i64 n_0)] R h = wellspringref21_At_m n_0 R h := by kernel_rfl
theorem wellspringref21_At_run (n_0 : Int) {R : Value → Heap → Prop} {h : Heap} (hm : wellspringref21_At_m n_0 R h) : Meets Try.prog 25 #[(.int .i64 n_0)] h R :=
  fn_spec C_ok (f := 25) (fn := Try.f25) (args := [(.int .i64 n_0)]) Try.func25 (by rw [Try.ntmps25]; exact Nat.le_of_ble_eq_true rfl) (cast (wellspringref21_At_eq n_0 R h).symm hm)
/-- wellspring/wellspringref21.Far -/
abbrev wellspringref21_Far_id : FuncId := 26
noncomputable def wellspringref21_Far_m (a_0 : Int × Int) (b_1 : Int × Int) (R : Value → Heap → Prop) (h : Heap) : Prop :=
  RunsA Try.prog (Instr.box 49 (.agg #[(.int .i64 a_0.1), (.int .i64 a_0.2)])) h fun a1 h1 =>
  RunsA Try.prog (Instr.box 49 (.agg #[(.int .i64 b_1.1), (.int .i64 b_1.2)])) h1 fun a2 h2 =>
  ∃ x3 : Int, cellOf h2 a1 = some (.int .i64 x3) ∧
  ∃ x4 : Int, cellOf h2 a2 = some (.int .i64 x4) ∧
  ∃ x5 : Int, cellOf h2 a1 = some (.int .i64 x5) ∧
  ∃ x6 : Int, cellOf h2 a2 = some (.int .i64 x6) ∧
  ∃ x7 : Int, cellOf h2 (a1.add 1) = some (.int .i64 x7) ∧
  ∃ x8 : Int, cellOf h2 (a2.add 1) = some (.int .i64 x8) ∧
  ∃ x9 : Int, cellOf h2 (a1.add 1) = some (.int .i64 x9) ∧
  ∃ x10 : Int, cellOf h2 (a2.add 1) = some (.int .i64 x10) ∧
  R (.int .i64 (IntKind.wrap .i64 ((IntKind.wrap .i64 ((IntKind.wrap .i64 (x3 - x4)) * (IntKind.wrap .i64 (x5 - x6)))) + (IntKind.wrap .i64 ((IntKind.wrap .i64 (x7 - x8)) * (IntKind.wrap .i64 (x9 - x10))))))) h2
noncomputable def wellspringref21_Far_ann : Ann := .n
theorem wellspringref21_Far_eq (a_0 : Int × Int) (b_1 : Int × Int) (R : Value → Heap → Prop) (h : Heap) : fnV C Try.f26 300 wellspringref21_Far_ann [(.agg #[(.int .i64 a_0.1), (.int .i64 a_0.2)]), (.agg #[(.int .i64 b_1.1), (.int .i64 b_1.2)])] R h = wellspringref21_Far_m a_0 b_1 R h := by kernel_rfl
theorem wellspringref21_Far_run (a_0 : Int × Int) (b_1 : Int × Int) {R : Value → Heap → Prop} {h : Heap} (hm : wellspringref21_Far_m a_0 b_1 R h) : Meets Try.prog 26 #[(.agg #[(.int .i64 a_0.1), (.int .i64 a_0.2)]), (.agg #[(.int .i64 b_1.1), (.int .i64 b_1.2)])] h R :=
  fn_spec C_ok (f := 26) (fn := Try.f26) (args := [(.agg #[(.int .i64 a_0.1), (.int .i64 a_0.2)]), (.agg #[(.int .i64 b_1.1), (.int .i64 b_1.2)])]) Try.func26 (by rw [Try.ntmps26]; exact Nat.le_of_ble_eq_true rfl) (cast (wellspringref21_Far_eq a_0 b_1 R h).symm hm)
/-- wellspring/plane.start -/
abbrev plane_start_id : FuncId := 27
noncomputable def plane_start_m  (R : Value → Heap → Prop) (h : Heap) : Prop :=
  RunsA Try.prog (Instr.box 55 (.agg #[(.complex .f64 0 0), (.complex .f64 4607182418800017408 0), (.int .i64 (1 : Int)), (.int .i64 (1 : Int)), (.bool false)])) h fun a1 h1 =>
  R (.pointer (some a1)) h1
noncomputable def plane_start_ann : Ann := .n
theorem plane_start_eq  (R : Value → Heap → Prop) (h : Heap) : fnV C Try.f27 300 plane_start_ann [] R h = plane_start_m  R h := by kernel_rfl
theorem plane_start_run  {R : Value → Heap → Prop} {h : Heap} (hm : plane_start_m  R h) : Meets Try.prog 27 #[] h R :=
  fn_spec C_ok (f := 27) (fn := Try.f27) (args := []) Try.func27 (by rw [Try.ntmps27]; exact Nat.le_of_ble_eq_true rfl) (cast (plane_start_eq  R h).symm hm)
/-- (*wellspring/plane.spiral).on -/
abbrev plane_spiral_on_id : FuncId := 28
noncomputable def plane_spiral_on_m (s_0 : Option Addr) (R : Value → Heap → Prop) (h : Heap) : Prop :=
  ∃ a1 : Addr, (s_0 = some a1) ∧
  ∃ x2 : Nat × Nat, cellOf h a1 = some (.complex .f64 x2.1 x2.2) ∧
  ∃ a3 : Addr, (s_0 = some a3) ∧
  ∃ x4 : Nat × Nat, cellOf h (a3.add 1) = some (.complex .f64 x4.1 x4.2) ∧
  ∃ z5 : Nat × Nat, (RawBin Try.prog .add 33 (.tmp 5) (.tmp 9) (.complex .f64 x2.1 x2.2) (.complex .f64 x4.1 x4.2) (.complex .f64 z5.1 z5.2)) ∧
  ∃ a6 : Addr, (s_0 = some a6) ∧
  Runs Try.prog (Instr.storeAt 33 (.pointer (some a6)) (.complex .f64 z5.1 z5.2)) h fun _ h1 =>
  (Held.ok [] h1) ∧
  ∃ a7 : Addr, (s_0 = some a7) ∧
  ∃ x8 : Int, cellOf h1 (a7.add 2) = some (.int .i64 x8) ∧
  ∃ a9 : Addr, (s_0 = some a9) ∧
  Runs Try.prog (Instr.storeAt 3 (.pointer (some (a9.add 2))) (.int .i64 (IntKind.wrap .i64 (x8 - (1 : Int))))) h1 fun _ h2 =>
  ∃ a10 : Addr, (s_0 = some a10) ∧
  ∃ x11 : Int, cellOf h2 (a10.add 2) = some (.int .i64 x11) ∧
  Br (decide (x11 > (0 : Int)))
  (R (.tuple #[]) h2)
  (∃ a12 : Addr, (s_0 = some a12) ∧
  ∃ x13 : Nat × Nat, cellOf h2 (a12.add 1) = some (.complex .f64 x13.1 x13.2) ∧
  CallM Try.prog 33 #[(.complex .f64 x13.1 x13.2), (.int .i64 (1 : Int))] (.one (.sc (.cpx .f64))) h2 fun r14 h3 =>
  ∃ a15 : Addr, (s_0 = some a15) ∧
  Runs Try.prog (Instr.storeAt 33 (.pointer (some (a15.add 1))) (.complex .f64 r14.1 r14.2)) h3 fun _ h4 =>
  JoinM (σ := Unit) (fun _ h6 =>
  ∃ a22 : Addr, (s_0 = some a22) ∧
  ∃ x23 : Bool, cellOf h6 (a22.add 4) = some (.bool x23) ∧
  ∃ a24 : Addr, (s_0 = some a24) ∧
  Runs Try.prog (Instr.storeAt 4 (.pointer (some (a24.add 4))) (.bool (!x23))) h6 fun _ h7 =>
  ∃ a25 : Addr, (s_0 = some a25) ∧
  ∃ x26 : Int, cellOf h7 (a25.add 3) = some (.int .i64 x26) ∧
  ∃ a27 : Addr, (s_0 = some a27) ∧
  Runs Try.prog (Instr.storeAt 3 (.pointer (some (a27.add 2))) (.int .i64 x26)) h7 fun _ h8 =>
  R (.tuple #[]) h8)
  (fun K1 =>
  ∃ a16 : Addr, (s_0 = some a16) ∧
  ∃ x17 : Bool, cellOf h4 (a16.add 4) = some (.bool x17) ∧
  Br x17
  (∃ a18 : Addr, (s_0 = some a18) ∧
  ∃ x19 : Int, cellOf h4 (a18.add 3) = some (.int .i64 x19) ∧
  ∃ a20 : Addr, (s_0 = some a20) ∧
  Runs Try.prog (Instr.storeAt 3 (.pointer (some (a20.add 3))) (.int .i64 (IntKind.wrap .i64 (x19 + (1 : Int))))) h4 fun _ h5 =>
  K1 () h5)
  (K1 () h4)))
noncomputable def plane_spiral_on_ann : Ann := (.two .n (.two .n (.two .n (.two .n (.two (.join [] [(33, 44)] .n) .n)))))
theorem plane_spiral_on_eq (s_0 : Option Addr) (R : Value → Heap → Prop) (h : Heap) : fnV C Try.f28 300 plane_spiral_on_ann [(.pointer s_0)] R h = plane_spiral_on_m s_0 R h := by kernel_rfl
theorem plane_spiral_on_run (s_0 : Option Addr) {R : Value → Heap → Prop} {h : Heap} (hm : plane_spiral_on_m s_0 R h) : Meets Try.prog 28 #[(.pointer s_0)] h R :=
  fn_spec C_ok (f := 28) (fn := Try.f28) (args := [(.pointer s_0)]) Try.func28 (by rw [Try.ntmps28]; exact Nat.le_of_ble_eq_true rfl) (cast (plane_spiral_on_eq s_0 R h).symm hm)
/-- cmp.isNaN[float64] -/
abbrev cmp_isNaN_float64_id : FuncId := 31
noncomputable def cmp_isNaN_float64_m (x_0 : Nat) (R : Value → Heap → Prop) (h : Heap) : Prop :=
  R (.bool ((FloatKind.format .f64).order x_0 x_0 != some .eq)) h
noncomputable def cmp_isNaN_float64_ann : Ann := .n
theorem cmp_isNaN_float64_eq (x_0 : Nat) (R : Value → Heap → Prop) (h : Heap) : fnV C Try.f31 300 cmp_isNaN_float64_ann [(.float .f64 x_0)] R h = cmp_isNaN_float64_m x_0 R h := by kernel_rfl
theorem cmp_isNaN_float64_run (x_0 : Nat) {R : Value → Heap → Prop} {h : Heap} (hm : cmp_isNaN_float64_m x_0 R h) : Meets Try.prog 31 #[(.float .f64 x_0)] h R :=
  fn_spec C_ok (f := 31) (fn := Try.f31) (args := [(.float .f64 x_0)]) Try.func31 (by rw [Try.ntmps31]; exact Nat.le_of_ble_eq_true rfl) (cast (cmp_isNaN_float64_eq x_0 R h).symm hm)
/-- cmp.isNaN[int] -/
abbrev cmp_isNaN_int_id : FuncId := 32
noncomputable def cmp_isNaN_int_m (x_0 : Int) (R : Value → Heap → Prop) (h : Heap) : Prop :=
  R (.bool (x_0 != x_0)) h
noncomputable def cmp_isNaN_int_ann : Ann := .n
theorem cmp_isNaN_int_eq (x_0 : Int) (R : Value → Heap → Prop) (h : Heap) : fnV C Try.f32 300 cmp_isNaN_int_ann [(.int .i64 x_0)] R h = cmp_isNaN_int_m x_0 R h := by kernel_rfl
theorem cmp_isNaN_int_run (x_0 : Int) {R : Value → Heap → Prop} {h : Heap} (hm : cmp_isNaN_int_m x_0 R h) : Meets Try.prog 32 #[(.int .i64 x_0)] h R :=
  fn_spec C_ok (f := 32) (fn := Try.f32) (args := [(.int .i64 x_0)]) Try.func32 (by rw [Try.ntmps32]; exact Nat.le_of_ble_eq_true rfl) (cast (cmp_isNaN_int_eq x_0 R h).symm hm)
/-- wellspring/plane.Turn -/
abbrev plane_Turn_id : FuncId := 33
noncomputable def plane_Turn_m (z_0 : Nat × Nat) (n_1 : Int) (R : Value → Heap → Prop) (h : Heap) : Prop :=
  ((4 : Int) ≠ 0) ∧
  ((4 : Int) ≠ 0) ∧
  LoopM (σ := ((Nat × Nat)) × Int) (fun s1 K1 h1 =>
  Br (decide (s1.2 < (Int.tmod (IntKind.wrap .i64 ((Int.tmod n_1 (4 : Int)) + (4 : Int))) (4 : Int))))
  (∃ z2 : Nat × Nat, (RawBin Try.prog .mul 33 (.tmp 11) (.const (.complex .f64 0 4607182418800017408)) (.complex .f64 s1.1.1 s1.1.2) (.complex .f64 0 4607182418800017408) (.complex .f64 z2.1 z2.2)) ∧
  K1 ((z2.1, z2.2), IntKind.wrap .i64 (s1.2 + (1 : Int))) h1)
  (R (.complex .f64 s1.1.1 s1.1.2) h1)) ((z_0.1, z_0.2), (0 : Int)) h
noncomputable def plane_Turn_ann : Ann := (.two .n (.two (.two .n (.inn (.loop [(0, (.sc (.cpx .f64))), (9, (.sc (.int .i64)))] [(0, 1), (9, 14)] .n))) .n))
theorem plane_Turn_eq (z_0 : Nat × Nat) (n_1 : Int) (R : Value → Heap → Prop) (h : Heap) : fnV C Try.f33 300 plane_Turn_ann [(.complex .f64 z_0.1 z_0.2), (.int .i64 n_1)] R h = plane_Turn_m z_0 n_1 R h := by kernel_rfl
theorem plane_Turn_run (z_0 : Nat × Nat) (n_1 : Int) {R : Value → Heap → Prop} {h : Heap} (hm : plane_Turn_m z_0 n_1 R h) : Meets Try.prog 33 #[(.complex .f64 z_0.1 z_0.2), (.int .i64 n_1)] h R :=
  fn_spec C_ok (f := 33) (fn := Try.f33) (args := [(.complex .f64 z_0.1 z_0.2), (.int .i64 n_1)]) Try.func33 (by rw [Try.ntmps33]; exact Nat.le_of_ble_eq_true rfl) (cast (plane_Turn_eq z_0 n_1 R h).symm hm)
end Go.Proofs.Ytpbdnfgjjpgpoaa
