/- Part of the proofs that wellspringlaw11's laws answer true whatever the input reads, and leave it as it was; no condition. -/
import Derived.Test.YtgcbahhnnphejaaHpA
import Derived.Test.YtgcbahhnnphejaaProg
set_option linter.unusedVariables false
set_option linter.unusedSimpArgs false
namespace Go.Proofs.Ytgcbahhnnphejaa
open Go Go.Vc Go.Proofs
set_option maxRecDepth 1000000

abbrev T_func : Nat := 1
abbrev T_int64 : Nat := 2
abbrev T_int : Nat := 3
abbrev T_bool : Nat := 4
abbrev T_uint8 : Nat := 5
abbrev T_abi_BoundsErrorCode : Nat := 6
abbrev T_runtime_boundsError : Nat := 8
abbrev T_string : Nat := 9
abbrev T_runtime_errorString : Nat := 10
abbrev T_runtime_plainError : Nat := 11
abbrev T_uintptr : Nat := 12
abbrev T_struct_msg_string_addr_uintptr : Nat := 13
abbrev T_runtime_errorAddressString : Nat := 14
abbrev T_ptr_runtime_TypeAssertionError : Nat := 15
abbrev T_ptr_runtime_PanicNilError : Nat := 16
abbrev T_ptr_abi_Type : Nat := 17
abbrev T_struct_typ_ptr_abi_Type : Nat := 18
abbrev T_maps_unhashableTypeError : Nat := 19
abbrev T_interface : Nat := 20
abbrev T_int32 : Nat := 21
abbrev T_uint : Nat := 22
abbrev T_sl_uint8 : Nat := 23
abbrev T_struct_K_int_H_int_Size_int : Nat := 24
abbrev T_api_Params : Nat := 25
abbrev T_func_int_int_int_api_Params : Nat := 26
abbrev T_uint32 : Nat := 27
abbrev T_func_api_Params_uint_uint32 : Nat := 28
abbrev T_func_api_Params_uint32_bool : Nat := 29
abbrev T_func_bool : Nat := 30
abbrev T_func_sl_uint8_int_sl_uint8 : Nat := 31
abbrev T_ptr_encode_Block : Nat := 32
abbrev T_api_Errno : Nat := 33
abbrev T_ptr_encode_Block_api_Errno : Nat := 34
abbrev T_func_int_int_int : Nat := 36
abbrev T_func_int_sl_uint8 : Nat := 37
abbrev T_func_sl_uint8_sl_uint8_bool : Nat := 38
abbrev T_sl_sl_uint8 : Nat := 40
abbrev T_func_sl_sl_uint8 : Nat := 41
abbrev T_func_sl_sl_uint8_sl_sl_uint8 : Nat := 42
abbrev T_func_sl_sl_uint8_sl_sl_uint8_bool : Nat := 43
abbrev T_ptr_gf_Field : Nat := 45
abbrev T_func_ptr_gf_Field : Nat := 46
abbrev T_sl_sl_uint8_bool : Nat := 47
abbrev T_func_api_Params_sl_sl_uint8 : Nat := 49
abbrev T_func_api_Params_uint32_int_sl_uint8 : Nat := 50
abbrev T_func_api_Params_uint32_sl_int_bool : Nat := 51
abbrev T_sl_int : Nat := 52
abbrev T_func_api_Params_sl_int : Nat := 53
abbrev T_func_api_Params_bool : Nat := 54
abbrev T_sl_sl_uint8_api_Errno : Nat := 55
abbrev T_encode_Block : Nat := 59
abbrev T_func_api_Params_uint32_int_sl_int : Nat := 60
abbrev T_func_sl_uint8_sl_uint8 : Nat := 61
abbrev T_255_uint8 : Nat := 62
abbrev T_func_255_uint8 : Nat := 63
abbrev T_256_int : Nat := 64
abbrev T_func_255_uint8_256_int : Nat := 65
abbrev T_struct_exp_255_uint8_log_256_int : Nat := 66
abbrev T_gf_Field : Nat := 67
abbrev T_func_sl_sl_uint8_bool : Nat := 68
abbrev T_func_sl_sl_uint8_int : Nat := 69
abbrev T_func_ptr_gf_Field_ptr_gf_Field : Nat := 70
abbrev T_func_int_int_sl_uint8 : Nat := 72
abbrev T_func_api_Params_int : Nat := 73
abbrev T_func_int_uint8 : Nat := 74
abbrev T_func_api_Params_uint32_sl_int_int : Nat := 75
abbrev T_func_ptr_gf_Field_sl_sl_uint8_int_int : Nat := 76
abbrev T_func_sl_uint8_int : Nat := 77
abbrev T_ptr_draw_Draw : Nat := 78
abbrev T_func_uint32_ptr_draw_Draw : Nat := 79
abbrev T_func_uint32 : Nat := 80
abbrev T_func_sl_int_ptr_draw_Draw_int : Nat := 81
abbrev T_func_int_sl_int : Nat := 82
abbrev T_func_ptr_draw_Draw_int_int_sl_int : Nat := 83
abbrev T_func_uint8_uint8_uint8 : Nat := 84
abbrev T_func_ptr_gf_Field_sl_sl_uint8_int : Nat := 85
abbrev T_func_sl_sl_uint8_int_int_int : Nat := 86
abbrev T_func_uint8_uint8 : Nat := 88
abbrev T_func_sl_uint8_func_uint8_bool_int : Nat := 89
abbrev T_func_uint8_bool : Nat := 90
abbrev T_uint64 : Nat := 91
abbrev T_struct_at_uint64 : Nat := 92
abbrev T_draw_Draw : Nat := 93
abbrev T_func_sl_int_int_int : Nat := 94
abbrev T_func_int_int : Nat := 95
abbrev T_func_sl_int_sl_int : Nat := 96
abbrev T_func_sl_int : Nat := 97
abbrev T_func_uint_int : Nat := 99
abbrev T_func_sl_int_int_int_int : Nat := 100
abbrev T_func_uint32_int : Nat := 101
abbrev T_func_uint64_int : Nat := 102
abbrev T_slices_sortedHint : Nat := 104
abbrev T_int_slices_sortedHint : Nat := 105
abbrev T_func_sl_int_int_int_bool : Nat := 107
abbrev T_func_int_int_bool : Nat := 108
abbrev T_func_sl_int_int_int_int_int : Nat := 109
abbrev T_int_bool : Nat := 110
abbrev T_func_sl_int_int_int_int_int_bool : Nat := 111
abbrev T_slices_xorshift : Nat := 112
abbrev T_func_int_uint : Nat := 113
abbrev T_func_uint64 : Nat := 114
abbrev T_func_sl_int_int_ptr_int_int : Nat := 115
abbrev T_ptr_int : Nat := 116
abbrev T_func_sl_int_int_int_int_ptr_int_int : Nat := 117
abbrev T_func_int_bool : Nat := 118
abbrev T_ptr_slices_xorshift : Nat := 119
abbrev T_int_int : Nat := 120
abbrev T_func_sl_int_int_int_ptr_int_int_int : Nat := 121
abbrev T_func_string : Nat := 122
abbrev T_runtime_TypeAssertionError : Nat := 124
abbrev T_0_ptr_runtime_PanicNilError : Nat := 125
abbrev T_struct_0_ptr_runtime_PanicNilError : Nat := 126
abbrev T_runtime_PanicNilError : Nat := 127
abbrev T_func_int : Nat := 128
abbrev T_abi_TFlag : Nat := 129
abbrev T_abi_Kind : Nat := 130
abbrev T_ptr_uint8 : Nat := 132
abbrev T_abi_NameOff : Nat := 133
abbrev T_abi_TypeOff : Nat := 134
abbrev T_abi_Type : Nat := 136
abbrev T_unsafe_Pointer : Nat := 137
noncomputable def tbl : Tbl := [
  ⟨.other, (.sc .any), 1, 0, [(Go.Value.tuple #[])]⟩,
  ⟨.fn, (.sc .fn), 1, 8, [Go.Value.nilFunc]⟩,
  ⟨.int .i64, (.sc (.int .i64)), 1, 8, [(Go.Value.int Go.IntKind.i64 0)]⟩,
  ⟨.int .i64, (.sc (.int .i64)), 1, 8, [(Go.Value.int Go.IntKind.i64 0)]⟩,
  ⟨.bool, (.sc .bool), 1, 1, [(Go.Value.bool Bool.false)]⟩,
  ⟨.int .u8, (.sc (.int .u8)), 1, 1, [(Go.Value.int Go.IntKind.u8 0)]⟩,
  ⟨.int .u8, (.sc (.int .u8)), 1, 1, [(Go.Value.int Go.IntKind.u8 0)]⟩,
  ⟨.struct [(0, 2), (1, 3), (2, 4), (3, 6)], (.agg [(.int .i64), (.int .i64), .bool, (.int .u8)]), 4, 24, [(Go.Value.int Go.IntKind.i64 0), (Go.Value.int Go.IntKind.i64 0), (Go.Value.bool Bool.false), (Go.Value.int Go.IntKind.u8 0)]⟩,
  ⟨.struct [(0, 2), (1, 3), (2, 4), (3, 6)], (.agg [(.int .i64), (.int .i64), .bool, (.int .u8)]), 4, 24, [(Go.Value.int Go.IntKind.i64 0), (Go.Value.int Go.IntKind.i64 0), (Go.Value.bool Bool.false), (Go.Value.int Go.IntKind.u8 0)]⟩,
  ⟨.str, (.sc .str), 1, 16, [(Go.Value.string (ByteArray.mk #[]))]⟩,
  ⟨.str, (.sc .str), 1, 16, [(Go.Value.string (ByteArray.mk #[]))]⟩,
  ⟨.str, (.sc .str), 1, 16, [(Go.Value.string (ByteArray.mk #[]))]⟩,
  ⟨.int .u64, (.sc (.int .u64)), 1, 8, [(Go.Value.int Go.IntKind.u64 0)]⟩,
  ⟨.struct [(0, 9), (1, 12)], (.agg [.str, (.int .u64)]), 2, 24, [(Go.Value.string (ByteArray.mk #[])), (Go.Value.int Go.IntKind.u64 0)]⟩,
  ⟨.struct [(0, 9), (1, 12)], (.agg [.str, (.int .u64)]), 2, 24, [(Go.Value.string (ByteArray.mk #[])), (Go.Value.int Go.IntKind.u64 0)]⟩,
  ⟨.ptr 124, (.sc .ptr), 1, 8, [(Go.Value.pointer Option.none)]⟩,
  ⟨.ptr 127, (.sc .ptr), 1, 8, [(Go.Value.pointer Option.none)]⟩,
  ⟨.ptr 136, (.sc .ptr), 1, 8, [(Go.Value.pointer Option.none)]⟩,
  ⟨.struct [(0, 17)], (.agg [.ptr]), 1, 8, [(Go.Value.pointer Option.none)]⟩,
  ⟨.struct [(0, 17)], (.agg [.ptr]), 1, 8, [(Go.Value.pointer Option.none)]⟩,
  ⟨.other, (.sc .any), 1, 16, [Go.Value.nilIface]⟩,
  ⟨.int .i32, (.sc (.int .i32)), 1, 4, [(Go.Value.int Go.IntKind.i32 0)]⟩,
  ⟨.int .u64, (.sc (.int .u64)), 1, 8, [(Go.Value.int Go.IntKind.u64 0)]⟩,
  ⟨.slice 5, (.sc .slc), 1, 24, [(Go.Value.slice Option.none 0 0)]⟩,
  ⟨.struct [(0, 3), (1, 3), (2, 3)], (.agg [(.int .i64), (.int .i64), (.int .i64)]), 3, 24, [(Go.Value.int Go.IntKind.i64 0), (Go.Value.int Go.IntKind.i64 0), (Go.Value.int Go.IntKind.i64 0)]⟩,
  ⟨.struct [(0, 3), (1, 3), (2, 3)], (.agg [(.int .i64), (.int .i64), (.int .i64)]), 3, 24, [(Go.Value.int Go.IntKind.i64 0), (Go.Value.int Go.IntKind.i64 0), (Go.Value.int Go.IntKind.i64 0)]⟩,
  ⟨.fn, (.sc .fn), 1, 8, [Go.Value.nilFunc]⟩,
  ⟨.int .u32, (.sc (.int .u32)), 1, 4, [(Go.Value.int Go.IntKind.u32 0)]⟩,
  ⟨.fn, (.sc .fn), 1, 8, [Go.Value.nilFunc]⟩,
  ⟨.fn, (.sc .fn), 1, 8, [Go.Value.nilFunc]⟩,
  ⟨.fn, (.sc .fn), 1, 8, [Go.Value.nilFunc]⟩,
  ⟨.fn, (.sc .fn), 1, 8, [Go.Value.nilFunc]⟩,
  ⟨.ptr 59, (.sc .ptr), 1, 8, [(Go.Value.pointer Option.none)]⟩,
  ⟨.int .i64, (.sc (.int .i64)), 1, 8, [(Go.Value.int Go.IntKind.i64 0)]⟩,
  ⟨.other, (.sc .any), 1, 0, [(Go.Value.tuple #[(Go.Value.pointer Option.none), (Go.Value.int Go.IntKind.i64 0)])]⟩,
  ⟨.fn, (.sc .fn), 1, 8, [Go.Value.nilFunc]⟩,
  ⟨.fn, (.sc .fn), 1, 8, [Go.Value.nilFunc]⟩,
  ⟨.fn, (.sc .fn), 1, 8, [Go.Value.nilFunc]⟩,
  ⟨.fn, (.sc .fn), 1, 8, [Go.Value.nilFunc]⟩,
  ⟨.fn, (.sc .fn), 1, 8, [Go.Value.nilFunc]⟩,
  ⟨.slice 23, (.sc .slc), 1, 24, [(Go.Value.slice Option.none 0 0)]⟩,
  ⟨.fn, (.sc .fn), 1, 8, [Go.Value.nilFunc]⟩,
  ⟨.fn, (.sc .fn), 1, 8, [Go.Value.nilFunc]⟩,
  ⟨.fn, (.sc .fn), 1, 8, [Go.Value.nilFunc]⟩,
  ⟨.fn, (.sc .fn), 1, 8, [Go.Value.nilFunc]⟩,
  ⟨.ptr 67, (.sc .ptr), 1, 8, [(Go.Value.pointer Option.none)]⟩,
  ⟨.fn, (.sc .fn), 1, 8, [Go.Value.nilFunc]⟩,
  ⟨.other, (.sc .any), 1, 0, [(Go.Value.tuple #[(Go.Value.slice Option.none 0 0), (Go.Value.bool Bool.false)])]⟩,
  ⟨.fn, (.sc .fn), 1, 8, [Go.Value.nilFunc]⟩,
  ⟨.fn, (.sc .fn), 1, 8, [Go.Value.nilFunc]⟩,
  ⟨.fn, (.sc .fn), 1, 8, [Go.Value.nilFunc]⟩,
  ⟨.fn, (.sc .fn), 1, 8, [Go.Value.nilFunc]⟩,
  ⟨.slice 3, (.sc .slc), 1, 24, [(Go.Value.slice Option.none 0 0)]⟩,
  ⟨.fn, (.sc .fn), 1, 8, [Go.Value.nilFunc]⟩,
  ⟨.fn, (.sc .fn), 1, 8, [Go.Value.nilFunc]⟩,
  ⟨.other, (.sc .any), 1, 0, [(Go.Value.tuple #[(Go.Value.slice Option.none 0 0), (Go.Value.int Go.IntKind.i64 0)])]⟩,
  ⟨.fn, (.sc .fn), 1, 8, [Go.Value.nilFunc]⟩,
  ⟨.fn, (.sc .fn), 1, 8, [Go.Value.nilFunc]⟩,
  ⟨.struct [(0, 25), (3, 27), (4, 40)], (.agg [(.int .i64), (.int .i64), (.int .i64), (.int .u32), .slc]), 5, 56, [(Go.Value.int Go.IntKind.i64 0), (Go.Value.int Go.IntKind.i64 0), (Go.Value.int Go.IntKind.i64 0), (Go.Value.int Go.IntKind.u32 0), (Go.Value.slice Option.none 0 0)]⟩,
  ⟨.struct [(0, 25), (3, 27), (4, 40)], (.agg [(.int .i64), (.int .i64), (.int .i64), (.int .u32), .slc]), 5, 56, [(Go.Value.int Go.IntKind.i64 0), (Go.Value.int Go.IntKind.i64 0), (Go.Value.int Go.IntKind.i64 0), (Go.Value.int Go.IntKind.u32 0), (Go.Value.slice Option.none 0 0)]⟩,
  ⟨.fn, (.sc .fn), 1, 8, [Go.Value.nilFunc]⟩,
  ⟨.fn, (.sc .fn), 1, 8, [Go.Value.nilFunc]⟩,
  ⟨.array 255 5, (.arr (.int .u8)), 255, 255, [(Go.Value.int Go.IntKind.u8 0), (Go.Value.int Go.IntKind.u8 0), (Go.Value.int Go.IntKind.u8 0), (Go.Value.int Go.IntKind.u8 0), (Go.Value.int Go.IntKind.u8 0), (Go.Value.int Go.IntKind.u8 0), (Go.Value.int Go.IntKind.u8 0), (Go.Value.int Go.IntKind.u8 0), (Go.Value.int Go.IntKind.u8 0), (Go.Value.int Go.IntKind.u8 0), (Go.Value.int Go.IntKind.u8 0), (Go.Value.int Go.IntKind.u8 0), (Go.Value.int Go.IntKind.u8 0), (Go.Value.int Go.IntKind.u8 0), (Go.Value.int Go.IntKind.u8 0), (Go.Value.int Go.IntKind.u8 0), (Go.Value.int Go.IntKind.u8 0), (Go.Value.int Go.IntKind.u8 0), (Go.Value.int Go.IntKind.u8 0), (Go.Value.int Go.IntKind.u8 0), (Go.Value.int Go.IntKind.u8 0), (Go.Value.int Go.IntKind.u8 0), (Go.Value.int Go.IntKind.u8 0), (Go.Value.int Go.IntKind.u8 0), (Go.Value.int Go.IntKind.u8 0), (Go.Value.int Go.IntKind.u8 0), (Go.Value.int Go.IntKind.u8 0), (Go.Value.int Go.IntKind.u8 0), (Go.Value.int Go.IntKind.u8 0), (Go.Value.int Go.IntKind.u8 0), (Go.Value.int Go.IntKind.u8 0), (Go.Value.int Go.IntKind.u8 0), (Go.Value.int Go.IntKind.u8 0), (Go.Value.int Go.IntKind.u8 0), (Go.Value.int Go.IntKind.u8 0), (Go.Value.int Go.IntKind.u8 0), (Go.Value.int Go.IntKind.u8 0), (Go.Value.int Go.IntKind.u8 0), (Go.Value.int Go.IntKind.u8 0), (Go.Value.int Go.IntKind.u8 0), (Go.Value.int Go.IntKind.u8 0), (Go.Value.int Go.IntKind.u8 0), (Go.Value.int Go.IntKind.u8 0), (Go.Value.int Go.IntKind.u8 0), (Go.Value.int Go.IntKind.u8 0), (Go.Value.int Go.IntKind.u8 0), (Go.Value.int Go.IntKind.u8 0), (Go.Value.int Go.IntKind.u8 0), (Go.Value.int Go.IntKind.u8 0), (Go.Value.int Go.IntKind.u8 0), (Go.Value.int Go.IntKind.u8 0), (Go.Value.int Go.IntKind.u8 0), (Go.Value.int Go.IntKind.u8 0), (Go.Value.int Go.IntKind.u8 0), (Go.Value.int Go.IntKind.u8 0), (Go.Value.int Go.IntKind.u8 0), (Go.Value.int Go.IntKind.u8 0), (Go.Value.int Go.IntKind.u8 0), (Go.Value.int Go.IntKind.u8 0), (Go.Value.int Go.IntKind.u8 0), (Go.Value.int Go.IntKind.u8 0), (Go.Value.int Go.IntKind.u8 0), (Go.Value.int Go.IntKind.u8 0), (Go.Value.int Go.IntKind.u8 0), (Go.Value.int Go.IntKind.u8 0), (Go.Value.int Go.IntKind.u8 0), (Go.Value.int Go.IntKind.u8 0), (Go.Value.int Go.IntKind.u8 0), (Go.Value.int Go.IntKind.u8 0), (Go.Value.int Go.IntKind.u8 0), (Go.Value.int Go.IntKind.u8 0), (Go.Value.int Go.IntKind.u8 0), (Go.Value.int Go.IntKind.u8 0), (Go.Value.int Go.IntKind.u8 0), (Go.Value.int Go.IntKind.u8 0), (Go.Value.int Go.IntKind.u8 0), (Go.Value.int Go.IntKind.u8 0), (Go.Value.int Go.IntKind.u8 0), (Go.Value.int Go.IntKind.u8 0), (Go.Value.int Go.IntKind.u8 0), (Go.Value.int Go.IntKind.u8 0), (Go.Value.int Go.IntKind.u8 0), (Go.Value.int Go.IntKind.u8 0), (Go.Value.int Go.IntKind.u8 0), (Go.Value.int Go.IntKind.u8 0), (Go.Value.int Go.IntKind.u8 0), (Go.Value.int Go.IntKind.u8 0), (Go.Value.int Go.IntKind.u8 0), (Go.Value.int Go.IntKind.u8 0), (Go.Value.int Go.IntKind.u8 0), (Go.Value.int Go.IntKind.u8 0), (Go.Value.int Go.IntKind.u8 0), (Go.Value.int Go.IntKind.u8 0), (Go.Value.int Go.IntKind.u8 0), (Go.Value.int Go.IntKind.u8 0), (Go.Value.int Go.IntKind.u8 0), (Go.Value.int Go.IntKind.u8 0), (Go.Value.int Go.IntKind.u8 0), (Go.Value.int Go.IntKind.u8 0), (Go.Value.int Go.IntKind.u8 0), (Go.Value.int Go.IntKind.u8 0), (Go.Value.int Go.IntKind.u8 0), (Go.Value.int Go.IntKind.u8 0), (Go.Value.int Go.IntKind.u8 0), (Go.Value.int Go.IntKind.u8 0), (Go.Value.int Go.IntKind.u8 0), (Go.Value.int Go.IntKind.u8 0), (Go.Value.int Go.IntKind.u8 0), (Go.Value.int Go.IntKind.u8 0), (Go.Value.int Go.IntKind.u8 0), (Go.Value.int Go.IntKind.u8 0), (Go.Value.int Go.IntKind.u8 0), (Go.Value.int Go.IntKind.u8 0), (Go.Value.int Go.IntKind.u8 0), (Go.Value.int Go.IntKind.u8 0), (Go.Value.int Go.IntKind.u8 0), (Go.Value.int Go.IntKind.u8 0), (Go.Value.int Go.IntKind.u8 0), (Go.Value.int Go.IntKind.u8 0), (Go.Value.int Go.IntKind.u8 0), (Go.Value.int Go.IntKind.u8 0), (Go.Value.int Go.IntKind.u8 0), (Go.Value.int Go.IntKind.u8 0), (Go.Value.int Go.IntKind.u8 0), (Go.Value.int Go.IntKind.u8 0), (Go.Value.int Go.IntKind.u8 0), (Go.Value.int Go.IntKind.u8 0), (Go.Value.int Go.IntKind.u8 0), (Go.Value.int Go.IntKind.u8 0), (Go.Value.int Go.IntKind.u8 0), (Go.Value.int Go.IntKind.u8 0), (Go.Value.int Go.IntKind.u8 0), (Go.Value.int Go.IntKind.u8 0), (Go.Value.int Go.IntKind.u8 0), (Go.Value.int Go.IntKind.u8 0), (Go.Value.int Go.IntKind.u8 0), (Go.Value.int Go.IntKind.u8 0), (Go.Value.int Go.IntKind.u8 0), (Go.Value.int Go.IntKind.u8 0), (Go.Value.int Go.IntKind.u8 0), (Go.Value.int Go.IntKind.u8 0), (Go.Value.int Go.IntKind.u8 0), (Go.Value.int Go.IntKind.u8 0), (Go.Value.int Go.IntKind.u8 0), (Go.Value.int Go.IntKind.u8 0), (Go.Value.int Go.IntKind.u8 0), (Go.Value.int Go.IntKind.u8 0), (Go.Value.int Go.IntKind.u8 0), (Go.Value.int Go.IntKind.u8 0), (Go.Value.int Go.IntKind.u8 0), (Go.Value.int Go.IntKind.u8 0), (Go.Value.int Go.IntKind.u8 0), (Go.Value.int Go.IntKind.u8 0), (Go.Value.int Go.IntKind.u8 0), (Go.Value.int Go.IntKind.u8 0), (Go.Value.int Go.IntKind.u8 0), (Go.Value.int Go.IntKind.u8 0), (Go.Value.int Go.IntKind.u8 0), (Go.Value.int Go.IntKind.u8 0), (Go.Value.int Go.IntKind.u8 0), (Go.Value.int Go.IntKind.u8 0), (Go.Value.int Go.IntKind.u8 0), (Go.Value.int Go.IntKind.u8 0), (Go.Value.int Go.IntKind.u8 0), (Go.Value.int Go.IntKind.u8 0), (Go.Value.int Go.IntKind.u8 0), (Go.Value.int Go.IntKind.u8 0), (Go.Value.int Go.IntKind.u8 0), (Go.Value.int Go.IntKind.u8 0), (Go.Value.int Go.IntKind.u8 0), (Go.Value.int Go.IntKind.u8 0), (Go.Value.int Go.IntKind.u8 0), (Go.Value.int Go.IntKind.u8 0), (Go.Value.int Go.IntKind.u8 0), (Go.Value.int Go.IntKind.u8 0), (Go.Value.int Go.IntKind.u8 0), (Go.Value.int Go.IntKind.u8 0), (Go.Value.int Go.IntKind.u8 0), (Go.Value.int Go.IntKind.u8 0), (Go.Value.int Go.IntKind.u8 0), (Go.Value.int Go.IntKind.u8 0), (Go.Value.int Go.IntKind.u8 0), (Go.Value.int Go.IntKind.u8 0), (Go.Value.int Go.IntKind.u8 0), (Go.Value.int Go.IntKind.u8 0), (Go.Value.int Go.IntKind.u8 0), (Go.Value.int Go.IntKind.u8 0), (Go.Value.int Go.IntKind.u8 0), (Go.Value.int Go.IntKind.u8 0), (Go.Value.int Go.IntKind.u8 0), (Go.Value.int Go.IntKind.u8 0), (Go.Value.int Go.IntKind.u8 0), (Go.Value.int Go.IntKind.u8 0), (Go.Value.int Go.IntKind.u8 0), (Go.Value.int Go.IntKind.u8 0), (Go.Value.int Go.IntKind.u8 0), (Go.Value.int Go.IntKind.u8 0), (Go.Value.int Go.IntKind.u8 0), (Go.Value.int Go.IntKind.u8 0), (Go.Value.int Go.IntKind.u8 0), (Go.Value.int Go.IntKind.u8 0), (Go.Value.int Go.IntKind.u8 0), (Go.Value.int Go.IntKind.u8 0), (Go.Value.int Go.IntKind.u8 0), (Go.Value.int Go.IntKind.u8 0), (Go.Value.int Go.IntKind.u8 0), (Go.Value.int Go.IntKind.u8 0), (Go.Value.int Go.IntKind.u8 0), (Go.Value.int Go.IntKind.u8 0), (Go.Value.int Go.IntKind.u8 0), (Go.Value.int Go.IntKind.u8 0), (Go.Value.int Go.IntKind.u8 0), (Go.Value.int Go.IntKind.u8 0), (Go.Value.int Go.IntKind.u8 0), (Go.Value.int Go.IntKind.u8 0), (Go.Value.int Go.IntKind.u8 0), (Go.Value.int Go.IntKind.u8 0), (Go.Value.int Go.IntKind.u8 0), (Go.Value.int Go.IntKind.u8 0), (Go.Value.int Go.IntKind.u8 0), (Go.Value.int Go.IntKind.u8 0), (Go.Value.int Go.IntKind.u8 0), (Go.Value.int Go.IntKind.u8 0), (Go.Value.int Go.IntKind.u8 0), (Go.Value.int Go.IntKind.u8 0), (Go.Value.int Go.IntKind.u8 0), (Go.Value.int Go.IntKind.u8 0), (Go.Value.int Go.IntKind.u8 0), (Go.Value.int Go.IntKind.u8 0), (Go.Value.int Go.IntKind.u8 0), (Go.Value.int Go.IntKind.u8 0), (Go.Value.int Go.IntKind.u8 0), (Go.Value.int Go.IntKind.u8 0), (Go.Value.int Go.IntKind.u8 0), (Go.Value.int Go.IntKind.u8 0), (Go.Value.int Go.IntKind.u8 0), (Go.Value.int Go.IntKind.u8 0), (Go.Value.int Go.IntKind.u8 0), (Go.Value.int Go.IntKind.u8 0), (Go.Value.int Go.IntKind.u8 0), (Go.Value.int Go.IntKind.u8 0), (Go.Value.int Go.IntKind.u8 0), (Go.Value.int Go.IntKind.u8 0), (Go.Value.int Go.IntKind.u8 0), (Go.Value.int Go.IntKind.u8 0), (Go.Value.int Go.IntKind.u8 0), (Go.Value.int Go.IntKind.u8 0), (Go.Value.int Go.IntKind.u8 0), (Go.Value.int Go.IntKind.u8 0), (Go.Value.int Go.IntKind.u8 0), (Go.Value.int Go.IntKind.u8 0), (Go.Value.int Go.IntKind.u8 0), (Go.Value.int Go.IntKind.u8 0), (Go.Value.int Go.IntKind.u8 0), (Go.Value.int Go.IntKind.u8 0)]⟩,
  ⟨.fn, (.sc .fn), 1, 8, [Go.Value.nilFunc]⟩,
  ⟨.array 256 3, (.arr (.int .i64)), 256, 2048, [(Go.Value.int Go.IntKind.i64 0), (Go.Value.int Go.IntKind.i64 0), (Go.Value.int Go.IntKind.i64 0), (Go.Value.int Go.IntKind.i64 0), (Go.Value.int Go.IntKind.i64 0), (Go.Value.int Go.IntKind.i64 0), (Go.Value.int Go.IntKind.i64 0), (Go.Value.int Go.IntKind.i64 0), (Go.Value.int Go.IntKind.i64 0), (Go.Value.int Go.IntKind.i64 0), (Go.Value.int Go.IntKind.i64 0), (Go.Value.int Go.IntKind.i64 0), (Go.Value.int Go.IntKind.i64 0), (Go.Value.int Go.IntKind.i64 0), (Go.Value.int Go.IntKind.i64 0), (Go.Value.int Go.IntKind.i64 0), (Go.Value.int Go.IntKind.i64 0), (Go.Value.int Go.IntKind.i64 0), (Go.Value.int Go.IntKind.i64 0), (Go.Value.int Go.IntKind.i64 0), (Go.Value.int Go.IntKind.i64 0), (Go.Value.int Go.IntKind.i64 0), (Go.Value.int Go.IntKind.i64 0), (Go.Value.int Go.IntKind.i64 0), (Go.Value.int Go.IntKind.i64 0), (Go.Value.int Go.IntKind.i64 0), (Go.Value.int Go.IntKind.i64 0), (Go.Value.int Go.IntKind.i64 0), (Go.Value.int Go.IntKind.i64 0), (Go.Value.int Go.IntKind.i64 0), (Go.Value.int Go.IntKind.i64 0), (Go.Value.int Go.IntKind.i64 0), (Go.Value.int Go.IntKind.i64 0), (Go.Value.int Go.IntKind.i64 0), (Go.Value.int Go.IntKind.i64 0), (Go.Value.int Go.IntKind.i64 0), (Go.Value.int Go.IntKind.i64 0), (Go.Value.int Go.IntKind.i64 0), (Go.Value.int Go.IntKind.i64 0), (Go.Value.int Go.IntKind.i64 0), (Go.Value.int Go.IntKind.i64 0), (Go.Value.int Go.IntKind.i64 0), (Go.Value.int Go.IntKind.i64 0), (Go.Value.int Go.IntKind.i64 0), (Go.Value.int Go.IntKind.i64 0), (Go.Value.int Go.IntKind.i64 0), (Go.Value.int Go.IntKind.i64 0), (Go.Value.int Go.IntKind.i64 0), (Go.Value.int Go.IntKind.i64 0), (Go.Value.int Go.IntKind.i64 0), (Go.Value.int Go.IntKind.i64 0), (Go.Value.int Go.IntKind.i64 0), (Go.Value.int Go.IntKind.i64 0), (Go.Value.int Go.IntKind.i64 0), (Go.Value.int Go.IntKind.i64 0), (Go.Value.int Go.IntKind.i64 0), (Go.Value.int Go.IntKind.i64 0), (Go.Value.int Go.IntKind.i64 0), (Go.Value.int Go.IntKind.i64 0), (Go.Value.int Go.IntKind.i64 0), (Go.Value.int Go.IntKind.i64 0), (Go.Value.int Go.IntKind.i64 0), (Go.Value.int Go.IntKind.i64 0), (Go.Value.int Go.IntKind.i64 0), (Go.Value.int Go.IntKind.i64 0), (Go.Value.int Go.IntKind.i64 0), (Go.Value.int Go.IntKind.i64 0), (Go.Value.int Go.IntKind.i64 0), (Go.Value.int Go.IntKind.i64 0), (Go.Value.int Go.IntKind.i64 0), (Go.Value.int Go.IntKind.i64 0), (Go.Value.int Go.IntKind.i64 0), (Go.Value.int Go.IntKind.i64 0), (Go.Value.int Go.IntKind.i64 0), (Go.Value.int Go.IntKind.i64 0), (Go.Value.int Go.IntKind.i64 0), (Go.Value.int Go.IntKind.i64 0), (Go.Value.int Go.IntKind.i64 0), (Go.Value.int Go.IntKind.i64 0), (Go.Value.int Go.IntKind.i64 0), (Go.Value.int Go.IntKind.i64 0), (Go.Value.int Go.IntKind.i64 0), (Go.Value.int Go.IntKind.i64 0), (Go.Value.int Go.IntKind.i64 0), (Go.Value.int Go.IntKind.i64 0), (Go.Value.int Go.IntKind.i64 0), (Go.Value.int Go.IntKind.i64 0), (Go.Value.int Go.IntKind.i64 0), (Go.Value.int Go.IntKind.i64 0), (Go.Value.int Go.IntKind.i64 0), (Go.Value.int Go.IntKind.i64 0), (Go.Value.int Go.IntKind.i64 0), (Go.Value.int Go.IntKind.i64 0), (Go.Value.int Go.IntKind.i64 0), (Go.Value.int Go.IntKind.i64 0), (Go.Value.int Go.IntKind.i64 0), (Go.Value.int Go.IntKind.i64 0), (Go.Value.int Go.IntKind.i64 0), (Go.Value.int Go.IntKind.i64 0), (Go.Value.int Go.IntKind.i64 0), (Go.Value.int Go.IntKind.i64 0), (Go.Value.int Go.IntKind.i64 0), (Go.Value.int Go.IntKind.i64 0), (Go.Value.int Go.IntKind.i64 0), (Go.Value.int Go.IntKind.i64 0), (Go.Value.int Go.IntKind.i64 0), (Go.Value.int Go.IntKind.i64 0), (Go.Value.int Go.IntKind.i64 0), (Go.Value.int Go.IntKind.i64 0), (Go.Value.int Go.IntKind.i64 0), (Go.Value.int Go.IntKind.i64 0), (Go.Value.int Go.IntKind.i64 0), (Go.Value.int Go.IntKind.i64 0), (Go.Value.int Go.IntKind.i64 0), (Go.Value.int Go.IntKind.i64 0), (Go.Value.int Go.IntKind.i64 0), (Go.Value.int Go.IntKind.i64 0), (Go.Value.int Go.IntKind.i64 0), (Go.Value.int Go.IntKind.i64 0), (Go.Value.int Go.IntKind.i64 0), (Go.Value.int Go.IntKind.i64 0), (Go.Value.int Go.IntKind.i64 0), (Go.Value.int Go.IntKind.i64 0), (Go.Value.int Go.IntKind.i64 0), (Go.Value.int Go.IntKind.i64 0), (Go.Value.int Go.IntKind.i64 0), (Go.Value.int Go.IntKind.i64 0), (Go.Value.int Go.IntKind.i64 0), (Go.Value.int Go.IntKind.i64 0), (Go.Value.int Go.IntKind.i64 0), (Go.Value.int Go.IntKind.i64 0), (Go.Value.int Go.IntKind.i64 0), (Go.Value.int Go.IntKind.i64 0), (Go.Value.int Go.IntKind.i64 0), (Go.Value.int Go.IntKind.i64 0), (Go.Value.int Go.IntKind.i64 0), (Go.Value.int Go.IntKind.i64 0), (Go.Value.int Go.IntKind.i64 0), (Go.Value.int Go.IntKind.i64 0), (Go.Value.int Go.IntKind.i64 0), (Go.Value.int Go.IntKind.i64 0), (Go.Value.int Go.IntKind.i64 0), (Go.Value.int Go.IntKind.i64 0), (Go.Value.int Go.IntKind.i64 0), (Go.Value.int Go.IntKind.i64 0), (Go.Value.int Go.IntKind.i64 0), (Go.Value.int Go.IntKind.i64 0), (Go.Value.int Go.IntKind.i64 0), (Go.Value.int Go.IntKind.i64 0), (Go.Value.int Go.IntKind.i64 0), (Go.Value.int Go.IntKind.i64 0), (Go.Value.int Go.IntKind.i64 0), (Go.Value.int Go.IntKind.i64 0), (Go.Value.int Go.IntKind.i64 0), (Go.Value.int Go.IntKind.i64 0), (Go.Value.int Go.IntKind.i64 0), (Go.Value.int Go.IntKind.i64 0), (Go.Value.int Go.IntKind.i64 0), (Go.Value.int Go.IntKind.i64 0), (Go.Value.int Go.IntKind.i64 0), (Go.Value.int Go.IntKind.i64 0), (Go.Value.int Go.IntKind.i64 0), (Go.Value.int Go.IntKind.i64 0), (Go.Value.int Go.IntKind.i64 0), (Go.Value.int Go.IntKind.i64 0), (Go.Value.int Go.IntKind.i64 0), (Go.Value.int Go.IntKind.i64 0), (Go.Value.int Go.IntKind.i64 0), (Go.Value.int Go.IntKind.i64 0), (Go.Value.int Go.IntKind.i64 0), (Go.Value.int Go.IntKind.i64 0), (Go.Value.int Go.IntKind.i64 0), (Go.Value.int Go.IntKind.i64 0), (Go.Value.int Go.IntKind.i64 0), (Go.Value.int Go.IntKind.i64 0), (Go.Value.int Go.IntKind.i64 0), (Go.Value.int Go.IntKind.i64 0), (Go.Value.int Go.IntKind.i64 0), (Go.Value.int Go.IntKind.i64 0), (Go.Value.int Go.IntKind.i64 0), (Go.Value.int Go.IntKind.i64 0), (Go.Value.int Go.IntKind.i64 0), (Go.Value.int Go.IntKind.i64 0), (Go.Value.int Go.IntKind.i64 0), (Go.Value.int Go.IntKind.i64 0), (Go.Value.int Go.IntKind.i64 0), (Go.Value.int Go.IntKind.i64 0), (Go.Value.int Go.IntKind.i64 0), (Go.Value.int Go.IntKind.i64 0), (Go.Value.int Go.IntKind.i64 0), (Go.Value.int Go.IntKind.i64 0), (Go.Value.int Go.IntKind.i64 0), (Go.Value.int Go.IntKind.i64 0), (Go.Value.int Go.IntKind.i64 0), (Go.Value.int Go.IntKind.i64 0), (Go.Value.int Go.IntKind.i64 0), (Go.Value.int Go.IntKind.i64 0), (Go.Value.int Go.IntKind.i64 0), (Go.Value.int Go.IntKind.i64 0), (Go.Value.int Go.IntKind.i64 0), (Go.Value.int Go.IntKind.i64 0), (Go.Value.int Go.IntKind.i64 0), (Go.Value.int Go.IntKind.i64 0), (Go.Value.int Go.IntKind.i64 0), (Go.Value.int Go.IntKind.i64 0), (Go.Value.int Go.IntKind.i64 0), (Go.Value.int Go.IntKind.i64 0), (Go.Value.int Go.IntKind.i64 0), (Go.Value.int Go.IntKind.i64 0), (Go.Value.int Go.IntKind.i64 0), (Go.Value.int Go.IntKind.i64 0), (Go.Value.int Go.IntKind.i64 0), (Go.Value.int Go.IntKind.i64 0), (Go.Value.int Go.IntKind.i64 0), (Go.Value.int Go.IntKind.i64 0), (Go.Value.int Go.IntKind.i64 0), (Go.Value.int Go.IntKind.i64 0), (Go.Value.int Go.IntKind.i64 0), (Go.Value.int Go.IntKind.i64 0), (Go.Value.int Go.IntKind.i64 0), (Go.Value.int Go.IntKind.i64 0), (Go.Value.int Go.IntKind.i64 0), (Go.Value.int Go.IntKind.i64 0), (Go.Value.int Go.IntKind.i64 0), (Go.Value.int Go.IntKind.i64 0), (Go.Value.int Go.IntKind.i64 0), (Go.Value.int Go.IntKind.i64 0), (Go.Value.int Go.IntKind.i64 0), (Go.Value.int Go.IntKind.i64 0), (Go.Value.int Go.IntKind.i64 0), (Go.Value.int Go.IntKind.i64 0), (Go.Value.int Go.IntKind.i64 0), (Go.Value.int Go.IntKind.i64 0), (Go.Value.int Go.IntKind.i64 0), (Go.Value.int Go.IntKind.i64 0), (Go.Value.int Go.IntKind.i64 0), (Go.Value.int Go.IntKind.i64 0), (Go.Value.int Go.IntKind.i64 0), (Go.Value.int Go.IntKind.i64 0), (Go.Value.int Go.IntKind.i64 0), (Go.Value.int Go.IntKind.i64 0), (Go.Value.int Go.IntKind.i64 0), (Go.Value.int Go.IntKind.i64 0), (Go.Value.int Go.IntKind.i64 0), (Go.Value.int Go.IntKind.i64 0), (Go.Value.int Go.IntKind.i64 0), (Go.Value.int Go.IntKind.i64 0), (Go.Value.int Go.IntKind.i64 0), (Go.Value.int Go.IntKind.i64 0), (Go.Value.int Go.IntKind.i64 0), (Go.Value.int Go.IntKind.i64 0), (Go.Value.int Go.IntKind.i64 0), (Go.Value.int Go.IntKind.i64 0), (Go.Value.int Go.IntKind.i64 0), (Go.Value.int Go.IntKind.i64 0), (Go.Value.int Go.IntKind.i64 0)]⟩,
  ⟨.fn, (.sc .fn), 1, 8, [Go.Value.nilFunc]⟩,
  ⟨.struct [(0, 62), (255, 64)], (.arr .any), 511, 2304, [(Go.Value.int Go.IntKind.u8 0), (Go.Value.int Go.IntKind.u8 0), (Go.Value.int Go.IntKind.u8 0), (Go.Value.int Go.IntKind.u8 0), (Go.Value.int Go.IntKind.u8 0), (Go.Value.int Go.IntKind.u8 0), (Go.Value.int Go.IntKind.u8 0), (Go.Value.int Go.IntKind.u8 0), (Go.Value.int Go.IntKind.u8 0), (Go.Value.int Go.IntKind.u8 0), (Go.Value.int Go.IntKind.u8 0), (Go.Value.int Go.IntKind.u8 0), (Go.Value.int Go.IntKind.u8 0), (Go.Value.int Go.IntKind.u8 0), (Go.Value.int Go.IntKind.u8 0), (Go.Value.int Go.IntKind.u8 0), (Go.Value.int Go.IntKind.u8 0), (Go.Value.int Go.IntKind.u8 0), (Go.Value.int Go.IntKind.u8 0), (Go.Value.int Go.IntKind.u8 0), (Go.Value.int Go.IntKind.u8 0), (Go.Value.int Go.IntKind.u8 0), (Go.Value.int Go.IntKind.u8 0), (Go.Value.int Go.IntKind.u8 0), (Go.Value.int Go.IntKind.u8 0), (Go.Value.int Go.IntKind.u8 0), (Go.Value.int Go.IntKind.u8 0), (Go.Value.int Go.IntKind.u8 0), (Go.Value.int Go.IntKind.u8 0), (Go.Value.int Go.IntKind.u8 0), (Go.Value.int Go.IntKind.u8 0), (Go.Value.int Go.IntKind.u8 0), (Go.Value.int Go.IntKind.u8 0), (Go.Value.int Go.IntKind.u8 0), (Go.Value.int Go.IntKind.u8 0), (Go.Value.int Go.IntKind.u8 0), (Go.Value.int Go.IntKind.u8 0), (Go.Value.int Go.IntKind.u8 0), (Go.Value.int Go.IntKind.u8 0), (Go.Value.int Go.IntKind.u8 0), (Go.Value.int Go.IntKind.u8 0), (Go.Value.int Go.IntKind.u8 0), (Go.Value.int Go.IntKind.u8 0), (Go.Value.int Go.IntKind.u8 0), (Go.Value.int Go.IntKind.u8 0), (Go.Value.int Go.IntKind.u8 0), (Go.Value.int Go.IntKind.u8 0), (Go.Value.int Go.IntKind.u8 0), (Go.Value.int Go.IntKind.u8 0), (Go.Value.int Go.IntKind.u8 0), (Go.Value.int Go.IntKind.u8 0), (Go.Value.int Go.IntKind.u8 0), (Go.Value.int Go.IntKind.u8 0), (Go.Value.int Go.IntKind.u8 0), (Go.Value.int Go.IntKind.u8 0), (Go.Value.int Go.IntKind.u8 0), (Go.Value.int Go.IntKind.u8 0), (Go.Value.int Go.IntKind.u8 0), (Go.Value.int Go.IntKind.u8 0), (Go.Value.int Go.IntKind.u8 0), (Go.Value.int Go.IntKind.u8 0), (Go.Value.int Go.IntKind.u8 0), (Go.Value.int Go.IntKind.u8 0), (Go.Value.int Go.IntKind.u8 0), (Go.Value.int Go.IntKind.u8 0), (Go.Value.int Go.IntKind.u8 0), (Go.Value.int Go.IntKind.u8 0), (Go.Value.int Go.IntKind.u8 0), (Go.Value.int Go.IntKind.u8 0), (Go.Value.int Go.IntKind.u8 0), (Go.Value.int Go.IntKind.u8 0), (Go.Value.int Go.IntKind.u8 0), (Go.Value.int Go.IntKind.u8 0), (Go.Value.int Go.IntKind.u8 0), (Go.Value.int Go.IntKind.u8 0), (Go.Value.int Go.IntKind.u8 0), (Go.Value.int Go.IntKind.u8 0), (Go.Value.int Go.IntKind.u8 0), (Go.Value.int Go.IntKind.u8 0), (Go.Value.int Go.IntKind.u8 0), (Go.Value.int Go.IntKind.u8 0), (Go.Value.int Go.IntKind.u8 0), (Go.Value.int Go.IntKind.u8 0), (Go.Value.int Go.IntKind.u8 0), (Go.Value.int Go.IntKind.u8 0), (Go.Value.int Go.IntKind.u8 0), (Go.Value.int Go.IntKind.u8 0), (Go.Value.int Go.IntKind.u8 0), (Go.Value.int Go.IntKind.u8 0), (Go.Value.int Go.IntKind.u8 0), (Go.Value.int Go.IntKind.u8 0), (Go.Value.int Go.IntKind.u8 0), (Go.Value.int Go.IntKind.u8 0), (Go.Value.int Go.IntKind.u8 0), (Go.Value.int Go.IntKind.u8 0), (Go.Value.int Go.IntKind.u8 0), (Go.Value.int Go.IntKind.u8 0), (Go.Value.int Go.IntKind.u8 0), (Go.Value.int Go.IntKind.u8 0), (Go.Value.int Go.IntKind.u8 0), (Go.Value.int Go.IntKind.u8 0), (Go.Value.int Go.IntKind.u8 0), (Go.Value.int Go.IntKind.u8 0), (Go.Value.int Go.IntKind.u8 0), (Go.Value.int Go.IntKind.u8 0), (Go.Value.int Go.IntKind.u8 0), (Go.Value.int Go.IntKind.u8 0), (Go.Value.int Go.IntKind.u8 0), (Go.Value.int Go.IntKind.u8 0), (Go.Value.int Go.IntKind.u8 0), (Go.Value.int Go.IntKind.u8 0), (Go.Value.int Go.IntKind.u8 0), (Go.Value.int Go.IntKind.u8 0), (Go.Value.int Go.IntKind.u8 0), (Go.Value.int Go.IntKind.u8 0), (Go.Value.int Go.IntKind.u8 0), (Go.Value.int Go.IntKind.u8 0), (Go.Value.int Go.IntKind.u8 0), (Go.Value.int Go.IntKind.u8 0), (Go.Value.int Go.IntKind.u8 0), (Go.Value.int Go.IntKind.u8 0), (Go.Value.int Go.IntKind.u8 0), (Go.Value.int Go.IntKind.u8 0), (Go.Value.int Go.IntKind.u8 0), (Go.Value.int Go.IntKind.u8 0), (Go.Value.int Go.IntKind.u8 0), (Go.Value.int Go.IntKind.u8 0), (Go.Value.int Go.IntKind.u8 0), (Go.Value.int Go.IntKind.u8 0), (Go.Value.int Go.IntKind.u8 0), (Go.Value.int Go.IntKind.u8 0), (Go.Value.int Go.IntKind.u8 0), (Go.Value.int Go.IntKind.u8 0), (Go.Value.int Go.IntKind.u8 0), (Go.Value.int Go.IntKind.u8 0), (Go.Value.int Go.IntKind.u8 0), (Go.Value.int Go.IntKind.u8 0), (Go.Value.int Go.IntKind.u8 0), (Go.Value.int Go.IntKind.u8 0), (Go.Value.int Go.IntKind.u8 0), (Go.Value.int Go.IntKind.u8 0), (Go.Value.int Go.IntKind.u8 0), (Go.Value.int Go.IntKind.u8 0), (Go.Value.int Go.IntKind.u8 0), (Go.Value.int Go.IntKind.u8 0), (Go.Value.int Go.IntKind.u8 0), (Go.Value.int Go.IntKind.u8 0), (Go.Value.int Go.IntKind.u8 0), (Go.Value.int Go.IntKind.u8 0), (Go.Value.int Go.IntKind.u8 0), (Go.Value.int Go.IntKind.u8 0), (Go.Value.int Go.IntKind.u8 0), (Go.Value.int Go.IntKind.u8 0), (Go.Value.int Go.IntKind.u8 0), (Go.Value.int Go.IntKind.u8 0), (Go.Value.int Go.IntKind.u8 0), (Go.Value.int Go.IntKind.u8 0), (Go.Value.int Go.IntKind.u8 0), (Go.Value.int Go.IntKind.u8 0), (Go.Value.int Go.IntKind.u8 0), (Go.Value.int Go.IntKind.u8 0), (Go.Value.int Go.IntKind.u8 0), (Go.Value.int Go.IntKind.u8 0), (Go.Value.int Go.IntKind.u8 0), (Go.Value.int Go.IntKind.u8 0), (Go.Value.int Go.IntKind.u8 0), (Go.Value.int Go.IntKind.u8 0), (Go.Value.int Go.IntKind.u8 0), (Go.Value.int Go.IntKind.u8 0), (Go.Value.int Go.IntKind.u8 0), (Go.Value.int Go.IntKind.u8 0), (Go.Value.int Go.IntKind.u8 0), (Go.Value.int Go.IntKind.u8 0), (Go.Value.int Go.IntKind.u8 0), (Go.Value.int Go.IntKind.u8 0), (Go.Value.int Go.IntKind.u8 0), (Go.Value.int Go.IntKind.u8 0), (Go.Value.int Go.IntKind.u8 0), (Go.Value.int Go.IntKind.u8 0), (Go.Value.int Go.IntKind.u8 0), (Go.Value.int Go.IntKind.u8 0), (Go.Value.int Go.IntKind.u8 0), (Go.Value.int Go.IntKind.u8 0), (Go.Value.int Go.IntKind.u8 0), (Go.Value.int Go.IntKind.u8 0), (Go.Value.int Go.IntKind.u8 0), (Go.Value.int Go.IntKind.u8 0), (Go.Value.int Go.IntKind.u8 0), (Go.Value.int Go.IntKind.u8 0), (Go.Value.int Go.IntKind.u8 0), (Go.Value.int Go.IntKind.u8 0), (Go.Value.int Go.IntKind.u8 0), (Go.Value.int Go.IntKind.u8 0), (Go.Value.int Go.IntKind.u8 0), (Go.Value.int Go.IntKind.u8 0), (Go.Value.int Go.IntKind.u8 0), (Go.Value.int Go.IntKind.u8 0), (Go.Value.int Go.IntKind.u8 0), (Go.Value.int Go.IntKind.u8 0), (Go.Value.int Go.IntKind.u8 0), (Go.Value.int Go.IntKind.u8 0), (Go.Value.int Go.IntKind.u8 0), (Go.Value.int Go.IntKind.u8 0), (Go.Value.int Go.IntKind.u8 0), (Go.Value.int Go.IntKind.u8 0), (Go.Value.int Go.IntKind.u8 0), (Go.Value.int Go.IntKind.u8 0), (Go.Value.int Go.IntKind.u8 0), (Go.Value.int Go.IntKind.u8 0), (Go.Value.int Go.IntKind.u8 0), (Go.Value.int Go.IntKind.u8 0), (Go.Value.int Go.IntKind.u8 0), (Go.Value.int Go.IntKind.u8 0), (Go.Value.int Go.IntKind.u8 0), (Go.Value.int Go.IntKind.u8 0), (Go.Value.int Go.IntKind.u8 0), (Go.Value.int Go.IntKind.u8 0), (Go.Value.int Go.IntKind.u8 0), (Go.Value.int Go.IntKind.u8 0), (Go.Value.int Go.IntKind.u8 0), (Go.Value.int Go.IntKind.u8 0), (Go.Value.int Go.IntKind.u8 0), (Go.Value.int Go.IntKind.u8 0), (Go.Value.int Go.IntKind.u8 0), (Go.Value.int Go.IntKind.u8 0), (Go.Value.int Go.IntKind.u8 0), (Go.Value.int Go.IntKind.u8 0), (Go.Value.int Go.IntKind.u8 0), (Go.Value.int Go.IntKind.u8 0), (Go.Value.int Go.IntKind.u8 0), (Go.Value.int Go.IntKind.u8 0), (Go.Value.int Go.IntKind.u8 0), (Go.Value.int Go.IntKind.u8 0), (Go.Value.int Go.IntKind.u8 0), (Go.Value.int Go.IntKind.u8 0), (Go.Value.int Go.IntKind.u8 0), (Go.Value.int Go.IntKind.u8 0), (Go.Value.int Go.IntKind.u8 0), (Go.Value.int Go.IntKind.u8 0), (Go.Value.int Go.IntKind.u8 0), (Go.Value.int Go.IntKind.u8 0), (Go.Value.int Go.IntKind.u8 0), (Go.Value.int Go.IntKind.u8 0), (Go.Value.int Go.IntKind.u8 0), (Go.Value.int Go.IntKind.u8 0), (Go.Value.int Go.IntKind.u8 0), (Go.Value.int Go.IntKind.u8 0), (Go.Value.int Go.IntKind.u8 0), (Go.Value.int Go.IntKind.u8 0), (Go.Value.int Go.IntKind.u8 0), (Go.Value.int Go.IntKind.u8 0), (Go.Value.int Go.IntKind.u8 0), (Go.Value.int Go.IntKind.u8 0), (Go.Value.int Go.IntKind.u8 0), (Go.Value.int Go.IntKind.u8 0), (Go.Value.int Go.IntKind.i64 0), (Go.Value.int Go.IntKind.i64 0), (Go.Value.int Go.IntKind.i64 0), (Go.Value.int Go.IntKind.i64 0), (Go.Value.int Go.IntKind.i64 0), (Go.Value.int Go.IntKind.i64 0), (Go.Value.int Go.IntKind.i64 0), (Go.Value.int Go.IntKind.i64 0), (Go.Value.int Go.IntKind.i64 0), (Go.Value.int Go.IntKind.i64 0), (Go.Value.int Go.IntKind.i64 0), (Go.Value.int Go.IntKind.i64 0), (Go.Value.int Go.IntKind.i64 0), (Go.Value.int Go.IntKind.i64 0), (Go.Value.int Go.IntKind.i64 0), (Go.Value.int Go.IntKind.i64 0), (Go.Value.int Go.IntKind.i64 0), (Go.Value.int Go.IntKind.i64 0), (Go.Value.int Go.IntKind.i64 0), (Go.Value.int Go.IntKind.i64 0), (Go.Value.int Go.IntKind.i64 0), (Go.Value.int Go.IntKind.i64 0), (Go.Value.int Go.IntKind.i64 0), (Go.Value.int Go.IntKind.i64 0), (Go.Value.int Go.IntKind.i64 0), (Go.Value.int Go.IntKind.i64 0), (Go.Value.int Go.IntKind.i64 0), (Go.Value.int Go.IntKind.i64 0), (Go.Value.int Go.IntKind.i64 0), (Go.Value.int Go.IntKind.i64 0), (Go.Value.int Go.IntKind.i64 0), (Go.Value.int Go.IntKind.i64 0), (Go.Value.int Go.IntKind.i64 0), (Go.Value.int Go.IntKind.i64 0), (Go.Value.int Go.IntKind.i64 0), (Go.Value.int Go.IntKind.i64 0), (Go.Value.int Go.IntKind.i64 0), (Go.Value.int Go.IntKind.i64 0), (Go.Value.int Go.IntKind.i64 0), (Go.Value.int Go.IntKind.i64 0), (Go.Value.int Go.IntKind.i64 0), (Go.Value.int Go.IntKind.i64 0), (Go.Value.int Go.IntKind.i64 0), (Go.Value.int Go.IntKind.i64 0), (Go.Value.int Go.IntKind.i64 0), (Go.Value.int Go.IntKind.i64 0), (Go.Value.int Go.IntKind.i64 0), (Go.Value.int Go.IntKind.i64 0), (Go.Value.int Go.IntKind.i64 0), (Go.Value.int Go.IntKind.i64 0), (Go.Value.int Go.IntKind.i64 0), (Go.Value.int Go.IntKind.i64 0), (Go.Value.int Go.IntKind.i64 0), (Go.Value.int Go.IntKind.i64 0), (Go.Value.int Go.IntKind.i64 0), (Go.Value.int Go.IntKind.i64 0), (Go.Value.int Go.IntKind.i64 0), (Go.Value.int Go.IntKind.i64 0), (Go.Value.int Go.IntKind.i64 0), (Go.Value.int Go.IntKind.i64 0), (Go.Value.int Go.IntKind.i64 0), (Go.Value.int Go.IntKind.i64 0), (Go.Value.int Go.IntKind.i64 0), (Go.Value.int Go.IntKind.i64 0), (Go.Value.int Go.IntKind.i64 0), (Go.Value.int Go.IntKind.i64 0), (Go.Value.int Go.IntKind.i64 0), (Go.Value.int Go.IntKind.i64 0), (Go.Value.int Go.IntKind.i64 0), (Go.Value.int Go.IntKind.i64 0), (Go.Value.int Go.IntKind.i64 0), (Go.Value.int Go.IntKind.i64 0), (Go.Value.int Go.IntKind.i64 0), (Go.Value.int Go.IntKind.i64 0), (Go.Value.int Go.IntKind.i64 0), (Go.Value.int Go.IntKind.i64 0), (Go.Value.int Go.IntKind.i64 0), (Go.Value.int Go.IntKind.i64 0), (Go.Value.int Go.IntKind.i64 0), (Go.Value.int Go.IntKind.i64 0), (Go.Value.int Go.IntKind.i64 0), (Go.Value.int Go.IntKind.i64 0), (Go.Value.int Go.IntKind.i64 0), (Go.Value.int Go.IntKind.i64 0), (Go.Value.int Go.IntKind.i64 0), (Go.Value.int Go.IntKind.i64 0), (Go.Value.int Go.IntKind.i64 0), (Go.Value.int Go.IntKind.i64 0), (Go.Value.int Go.IntKind.i64 0), (Go.Value.int Go.IntKind.i64 0), (Go.Value.int Go.IntKind.i64 0), (Go.Value.int Go.IntKind.i64 0), (Go.Value.int Go.IntKind.i64 0), (Go.Value.int Go.IntKind.i64 0), (Go.Value.int Go.IntKind.i64 0), (Go.Value.int Go.IntKind.i64 0), (Go.Value.int Go.IntKind.i64 0), (Go.Value.int Go.IntKind.i64 0), (Go.Value.int Go.IntKind.i64 0), (Go.Value.int Go.IntKind.i64 0), (Go.Value.int Go.IntKind.i64 0), (Go.Value.int Go.IntKind.i64 0), (Go.Value.int Go.IntKind.i64 0), (Go.Value.int Go.IntKind.i64 0), (Go.Value.int Go.IntKind.i64 0), (Go.Value.int Go.IntKind.i64 0), (Go.Value.int Go.IntKind.i64 0), (Go.Value.int Go.IntKind.i64 0), (Go.Value.int Go.IntKind.i64 0), (Go.Value.int Go.IntKind.i64 0), (Go.Value.int Go.IntKind.i64 0), (Go.Value.int Go.IntKind.i64 0), (Go.Value.int Go.IntKind.i64 0), (Go.Value.int Go.IntKind.i64 0), (Go.Value.int Go.IntKind.i64 0), (Go.Value.int Go.IntKind.i64 0), (Go.Value.int Go.IntKind.i64 0), (Go.Value.int Go.IntKind.i64 0), (Go.Value.int Go.IntKind.i64 0), (Go.Value.int Go.IntKind.i64 0), (Go.Value.int Go.IntKind.i64 0), (Go.Value.int Go.IntKind.i64 0), (Go.Value.int Go.IntKind.i64 0), (Go.Value.int Go.IntKind.i64 0), (Go.Value.int Go.IntKind.i64 0), (Go.Value.int Go.IntKind.i64 0), (Go.Value.int Go.IntKind.i64 0), (Go.Value.int Go.IntKind.i64 0), (Go.Value.int Go.IntKind.i64 0), (Go.Value.int Go.IntKind.i64 0), (Go.Value.int Go.IntKind.i64 0), (Go.Value.int Go.IntKind.i64 0), (Go.Value.int Go.IntKind.i64 0), (Go.Value.int Go.IntKind.i64 0), (Go.Value.int Go.IntKind.i64 0), (Go.Value.int Go.IntKind.i64 0), (Go.Value.int Go.IntKind.i64 0), (Go.Value.int Go.IntKind.i64 0), (Go.Value.int Go.IntKind.i64 0), (Go.Value.int Go.IntKind.i64 0), (Go.Value.int Go.IntKind.i64 0), (Go.Value.int Go.IntKind.i64 0), (Go.Value.int Go.IntKind.i64 0), (Go.Value.int Go.IntKind.i64 0), (Go.Value.int Go.IntKind.i64 0), (Go.Value.int Go.IntKind.i64 0), (Go.Value.int Go.IntKind.i64 0), (Go.Value.int Go.IntKind.i64 0), (Go.Value.int Go.IntKind.i64 0), (Go.Value.int Go.IntKind.i64 0), (Go.Value.int Go.IntKind.i64 0), (Go.Value.int Go.IntKind.i64 0), (Go.Value.int Go.IntKind.i64 0), (Go.Value.int Go.IntKind.i64 0), (Go.Value.int Go.IntKind.i64 0), (Go.Value.int Go.IntKind.i64 0), (Go.Value.int Go.IntKind.i64 0), (Go.Value.int Go.IntKind.i64 0), (Go.Value.int Go.IntKind.i64 0), (Go.Value.int Go.IntKind.i64 0), (Go.Value.int Go.IntKind.i64 0), (Go.Value.int Go.IntKind.i64 0), (Go.Value.int Go.IntKind.i64 0), (Go.Value.int Go.IntKind.i64 0), (Go.Value.int Go.IntKind.i64 0), (Go.Value.int Go.IntKind.i64 0), (Go.Value.int Go.IntKind.i64 0), (Go.Value.int Go.IntKind.i64 0), (Go.Value.int Go.IntKind.i64 0), (Go.Value.int Go.IntKind.i64 0), (Go.Value.int Go.IntKind.i64 0), (Go.Value.int Go.IntKind.i64 0), (Go.Value.int Go.IntKind.i64 0), (Go.Value.int Go.IntKind.i64 0), (Go.Value.int Go.IntKind.i64 0), (Go.Value.int Go.IntKind.i64 0), (Go.Value.int Go.IntKind.i64 0), (Go.Value.int Go.IntKind.i64 0), (Go.Value.int Go.IntKind.i64 0), (Go.Value.int Go.IntKind.i64 0), (Go.Value.int Go.IntKind.i64 0), (Go.Value.int Go.IntKind.i64 0), (Go.Value.int Go.IntKind.i64 0), (Go.Value.int Go.IntKind.i64 0), (Go.Value.int Go.IntKind.i64 0), (Go.Value.int Go.IntKind.i64 0), (Go.Value.int Go.IntKind.i64 0), (Go.Value.int Go.IntKind.i64 0), (Go.Value.int Go.IntKind.i64 0), (Go.Value.int Go.IntKind.i64 0), (Go.Value.int Go.IntKind.i64 0), (Go.Value.int Go.IntKind.i64 0), (Go.Value.int Go.IntKind.i64 0), (Go.Value.int Go.IntKind.i64 0), (Go.Value.int Go.IntKind.i64 0), (Go.Value.int Go.IntKind.i64 0), (Go.Value.int Go.IntKind.i64 0), (Go.Value.int Go.IntKind.i64 0), (Go.Value.int Go.IntKind.i64 0), (Go.Value.int Go.IntKind.i64 0), (Go.Value.int Go.IntKind.i64 0), (Go.Value.int Go.IntKind.i64 0), (Go.Value.int Go.IntKind.i64 0), (Go.Value.int Go.IntKind.i64 0), (Go.Value.int Go.IntKind.i64 0), (Go.Value.int Go.IntKind.i64 0), (Go.Value.int Go.IntKind.i64 0), (Go.Value.int Go.IntKind.i64 0), (Go.Value.int Go.IntKind.i64 0), (Go.Value.int Go.IntKind.i64 0), (Go.Value.int Go.IntKind.i64 0), (Go.Value.int Go.IntKind.i64 0), (Go.Value.int Go.IntKind.i64 0), (Go.Value.int Go.IntKind.i64 0), (Go.Value.int Go.IntKind.i64 0), (Go.Value.int Go.IntKind.i64 0), (Go.Value.int Go.IntKind.i64 0), (Go.Value.int Go.IntKind.i64 0), (Go.Value.int Go.IntKind.i64 0), (Go.Value.int Go.IntKind.i64 0), (Go.Value.int Go.IntKind.i64 0), (Go.Value.int Go.IntKind.i64 0), (Go.Value.int Go.IntKind.i64 0), (Go.Value.int Go.IntKind.i64 0), (Go.Value.int Go.IntKind.i64 0), (Go.Value.int Go.IntKind.i64 0), (Go.Value.int Go.IntKind.i64 0), (Go.Value.int Go.IntKind.i64 0), (Go.Value.int Go.IntKind.i64 0), (Go.Value.int Go.IntKind.i64 0), (Go.Value.int Go.IntKind.i64 0), (Go.Value.int Go.IntKind.i64 0), (Go.Value.int Go.IntKind.i64 0), (Go.Value.int Go.IntKind.i64 0), (Go.Value.int Go.IntKind.i64 0), (Go.Value.int Go.IntKind.i64 0), (Go.Value.int Go.IntKind.i64 0), (Go.Value.int Go.IntKind.i64 0), (Go.Value.int Go.IntKind.i64 0), (Go.Value.int Go.IntKind.i64 0), (Go.Value.int Go.IntKind.i64 0), (Go.Value.int Go.IntKind.i64 0), (Go.Value.int Go.IntKind.i64 0), (Go.Value.int Go.IntKind.i64 0), (Go.Value.int Go.IntKind.i64 0), (Go.Value.int Go.IntKind.i64 0), (Go.Value.int Go.IntKind.i64 0), (Go.Value.int Go.IntKind.i64 0), (Go.Value.int Go.IntKind.i64 0), (Go.Value.int Go.IntKind.i64 0), (Go.Value.int Go.IntKind.i64 0), (Go.Value.int Go.IntKind.i64 0), (Go.Value.int Go.IntKind.i64 0), (Go.Value.int Go.IntKind.i64 0), (Go.Value.int Go.IntKind.i64 0), (Go.Value.int Go.IntKind.i64 0)]⟩,
  ⟨.struct [(0, 62), (255, 64)], (.arr .any), 511, 2304, [(Go.Value.int Go.IntKind.u8 0), (Go.Value.int Go.IntKind.u8 0), (Go.Value.int Go.IntKind.u8 0), (Go.Value.int Go.IntKind.u8 0), (Go.Value.int Go.IntKind.u8 0), (Go.Value.int Go.IntKind.u8 0), (Go.Value.int Go.IntKind.u8 0), (Go.Value.int Go.IntKind.u8 0), (Go.Value.int Go.IntKind.u8 0), (Go.Value.int Go.IntKind.u8 0), (Go.Value.int Go.IntKind.u8 0), (Go.Value.int Go.IntKind.u8 0), (Go.Value.int Go.IntKind.u8 0), (Go.Value.int Go.IntKind.u8 0), (Go.Value.int Go.IntKind.u8 0), (Go.Value.int Go.IntKind.u8 0), (Go.Value.int Go.IntKind.u8 0), (Go.Value.int Go.IntKind.u8 0), (Go.Value.int Go.IntKind.u8 0), (Go.Value.int Go.IntKind.u8 0), (Go.Value.int Go.IntKind.u8 0), (Go.Value.int Go.IntKind.u8 0), (Go.Value.int Go.IntKind.u8 0), (Go.Value.int Go.IntKind.u8 0), (Go.Value.int Go.IntKind.u8 0), (Go.Value.int Go.IntKind.u8 0), (Go.Value.int Go.IntKind.u8 0), (Go.Value.int Go.IntKind.u8 0), (Go.Value.int Go.IntKind.u8 0), (Go.Value.int Go.IntKind.u8 0), (Go.Value.int Go.IntKind.u8 0), (Go.Value.int Go.IntKind.u8 0), (Go.Value.int Go.IntKind.u8 0), (Go.Value.int Go.IntKind.u8 0), (Go.Value.int Go.IntKind.u8 0), (Go.Value.int Go.IntKind.u8 0), (Go.Value.int Go.IntKind.u8 0), (Go.Value.int Go.IntKind.u8 0), (Go.Value.int Go.IntKind.u8 0), (Go.Value.int Go.IntKind.u8 0), (Go.Value.int Go.IntKind.u8 0), (Go.Value.int Go.IntKind.u8 0), (Go.Value.int Go.IntKind.u8 0), (Go.Value.int Go.IntKind.u8 0), (Go.Value.int Go.IntKind.u8 0), (Go.Value.int Go.IntKind.u8 0), (Go.Value.int Go.IntKind.u8 0), (Go.Value.int Go.IntKind.u8 0), (Go.Value.int Go.IntKind.u8 0), (Go.Value.int Go.IntKind.u8 0), (Go.Value.int Go.IntKind.u8 0), (Go.Value.int Go.IntKind.u8 0), (Go.Value.int Go.IntKind.u8 0), (Go.Value.int Go.IntKind.u8 0), (Go.Value.int Go.IntKind.u8 0), (Go.Value.int Go.IntKind.u8 0), (Go.Value.int Go.IntKind.u8 0), (Go.Value.int Go.IntKind.u8 0), (Go.Value.int Go.IntKind.u8 0), (Go.Value.int Go.IntKind.u8 0), (Go.Value.int Go.IntKind.u8 0), (Go.Value.int Go.IntKind.u8 0), (Go.Value.int Go.IntKind.u8 0), (Go.Value.int Go.IntKind.u8 0), (Go.Value.int Go.IntKind.u8 0), (Go.Value.int Go.IntKind.u8 0), (Go.Value.int Go.IntKind.u8 0), (Go.Value.int Go.IntKind.u8 0), (Go.Value.int Go.IntKind.u8 0), (Go.Value.int Go.IntKind.u8 0), (Go.Value.int Go.IntKind.u8 0), (Go.Value.int Go.IntKind.u8 0), (Go.Value.int Go.IntKind.u8 0), (Go.Value.int Go.IntKind.u8 0), (Go.Value.int Go.IntKind.u8 0), (Go.Value.int Go.IntKind.u8 0), (Go.Value.int Go.IntKind.u8 0), (Go.Value.int Go.IntKind.u8 0), (Go.Value.int Go.IntKind.u8 0), (Go.Value.int Go.IntKind.u8 0), (Go.Value.int Go.IntKind.u8 0), (Go.Value.int Go.IntKind.u8 0), (Go.Value.int Go.IntKind.u8 0), (Go.Value.int Go.IntKind.u8 0), (Go.Value.int Go.IntKind.u8 0), (Go.Value.int Go.IntKind.u8 0), (Go.Value.int Go.IntKind.u8 0), (Go.Value.int Go.IntKind.u8 0), (Go.Value.int Go.IntKind.u8 0), (Go.Value.int Go.IntKind.u8 0), (Go.Value.int Go.IntKind.u8 0), (Go.Value.int Go.IntKind.u8 0), (Go.Value.int Go.IntKind.u8 0), (Go.Value.int Go.IntKind.u8 0), (Go.Value.int Go.IntKind.u8 0), (Go.Value.int Go.IntKind.u8 0), (Go.Value.int Go.IntKind.u8 0), (Go.Value.int Go.IntKind.u8 0), (Go.Value.int Go.IntKind.u8 0), (Go.Value.int Go.IntKind.u8 0), (Go.Value.int Go.IntKind.u8 0), (Go.Value.int Go.IntKind.u8 0), (Go.Value.int Go.IntKind.u8 0), (Go.Value.int Go.IntKind.u8 0), (Go.Value.int Go.IntKind.u8 0), (Go.Value.int Go.IntKind.u8 0), (Go.Value.int Go.IntKind.u8 0), (Go.Value.int Go.IntKind.u8 0), (Go.Value.int Go.IntKind.u8 0), (Go.Value.int Go.IntKind.u8 0), (Go.Value.int Go.IntKind.u8 0), (Go.Value.int Go.IntKind.u8 0), (Go.Value.int Go.IntKind.u8 0), (Go.Value.int Go.IntKind.u8 0), (Go.Value.int Go.IntKind.u8 0), (Go.Value.int Go.IntKind.u8 0), (Go.Value.int Go.IntKind.u8 0), (Go.Value.int Go.IntKind.u8 0), (Go.Value.int Go.IntKind.u8 0), (Go.Value.int Go.IntKind.u8 0), (Go.Value.int Go.IntKind.u8 0), (Go.Value.int Go.IntKind.u8 0), (Go.Value.int Go.IntKind.u8 0), (Go.Value.int Go.IntKind.u8 0), (Go.Value.int Go.IntKind.u8 0), (Go.Value.int Go.IntKind.u8 0), (Go.Value.int Go.IntKind.u8 0), (Go.Value.int Go.IntKind.u8 0), (Go.Value.int Go.IntKind.u8 0), (Go.Value.int Go.IntKind.u8 0), (Go.Value.int Go.IntKind.u8 0), (Go.Value.int Go.IntKind.u8 0), (Go.Value.int Go.IntKind.u8 0), (Go.Value.int Go.IntKind.u8 0), (Go.Value.int Go.IntKind.u8 0), (Go.Value.int Go.IntKind.u8 0), (Go.Value.int Go.IntKind.u8 0), (Go.Value.int Go.IntKind.u8 0), (Go.Value.int Go.IntKind.u8 0), (Go.Value.int Go.IntKind.u8 0), (Go.Value.int Go.IntKind.u8 0), (Go.Value.int Go.IntKind.u8 0), (Go.Value.int Go.IntKind.u8 0), (Go.Value.int Go.IntKind.u8 0), (Go.Value.int Go.IntKind.u8 0), (Go.Value.int Go.IntKind.u8 0), (Go.Value.int Go.IntKind.u8 0), (Go.Value.int Go.IntKind.u8 0), (Go.Value.int Go.IntKind.u8 0), (Go.Value.int Go.IntKind.u8 0), (Go.Value.int Go.IntKind.u8 0), (Go.Value.int Go.IntKind.u8 0), (Go.Value.int Go.IntKind.u8 0), (Go.Value.int Go.IntKind.u8 0), (Go.Value.int Go.IntKind.u8 0), (Go.Value.int Go.IntKind.u8 0), (Go.Value.int Go.IntKind.u8 0), (Go.Value.int Go.IntKind.u8 0), (Go.Value.int Go.IntKind.u8 0), (Go.Value.int Go.IntKind.u8 0), (Go.Value.int Go.IntKind.u8 0), (Go.Value.int Go.IntKind.u8 0), (Go.Value.int Go.IntKind.u8 0), (Go.Value.int Go.IntKind.u8 0), (Go.Value.int Go.IntKind.u8 0), (Go.Value.int Go.IntKind.u8 0), (Go.Value.int Go.IntKind.u8 0), (Go.Value.int Go.IntKind.u8 0), (Go.Value.int Go.IntKind.u8 0), (Go.Value.int Go.IntKind.u8 0), (Go.Value.int Go.IntKind.u8 0), (Go.Value.int Go.IntKind.u8 0), (Go.Value.int Go.IntKind.u8 0), (Go.Value.int Go.IntKind.u8 0), (Go.Value.int Go.IntKind.u8 0), (Go.Value.int Go.IntKind.u8 0), (Go.Value.int Go.IntKind.u8 0), (Go.Value.int Go.IntKind.u8 0), (Go.Value.int Go.IntKind.u8 0), (Go.Value.int Go.IntKind.u8 0), (Go.Value.int Go.IntKind.u8 0), (Go.Value.int Go.IntKind.u8 0), (Go.Value.int Go.IntKind.u8 0), (Go.Value.int Go.IntKind.u8 0), (Go.Value.int Go.IntKind.u8 0), (Go.Value.int Go.IntKind.u8 0), (Go.Value.int Go.IntKind.u8 0), (Go.Value.int Go.IntKind.u8 0), (Go.Value.int Go.IntKind.u8 0), (Go.Value.int Go.IntKind.u8 0), (Go.Value.int Go.IntKind.u8 0), (Go.Value.int Go.IntKind.u8 0), (Go.Value.int Go.IntKind.u8 0), (Go.Value.int Go.IntKind.u8 0), (Go.Value.int Go.IntKind.u8 0), (Go.Value.int Go.IntKind.u8 0), (Go.Value.int Go.IntKind.u8 0), (Go.Value.int Go.IntKind.u8 0), (Go.Value.int Go.IntKind.u8 0), (Go.Value.int Go.IntKind.u8 0), (Go.Value.int Go.IntKind.u8 0), (Go.Value.int Go.IntKind.u8 0), (Go.Value.int Go.IntKind.u8 0), (Go.Value.int Go.IntKind.u8 0), (Go.Value.int Go.IntKind.u8 0), (Go.Value.int Go.IntKind.u8 0), (Go.Value.int Go.IntKind.u8 0), (Go.Value.int Go.IntKind.u8 0), (Go.Value.int Go.IntKind.u8 0), (Go.Value.int Go.IntKind.u8 0), (Go.Value.int Go.IntKind.u8 0), (Go.Value.int Go.IntKind.u8 0), (Go.Value.int Go.IntKind.u8 0), (Go.Value.int Go.IntKind.u8 0), (Go.Value.int Go.IntKind.u8 0), (Go.Value.int Go.IntKind.u8 0), (Go.Value.int Go.IntKind.u8 0), (Go.Value.int Go.IntKind.u8 0), (Go.Value.int Go.IntKind.u8 0), (Go.Value.int Go.IntKind.u8 0), (Go.Value.int Go.IntKind.u8 0), (Go.Value.int Go.IntKind.u8 0), (Go.Value.int Go.IntKind.u8 0), (Go.Value.int Go.IntKind.u8 0), (Go.Value.int Go.IntKind.u8 0), (Go.Value.int Go.IntKind.u8 0), (Go.Value.int Go.IntKind.u8 0), (Go.Value.int Go.IntKind.u8 0), (Go.Value.int Go.IntKind.u8 0), (Go.Value.int Go.IntKind.u8 0), (Go.Value.int Go.IntKind.u8 0), (Go.Value.int Go.IntKind.u8 0), (Go.Value.int Go.IntKind.u8 0), (Go.Value.int Go.IntKind.u8 0), (Go.Value.int Go.IntKind.u8 0), (Go.Value.int Go.IntKind.u8 0), (Go.Value.int Go.IntKind.u8 0), (Go.Value.int Go.IntKind.u8 0), (Go.Value.int Go.IntKind.u8 0), (Go.Value.int Go.IntKind.u8 0), (Go.Value.int Go.IntKind.u8 0), (Go.Value.int Go.IntKind.u8 0), (Go.Value.int Go.IntKind.u8 0), (Go.Value.int Go.IntKind.u8 0), (Go.Value.int Go.IntKind.u8 0), (Go.Value.int Go.IntKind.u8 0), (Go.Value.int Go.IntKind.u8 0), (Go.Value.int Go.IntKind.u8 0), (Go.Value.int Go.IntKind.u8 0), (Go.Value.int Go.IntKind.u8 0), (Go.Value.int Go.IntKind.u8 0), (Go.Value.int Go.IntKind.u8 0), (Go.Value.int Go.IntKind.u8 0), (Go.Value.int Go.IntKind.u8 0), (Go.Value.int Go.IntKind.u8 0), (Go.Value.int Go.IntKind.i64 0), (Go.Value.int Go.IntKind.i64 0), (Go.Value.int Go.IntKind.i64 0), (Go.Value.int Go.IntKind.i64 0), (Go.Value.int Go.IntKind.i64 0), (Go.Value.int Go.IntKind.i64 0), (Go.Value.int Go.IntKind.i64 0), (Go.Value.int Go.IntKind.i64 0), (Go.Value.int Go.IntKind.i64 0), (Go.Value.int Go.IntKind.i64 0), (Go.Value.int Go.IntKind.i64 0), (Go.Value.int Go.IntKind.i64 0), (Go.Value.int Go.IntKind.i64 0), (Go.Value.int Go.IntKind.i64 0), (Go.Value.int Go.IntKind.i64 0), (Go.Value.int Go.IntKind.i64 0), (Go.Value.int Go.IntKind.i64 0), (Go.Value.int Go.IntKind.i64 0), (Go.Value.int Go.IntKind.i64 0), (Go.Value.int Go.IntKind.i64 0), (Go.Value.int Go.IntKind.i64 0), (Go.Value.int Go.IntKind.i64 0), (Go.Value.int Go.IntKind.i64 0), (Go.Value.int Go.IntKind.i64 0), (Go.Value.int Go.IntKind.i64 0), (Go.Value.int Go.IntKind.i64 0), (Go.Value.int Go.IntKind.i64 0), (Go.Value.int Go.IntKind.i64 0), (Go.Value.int Go.IntKind.i64 0), (Go.Value.int Go.IntKind.i64 0), (Go.Value.int Go.IntKind.i64 0), (Go.Value.int Go.IntKind.i64 0), (Go.Value.int Go.IntKind.i64 0), (Go.Value.int Go.IntKind.i64 0), (Go.Value.int Go.IntKind.i64 0), (Go.Value.int Go.IntKind.i64 0), (Go.Value.int Go.IntKind.i64 0), (Go.Value.int Go.IntKind.i64 0), (Go.Value.int Go.IntKind.i64 0), (Go.Value.int Go.IntKind.i64 0), (Go.Value.int Go.IntKind.i64 0), (Go.Value.int Go.IntKind.i64 0), (Go.Value.int Go.IntKind.i64 0), (Go.Value.int Go.IntKind.i64 0), (Go.Value.int Go.IntKind.i64 0), (Go.Value.int Go.IntKind.i64 0), (Go.Value.int Go.IntKind.i64 0), (Go.Value.int Go.IntKind.i64 0), (Go.Value.int Go.IntKind.i64 0), (Go.Value.int Go.IntKind.i64 0), (Go.Value.int Go.IntKind.i64 0), (Go.Value.int Go.IntKind.i64 0), (Go.Value.int Go.IntKind.i64 0), (Go.Value.int Go.IntKind.i64 0), (Go.Value.int Go.IntKind.i64 0), (Go.Value.int Go.IntKind.i64 0), (Go.Value.int Go.IntKind.i64 0), (Go.Value.int Go.IntKind.i64 0), (Go.Value.int Go.IntKind.i64 0), (Go.Value.int Go.IntKind.i64 0), (Go.Value.int Go.IntKind.i64 0), (Go.Value.int Go.IntKind.i64 0), (Go.Value.int Go.IntKind.i64 0), (Go.Value.int Go.IntKind.i64 0), (Go.Value.int Go.IntKind.i64 0), (Go.Value.int Go.IntKind.i64 0), (Go.Value.int Go.IntKind.i64 0), (Go.Value.int Go.IntKind.i64 0), (Go.Value.int Go.IntKind.i64 0), (Go.Value.int Go.IntKind.i64 0), (Go.Value.int Go.IntKind.i64 0), (Go.Value.int Go.IntKind.i64 0), (Go.Value.int Go.IntKind.i64 0), (Go.Value.int Go.IntKind.i64 0), (Go.Value.int Go.IntKind.i64 0), (Go.Value.int Go.IntKind.i64 0), (Go.Value.int Go.IntKind.i64 0), (Go.Value.int Go.IntKind.i64 0), (Go.Value.int Go.IntKind.i64 0), (Go.Value.int Go.IntKind.i64 0), (Go.Value.int Go.IntKind.i64 0), (Go.Value.int Go.IntKind.i64 0), (Go.Value.int Go.IntKind.i64 0), (Go.Value.int Go.IntKind.i64 0), (Go.Value.int Go.IntKind.i64 0), (Go.Value.int Go.IntKind.i64 0), (Go.Value.int Go.IntKind.i64 0), (Go.Value.int Go.IntKind.i64 0), (Go.Value.int Go.IntKind.i64 0), (Go.Value.int Go.IntKind.i64 0), (Go.Value.int Go.IntKind.i64 0), (Go.Value.int Go.IntKind.i64 0), (Go.Value.int Go.IntKind.i64 0), (Go.Value.int Go.IntKind.i64 0), (Go.Value.int Go.IntKind.i64 0), (Go.Value.int Go.IntKind.i64 0), (Go.Value.int Go.IntKind.i64 0), (Go.Value.int Go.IntKind.i64 0), (Go.Value.int Go.IntKind.i64 0), (Go.Value.int Go.IntKind.i64 0), (Go.Value.int Go.IntKind.i64 0), (Go.Value.int Go.IntKind.i64 0), (Go.Value.int Go.IntKind.i64 0), (Go.Value.int Go.IntKind.i64 0), (Go.Value.int Go.IntKind.i64 0), (Go.Value.int Go.IntKind.i64 0), (Go.Value.int Go.IntKind.i64 0), (Go.Value.int Go.IntKind.i64 0), (Go.Value.int Go.IntKind.i64 0), (Go.Value.int Go.IntKind.i64 0), (Go.Value.int Go.IntKind.i64 0), (Go.Value.int Go.IntKind.i64 0), (Go.Value.int Go.IntKind.i64 0), (Go.Value.int Go.IntKind.i64 0), (Go.Value.int Go.IntKind.i64 0), (Go.Value.int Go.IntKind.i64 0), (Go.Value.int Go.IntKind.i64 0), (Go.Value.int Go.IntKind.i64 0), (Go.Value.int Go.IntKind.i64 0), (Go.Value.int Go.IntKind.i64 0), (Go.Value.int Go.IntKind.i64 0), (Go.Value.int Go.IntKind.i64 0), (Go.Value.int Go.IntKind.i64 0), (Go.Value.int Go.IntKind.i64 0), (Go.Value.int Go.IntKind.i64 0), (Go.Value.int Go.IntKind.i64 0), (Go.Value.int Go.IntKind.i64 0), (Go.Value.int Go.IntKind.i64 0), (Go.Value.int Go.IntKind.i64 0), (Go.Value.int Go.IntKind.i64 0), (Go.Value.int Go.IntKind.i64 0), (Go.Value.int Go.IntKind.i64 0), (Go.Value.int Go.IntKind.i64 0), (Go.Value.int Go.IntKind.i64 0), (Go.Value.int Go.IntKind.i64 0), (Go.Value.int Go.IntKind.i64 0), (Go.Value.int Go.IntKind.i64 0), (Go.Value.int Go.IntKind.i64 0), (Go.Value.int Go.IntKind.i64 0), (Go.Value.int Go.IntKind.i64 0), (Go.Value.int Go.IntKind.i64 0), (Go.Value.int Go.IntKind.i64 0), (Go.Value.int Go.IntKind.i64 0), (Go.Value.int Go.IntKind.i64 0), (Go.Value.int Go.IntKind.i64 0), (Go.Value.int Go.IntKind.i64 0), (Go.Value.int Go.IntKind.i64 0), (Go.Value.int Go.IntKind.i64 0), (Go.Value.int Go.IntKind.i64 0), (Go.Value.int Go.IntKind.i64 0), (Go.Value.int Go.IntKind.i64 0), (Go.Value.int Go.IntKind.i64 0), (Go.Value.int Go.IntKind.i64 0), (Go.Value.int Go.IntKind.i64 0), (Go.Value.int Go.IntKind.i64 0), (Go.Value.int Go.IntKind.i64 0), (Go.Value.int Go.IntKind.i64 0), (Go.Value.int Go.IntKind.i64 0), (Go.Value.int Go.IntKind.i64 0), (Go.Value.int Go.IntKind.i64 0), (Go.Value.int Go.IntKind.i64 0), (Go.Value.int Go.IntKind.i64 0), (Go.Value.int Go.IntKind.i64 0), (Go.Value.int Go.IntKind.i64 0), (Go.Value.int Go.IntKind.i64 0), (Go.Value.int Go.IntKind.i64 0), (Go.Value.int Go.IntKind.i64 0), (Go.Value.int Go.IntKind.i64 0), (Go.Value.int Go.IntKind.i64 0), (Go.Value.int Go.IntKind.i64 0), (Go.Value.int Go.IntKind.i64 0), (Go.Value.int Go.IntKind.i64 0), (Go.Value.int Go.IntKind.i64 0), (Go.Value.int Go.IntKind.i64 0), (Go.Value.int Go.IntKind.i64 0), (Go.Value.int Go.IntKind.i64 0), (Go.Value.int Go.IntKind.i64 0), (Go.Value.int Go.IntKind.i64 0), (Go.Value.int Go.IntKind.i64 0), (Go.Value.int Go.IntKind.i64 0), (Go.Value.int Go.IntKind.i64 0), (Go.Value.int Go.IntKind.i64 0), (Go.Value.int Go.IntKind.i64 0), (Go.Value.int Go.IntKind.i64 0), (Go.Value.int Go.IntKind.i64 0), (Go.Value.int Go.IntKind.i64 0), (Go.Value.int Go.IntKind.i64 0), (Go.Value.int Go.IntKind.i64 0), (Go.Value.int Go.IntKind.i64 0), (Go.Value.int Go.IntKind.i64 0), (Go.Value.int Go.IntKind.i64 0), (Go.Value.int Go.IntKind.i64 0), (Go.Value.int Go.IntKind.i64 0), (Go.Value.int Go.IntKind.i64 0), (Go.Value.int Go.IntKind.i64 0), (Go.Value.int Go.IntKind.i64 0), (Go.Value.int Go.IntKind.i64 0), (Go.Value.int Go.IntKind.i64 0), (Go.Value.int Go.IntKind.i64 0), (Go.Value.int Go.IntKind.i64 0), (Go.Value.int Go.IntKind.i64 0), (Go.Value.int Go.IntKind.i64 0), (Go.Value.int Go.IntKind.i64 0), (Go.Value.int Go.IntKind.i64 0), (Go.Value.int Go.IntKind.i64 0), (Go.Value.int Go.IntKind.i64 0), (Go.Value.int Go.IntKind.i64 0), (Go.Value.int Go.IntKind.i64 0), (Go.Value.int Go.IntKind.i64 0), (Go.Value.int Go.IntKind.i64 0), (Go.Value.int Go.IntKind.i64 0), (Go.Value.int Go.IntKind.i64 0), (Go.Value.int Go.IntKind.i64 0), (Go.Value.int Go.IntKind.i64 0), (Go.Value.int Go.IntKind.i64 0), (Go.Value.int Go.IntKind.i64 0), (Go.Value.int Go.IntKind.i64 0), (Go.Value.int Go.IntKind.i64 0), (Go.Value.int Go.IntKind.i64 0), (Go.Value.int Go.IntKind.i64 0), (Go.Value.int Go.IntKind.i64 0), (Go.Value.int Go.IntKind.i64 0), (Go.Value.int Go.IntKind.i64 0), (Go.Value.int Go.IntKind.i64 0), (Go.Value.int Go.IntKind.i64 0), (Go.Value.int Go.IntKind.i64 0), (Go.Value.int Go.IntKind.i64 0), (Go.Value.int Go.IntKind.i64 0), (Go.Value.int Go.IntKind.i64 0), (Go.Value.int Go.IntKind.i64 0), (Go.Value.int Go.IntKind.i64 0), (Go.Value.int Go.IntKind.i64 0), (Go.Value.int Go.IntKind.i64 0), (Go.Value.int Go.IntKind.i64 0), (Go.Value.int Go.IntKind.i64 0), (Go.Value.int Go.IntKind.i64 0), (Go.Value.int Go.IntKind.i64 0), (Go.Value.int Go.IntKind.i64 0), (Go.Value.int Go.IntKind.i64 0), (Go.Value.int Go.IntKind.i64 0), (Go.Value.int Go.IntKind.i64 0), (Go.Value.int Go.IntKind.i64 0), (Go.Value.int Go.IntKind.i64 0), (Go.Value.int Go.IntKind.i64 0), (Go.Value.int Go.IntKind.i64 0), (Go.Value.int Go.IntKind.i64 0), (Go.Value.int Go.IntKind.i64 0), (Go.Value.int Go.IntKind.i64 0), (Go.Value.int Go.IntKind.i64 0), (Go.Value.int Go.IntKind.i64 0), (Go.Value.int Go.IntKind.i64 0), (Go.Value.int Go.IntKind.i64 0), (Go.Value.int Go.IntKind.i64 0), (Go.Value.int Go.IntKind.i64 0), (Go.Value.int Go.IntKind.i64 0), (Go.Value.int Go.IntKind.i64 0)]⟩,
  ⟨.fn, (.sc .fn), 1, 8, [Go.Value.nilFunc]⟩,
  ⟨.fn, (.sc .fn), 1, 8, [Go.Value.nilFunc]⟩,
  ⟨.fn, (.sc .fn), 1, 8, [Go.Value.nilFunc]⟩,
  ⟨.fn, (.sc .fn), 1, 8, [Go.Value.nilFunc]⟩,
  ⟨.fn, (.sc .fn), 1, 8, [Go.Value.nilFunc]⟩,
  ⟨.fn, (.sc .fn), 1, 8, [Go.Value.nilFunc]⟩,
  ⟨.fn, (.sc .fn), 1, 8, [Go.Value.nilFunc]⟩,
  ⟨.fn, (.sc .fn), 1, 8, [Go.Value.nilFunc]⟩,
  ⟨.fn, (.sc .fn), 1, 8, [Go.Value.nilFunc]⟩,
  ⟨.fn, (.sc .fn), 1, 8, [Go.Value.nilFunc]⟩,
  ⟨.ptr 93, (.sc .ptr), 1, 8, [(Go.Value.pointer Option.none)]⟩,
  ⟨.fn, (.sc .fn), 1, 8, [Go.Value.nilFunc]⟩,
  ⟨.fn, (.sc .fn), 1, 8, [Go.Value.nilFunc]⟩,
  ⟨.fn, (.sc .fn), 1, 8, [Go.Value.nilFunc]⟩,
  ⟨.fn, (.sc .fn), 1, 8, [Go.Value.nilFunc]⟩,
  ⟨.fn, (.sc .fn), 1, 8, [Go.Value.nilFunc]⟩,
  ⟨.fn, (.sc .fn), 1, 8, [Go.Value.nilFunc]⟩,
  ⟨.fn, (.sc .fn), 1, 8, [Go.Value.nilFunc]⟩,
  ⟨.fn, (.sc .fn), 1, 8, [Go.Value.nilFunc]⟩,
  ⟨.fn, (.sc .fn), 1, 8, [Go.Value.nilFunc]⟩,
  ⟨.fn, (.sc .fn), 1, 8, [Go.Value.nilFunc]⟩,
  ⟨.fn, (.sc .fn), 1, 8, [Go.Value.nilFunc]⟩,
  ⟨.fn, (.sc .fn), 1, 8, [Go.Value.nilFunc]⟩,
  ⟨.int .u64, (.sc (.int .u64)), 1, 8, [(Go.Value.int Go.IntKind.u64 0)]⟩,
  ⟨.struct [(0, 91)], (.agg [(.int .u64)]), 1, 8, [(Go.Value.int Go.IntKind.u64 0)]⟩,
  ⟨.struct [(0, 91)], (.agg [(.int .u64)]), 1, 8, [(Go.Value.int Go.IntKind.u64 0)]⟩,
  ⟨.fn, (.sc .fn), 1, 8, [Go.Value.nilFunc]⟩,
  ⟨.fn, (.sc .fn), 1, 8, [Go.Value.nilFunc]⟩,
  ⟨.fn, (.sc .fn), 1, 8, [Go.Value.nilFunc]⟩,
  ⟨.fn, (.sc .fn), 1, 8, [Go.Value.nilFunc]⟩,
  ⟨.fn, (.sc .fn), 1, 8, [Go.Value.nilFunc]⟩,
  ⟨.fn, (.sc .fn), 1, 8, [Go.Value.nilFunc]⟩,
  ⟨.fn, (.sc .fn), 1, 8, [Go.Value.nilFunc]⟩,
  ⟨.fn, (.sc .fn), 1, 8, [Go.Value.nilFunc]⟩,
  ⟨.fn, (.sc .fn), 1, 8, [Go.Value.nilFunc]⟩,
  ⟨.fn, (.sc .fn), 1, 8, [Go.Value.nilFunc]⟩,
  ⟨.int .i64, (.sc (.int .i64)), 1, 8, [(Go.Value.int Go.IntKind.i64 0)]⟩,
  ⟨.other, (.sc .any), 1, 0, [(Go.Value.tuple #[(Go.Value.int Go.IntKind.i64 0), (Go.Value.int Go.IntKind.i64 0)])]⟩,
  ⟨.fn, (.sc .fn), 1, 8, [Go.Value.nilFunc]⟩,
  ⟨.fn, (.sc .fn), 1, 8, [Go.Value.nilFunc]⟩,
  ⟨.fn, (.sc .fn), 1, 8, [Go.Value.nilFunc]⟩,
  ⟨.fn, (.sc .fn), 1, 8, [Go.Value.nilFunc]⟩,
  ⟨.other, (.sc .any), 1, 0, [(Go.Value.tuple #[(Go.Value.int Go.IntKind.i64 0), (Go.Value.bool Bool.false)])]⟩,
  ⟨.fn, (.sc .fn), 1, 8, [Go.Value.nilFunc]⟩,
  ⟨.int .u64, (.sc (.int .u64)), 1, 8, [(Go.Value.int Go.IntKind.u64 0)]⟩,
  ⟨.fn, (.sc .fn), 1, 8, [Go.Value.nilFunc]⟩,
  ⟨.fn, (.sc .fn), 1, 8, [Go.Value.nilFunc]⟩,
  ⟨.fn, (.sc .fn), 1, 8, [Go.Value.nilFunc]⟩,
  ⟨.ptr 3, (.sc .ptr), 1, 8, [(Go.Value.pointer Option.none)]⟩,
  ⟨.fn, (.sc .fn), 1, 8, [Go.Value.nilFunc]⟩,
  ⟨.fn, (.sc .fn), 1, 8, [Go.Value.nilFunc]⟩,
  ⟨.ptr 112, (.sc .ptr), 1, 8, [(Go.Value.pointer Option.none)]⟩,
  ⟨.other, (.sc .any), 1, 0, [(Go.Value.tuple #[(Go.Value.int Go.IntKind.i64 0), (Go.Value.int Go.IntKind.i64 0)])]⟩,
  ⟨.fn, (.sc .fn), 1, 8, [Go.Value.nilFunc]⟩,
  ⟨.fn, (.sc .fn), 1, 8, [Go.Value.nilFunc]⟩,
  ⟨.struct [(0, 17), (1, 17), (2, 17), (3, 9)], (.agg [.ptr, .ptr, .ptr, .str]), 4, 40, [(Go.Value.pointer Option.none), (Go.Value.pointer Option.none), (Go.Value.pointer Option.none), (Go.Value.string (ByteArray.mk #[]))]⟩,
  ⟨.struct [(0, 17), (1, 17), (2, 17), (3, 9)], (.agg [.ptr, .ptr, .ptr, .str]), 4, 40, [(Go.Value.pointer Option.none), (Go.Value.pointer Option.none), (Go.Value.pointer Option.none), (Go.Value.string (ByteArray.mk #[]))]⟩,
  ⟨.array 0 16, (.arr .ptr), 0, 0, []⟩,
  ⟨.struct [(0, 125)], (.agg []), 0, 0, []⟩,
  ⟨.struct [(0, 125)], (.agg []), 0, 0, []⟩,
  ⟨.fn, (.sc .fn), 1, 8, [Go.Value.nilFunc]⟩,
  ⟨.int .u8, (.sc (.int .u8)), 1, 1, [(Go.Value.int Go.IntKind.u8 0)]⟩,
  ⟨.int .u8, (.sc (.int .u8)), 1, 1, [(Go.Value.int Go.IntKind.u8 0)]⟩,
  ⟨.fn, (.sc .fn), 1, 8, [Go.Value.nilFunc]⟩,
  ⟨.ptr 5, (.sc .ptr), 1, 8, [(Go.Value.pointer Option.none)]⟩,
  ⟨.int .i32, (.sc (.int .i32)), 1, 4, [(Go.Value.int Go.IntKind.i32 0)]⟩,
  ⟨.int .i32, (.sc (.int .i32)), 1, 4, [(Go.Value.int Go.IntKind.i32 0)]⟩,
  ⟨.struct [(0, 12), (1, 12), (2, 27), (3, 129), (4, 5), (5, 5), (6, 130), (7, 131), (8, 132), (9, 133), (10, 134)], (.agg [(.int .u64), (.int .u64), (.int .u32), (.int .u8), (.int .u8), (.int .u8), (.int .u8), .fn, .ptr, (.int .i32), (.int .i32)]), 11, 48, [(Go.Value.int Go.IntKind.u64 0), (Go.Value.int Go.IntKind.u64 0), (Go.Value.int Go.IntKind.u32 0), (Go.Value.int Go.IntKind.u8 0), (Go.Value.int Go.IntKind.u8 0), (Go.Value.int Go.IntKind.u8 0), (Go.Value.int Go.IntKind.u8 0), Go.Value.nilFunc, (Go.Value.pointer Option.none), (Go.Value.int Go.IntKind.i32 0), (Go.Value.int Go.IntKind.i32 0)]⟩,
  ⟨.struct [(0, 12), (1, 12), (2, 27), (3, 129), (4, 5), (5, 5), (6, 130), (7, 131), (8, 132), (9, 133), (10, 134)], (.agg [(.int .u64), (.int .u64), (.int .u32), (.int .u8), (.int .u8), (.int .u8), (.int .u8), .fn, .ptr, (.int .i32), (.int .i32)]), 11, 48, [(Go.Value.int Go.IntKind.u64 0), (Go.Value.int Go.IntKind.u64 0), (Go.Value.int Go.IntKind.u32 0), (Go.Value.int Go.IntKind.u8 0), (Go.Value.int Go.IntKind.u8 0), (Go.Value.int Go.IntKind.u8 0), (Go.Value.int Go.IntKind.u8 0), Go.Value.nilFunc, (Go.Value.pointer Option.none), (Go.Value.int Go.IntKind.i32 0), (Go.Value.int Go.IntKind.i32 0)]⟩,
  ⟨.other, (.sc .any), 1, 8, [(Go.Value.pointer Option.none)]⟩]
noncomputable def C : Ctx := { P := Try.prog, T := tbl, tup := [(0, []), (34, [(.sc .ptr), (.sc (.int .i64))]), (47, [(.sc .slc), (.sc .bool)]), (55, [(.sc .slc), (.sc (.int .i64))]), (105, [(.sc (.int .i64)), (.sc (.int .i64))]), (110, [(.sc (.int .i64)), (.sc .bool)]), (120, [(.sc (.int .i64)), (.sc (.int .i64))])], fns := [false, false, true, true, true, true, true, true, true, true, true, true, true, true, true, true, true, true, true, true, true, true, true, true, true, true, true, true, true, true, true, true, true, true, true, true, true, true, true, true, true, true, true, true, true, true, true, true, true, true, true, true, true, true, true, true, true, true, true, true, true, true, true, true, true, true, true, true, true, true, true, true, true, true, true, true, true, true, true, true, true, true, true, true, true, false, false, false, false, false, false, false, false, false, false, false, false, false, false, false, false] }
theorem C_tbl : (List.range C.T.length).map (Tbl.seen C.P) = C.T.map Tbl.told := by kernel_rfl
theorem C_mixed : C.P.follows .mixedOrders = true := by kernel_rfl
theorem C_fns : (C.P.funcs.toList.map fun f => !(f.name == "runtime.NumGoroutine") && f.body.isSome) = C.fns := by kernel_rfl
theorem C_ok : C.Ok := { tbl := C_tbl, mixed := C_mixed, fns := C_fns }
/-- wellspring/wellspringlaw11.EncodeSums -/
abbrev wellspringlaw11_EncodeSums_id : FuncId := 3
noncomputable def wellspringlaw11_EncodeSums_m (a_0 : Int) (b_1 : Int) (c_2 : Int) (seed_3 : Int) (x_4 : Sl) (y_5 : Sl) (id_6 : Int) (R : Value → Heap → Prop) (h : Heap) : Prop :=
  CallM Try.prog 6 #[(.int .i64 a_0), (.int .i64 b_1), (.int .i64 c_2)] (.one (.agg [(.int .i64), (.int .i64), (.int .i64)])) h fun r1 h1 =>
  RunsA Try.prog (Instr.alloc 25 true (.tuple #[])) h1 fun a2 h2 =>
  Runs Try.prog (Instr.storeAt 25 (.pointer (some a2)) (.agg #[(.int .i64 r1.1), (.int .i64 r1.2.1), (.int .i64 r1.2.2)])) h2 fun _ h3 =>
  ∃ x3 : Int × Int × Int, cellsAt h3 a2 0 [(.int .i64 x3.1), (.int .i64 x3.2.1), (.int .i64 x3.2.2)] ∧
  CallM Try.prog 7 #[(.agg #[(.int .i64 x3.1), (.int .i64 x3.2.1), (.int .i64 x3.2.2)]), (.int .u64 seed_3)] (.one (.sc (.int .u32))) h3 fun r4 h4 =>
  ∃ x5 : Int × Int × Int, cellsAt h4 a2 0 [(.int .i64 x5.1), (.int .i64 x5.2.1), (.int .i64 x5.2.2)] ∧
  CallM Try.prog 8 #[(.agg #[(.int .i64 x5.1), (.int .i64 x5.2.1), (.int .i64 x5.2.2)]), (.int .u32 r4)] (.one (.sc .bool)) h4 fun r6 h5 =>
  Br (!r6)
  (CallM Try.prog 9 #[] (.one (.sc .bool)) h5 fun r7 h6 =>
  R (.bool r7) h6)
  (JoinM (σ := Sl × Sl × Sl) (fun s22 h15 =>
  LoopM (σ := Int) (fun s23 K2 h16 =>
  Br (decide (s23 < ((s22.2.2.len : Nat) : Int)))
  (∃ a24 : Addr, (s22.1.ptr = some a24 ∧ 0 ≤ s23 ∧ s23 < ((s22.1.len : Nat) : Int)) ∧
  ∃ x25 : Int, cellOf h16 (a24.add (s23.toNat * 1)) = some (.int .u8 x25) ∧
  ∃ a26 : Addr, (s22.2.1.ptr = some a26 ∧ 0 ≤ s23 ∧ s23 < ((s22.2.1.len : Nat) : Int)) ∧
  ∃ x27 : Int, cellOf h16 (a26.add (s23.toNat * 1)) = some (.int .u8 x27) ∧
  ∃ a28 : Addr, (s22.2.2.ptr = some a28 ∧ 0 ≤ s23 ∧ s23 < ((s22.2.2.len : Nat) : Int)) ∧
  Runs Try.prog (Instr.storeAt 5 (.pointer (some (a28.add (s23.toNat * 1)))) (.int .u8 (IntKind.wrap .u8 ((BitVec.ofInt (IntKind.bits .u8) x25 ^^^ (BitVec.ofInt (IntKind.bits .u8) x27)).toNat : Nat)))) h16 fun _ h17 =>
  (Held.ok [] h17) ∧
  K2 (IntKind.wrap .i64 (s23 + (1 : Int))) h17)
  (∃ x29 : Int × Int × Int, cellsAt h16 a2 0 [(.int .i64 x29.1), (.int .i64 x29.2.1), (.int .i64 x29.2.2)] ∧
  CallM Try.prog 11 #[(.agg #[(.int .i64 x29.1), (.int .i64 x29.2.1), (.int .i64 x29.2.2)]), (.int .u32 r4), (.slice s22.1.ptr s22.1.len s22.1.cap)] (.many [(.sc .ptr), (.sc (.int .i64))]) h16 fun r30 h18 =>
  ∃ x31 : Int × Int × Int, cellsAt h18 a2 0 [(.int .i64 x31.1), (.int .i64 x31.2.1), (.int .i64 x31.2.2)] ∧
  CallM Try.prog 11 #[(.agg #[(.int .i64 x31.1), (.int .i64 x31.2.1), (.int .i64 x31.2.2)]), (.int .u32 r4), (.slice s22.2.1.ptr s22.2.1.len s22.2.1.cap)] (.many [(.sc .ptr), (.sc (.int .i64))]) h18 fun r32 h19 =>
  ∃ x33 : Int × Int × Int, cellsAt h19 a2 0 [(.int .i64 x33.1), (.int .i64 x33.2.1), (.int .i64 x33.2.2)] ∧
  CallM Try.prog 11 #[(.agg #[(.int .i64 x33.1), (.int .i64 x33.2.1), (.int .i64 x33.2.2)]), (.int .u32 r4), (.slice s22.2.2.ptr s22.2.2.len s22.2.2.cap)] (.many [(.sc .ptr), (.sc (.int .i64))]) h19 fun r34 h20 =>
  JoinM (σ := Option Addr × Int) (fun s40 h23 =>
  JoinM (σ := Unit) (fun _ h24 =>
  CallM Try.prog 12 #[(.int .i64 id_6), (.int .i64 (65536 : Int))] (.one (.sc (.int .i64))) h24 fun r42 h25 =>
  CallM Try.prog 13 #[(.pointer r30.1), (.int .i64 r42)] (.one (.sc .slc)) h25 fun r43 h26 =>
  CallM Try.prog 13 #[(.pointer r32.1), (.int .i64 r42)] (.one (.sc .slc)) h26 fun r44 h27 =>
  CallM Try.prog 13 #[(.pointer r34.1), (.int .i64 r42)] (.one (.sc .slc)) h27 fun r45 h28 =>
  JoinM (σ := Unit) (fun _ h29 =>
  LoopM (σ := Int) (fun s50 K6 h30 =>
  Br (decide (s50 < ((r45.len : Nat) : Int)))
  (∃ a51 : Addr, (r45.ptr = some a51 ∧ 0 ≤ s50 ∧ s50 < ((r45.len : Nat) : Int)) ∧
  ∃ x52 : Int, cellOf h30 (a51.add (s50.toNat * 1)) = some (.int .u8 x52) ∧
  ∃ a53 : Addr, (r43.ptr = some a53 ∧ 0 ≤ s50 ∧ s50 < ((r43.len : Nat) : Int)) ∧
  ∃ x54 : Int, cellOf h30 (a53.add (s50.toNat * 1)) = some (.int .u8 x54) ∧
  ∃ a55 : Addr, (r44.ptr = some a55 ∧ 0 ≤ s50 ∧ s50 < ((r44.len : Nat) : Int)) ∧
  ∃ x56 : Int, cellOf h30 (a55.add (s50.toNat * 1)) = some (.int .u8 x56) ∧
  Br (x52 != (IntKind.wrap .u8 ((BitVec.ofInt (IntKind.bits .u8) x54 ^^^ (BitVec.ofInt (IntKind.bits .u8) x56)).toNat : Nat)))
  (R (.bool false) h30)
  (K6 (IntKind.wrap .i64 (s50 + (1 : Int))) h30))
  (∃ x57 : Int, cellOf h30 (a2.add 2) = some (.int .i64 x57) ∧
  (CallM Try.prog 13 #[(.pointer s40.1), (.int .i64 r42)] (.one (.sc .slc)) h30 fun r58 h31 =>
  (Held.ok [(a2.add 2, (.int .i64 x57))] h31) ∧
  RunsR Try.prog (Instr.makeSlice 23 (.int .i64 x57) (.int .i64 x57)) (.one (.sc .slc)) h31 fun v59 h32 =>
  (Held.ok [] h32) ∧
  CallM Try.prog 14 #[(.slice r58.ptr r58.len r58.cap), (.slice v59.ptr v59.len v59.cap)] (.one (.sc .bool)) h32 fun r60 h33 =>
  (Held.ok [] h33) ∧
  Br r60 (CallM Try.prog 9 #[] (.one (.sc .bool)) h33 fun r61 h34 =>
  (Held.ok [] h34) ∧
  R (.bool r61) h34) ((Held.ok [] h33) ∧
  R (.bool false) h33)) ∧ (RunsR Try.prog (Instr.makeSlice 23 (.int .i64 x57) (.int .i64 x57)) (.one (.sc .slc)) h30 fun v62 h35 =>
  (Held.ok [] h35) ∧
  CallM Try.prog 13 #[(.pointer s40.1), (.int .i64 r42)] (.one (.sc .slc)) h35 fun r63 h36 =>
  (Held.ok [] h36) ∧
  CallM Try.prog 14 #[(.slice r63.ptr r63.len r63.cap), (.slice v62.ptr v62.len v62.cap)] (.one (.sc .bool)) h36 fun r64 h37 =>
  (Held.ok [] h37) ∧
  Br r64 (CallM Try.prog 9 #[] (.one (.sc .bool)) h37 fun r65 h38 =>
  (Held.ok [] h38) ∧
  R (.bool r65) h38) ((Held.ok [] h37) ∧
  R (.bool false) h37)))) (0 : Int) h29)
  (fun K5 =>
  ∃ x46 : Int, cellOf h28 (a2.add 2) = some (.int .i64 x46) ∧
  Br (((r43.len : Nat) : Int) != x46) (R (.bool false) h28) (∃ x47 : Int, cellOf h28 (a2.add 2) = some (.int .i64 x47) ∧
  Br (((r44.len : Nat) : Int) != x47) (R (.bool false) h28) (∃ x48 : Int, cellOf h28 (a2.add 2) = some (.int .i64 x48) ∧
  Br (((r45.len : Nat) : Int) != x48)
  (R (.bool false) h28)
  (K5 () h28)))))
  (fun K4 =>
  Br (r30.2 != (0 : Int)) (R (.bool false) h23) (Br (r32.2 != (0 : Int)) (R (.bool false) h23) (Br (r34.2 != (0 : Int)) (R (.bool false) h23) (Br (s40.2 != (0 : Int)) (R (.bool false) h23) (Br (Option.isNone r30.1) (R (.bool false) h23) (Br (Option.isNone r32.1) (R (.bool false) h23) (Br (Option.isNone r34.1) (R (.bool false) h23) (Br (Option.isNone s40.1)
  (R (.bool false) h23)
  (K4 () h23))))))))))
  (fun K3 =>
  ∃ x35 : Int × Int × Int, cellsAt h20 a2 0 [(.int .i64 x35.1), (.int .i64 x35.2.1), (.int .i64 x35.2.2)] ∧
  ∃ x36 : Int, cellOf h20 a2 = some (.int .i64 x36) ∧
  ∃ x37 : Int, cellOf h20 (a2.add 2) = some (.int .i64 x37) ∧
  RunsR Try.prog (Instr.makeSlice 23 (.int .i64 (IntKind.wrap .i64 (x36 * x37))) (.int .i64 (IntKind.wrap .i64 (x36 * x37)))) (.one (.sc .slc)) h20 fun v38 h21 =>
  (Held.ok [(a2.add 2, (.int .i64 x37)), (a2, (.int .i64 x36)), (a2, (.int .i64 x35.1)), (a2.add 1, (.int .i64 x35.2.1)), (a2.add 2, (.int .i64 x35.2.2))] h21) ∧
  CallM Try.prog 11 #[(.agg #[(.int .i64 x35.1), (.int .i64 x35.2.1), (.int .i64 x35.2.2)]), (.int .u32 r4), (.slice v38.ptr v38.len v38.cap)] (.many [(.sc .ptr), (.sc (.int .i64))]) h21 fun r39 h22 =>
  (Held.ok [(a2.add 2, (.int .i64 x37)), (a2, (.int .i64 x36))] h22) ∧
  K3 (r39.1, r39.2) h22))) (0 : Int) h15)
  (fun K1 =>
  ∃ x8 : Int, cellOf h5 a2 = some (.int .i64 x8) ∧
  ∃ x9 : Int, cellOf h5 (a2.add 2) = some (.int .i64 x9) ∧
  ∃ x10 : Int, cellOf h5 a2 = some (.int .i64 x10) ∧
  ∃ x11 : Int, cellOf h5 (a2.add 2) = some (.int .i64 x11) ∧
  ∃ x12 : Int, cellOf h5 a2 = some (.int .i64 x12) ∧
  ∃ x13 : Int, cellOf h5 (a2.add 2) = some (.int .i64 x13) ∧
  (CallM Try.prog 10 #[(.slice x_4.ptr x_4.len x_4.cap), (.int .i64 (IntKind.wrap .i64 (x8 * x9)))] (.one (.sc .slc)) h5 fun r14 h7 =>
  (Held.ok [(a2.add 2, (.int .i64 x13)), (a2, (.int .i64 x12)), (a2.add 2, (.int .i64 x11)), (a2, (.int .i64 x10)), (a2.add 2, (.int .i64 x9)), (a2, (.int .i64 x8))] h7) ∧
  (CallM Try.prog 10 #[(.slice y_5.ptr y_5.len y_5.cap), (.int .i64 (IntKind.wrap .i64 (x10 * x11)))] (.one (.sc .slc)) h7 fun r15 h8 =>
  (Held.ok [(a2.add 2, (.int .i64 x13)), (a2, (.int .i64 x12)), (a2.add 2, (.int .i64 x11)), (a2, (.int .i64 x10)), (a2.add 2, (.int .i64 x9)), (a2, (.int .i64 x8))] h8) ∧
  RunsR Try.prog (Instr.makeSlice 23 (.int .i64 (IntKind.wrap .i64 (x12 * x13))) (.int .i64 (IntKind.wrap .i64 (x12 * x13)))) (.one (.sc .slc)) h8 fun v16 h9 =>
  (Held.ok [(a2.add 2, (.int .i64 x13)), (a2, (.int .i64 x12)), (a2.add 2, (.int .i64 x11)), (a2, (.int .i64 x10)), (a2.add 2, (.int .i64 x9)), (a2, (.int .i64 x8))] h9) ∧
  K1 ((⟨r14.ptr, r14.len, r14.cap⟩ : Sl), (⟨r15.ptr, r15.len, r15.cap⟩ : Sl), (⟨v16.ptr, v16.len, v16.cap⟩ : Sl)) h9) ∧ (RunsR Try.prog (Instr.makeSlice 23 (.int .i64 (IntKind.wrap .i64 (x12 * x13))) (.int .i64 (IntKind.wrap .i64 (x12 * x13)))) (.one (.sc .slc)) h7 fun v17 h10 =>
  (Held.ok [(a2.add 2, (.int .i64 x13)), (a2, (.int .i64 x12)), (a2.add 2, (.int .i64 x11)), (a2, (.int .i64 x10)), (a2.add 2, (.int .i64 x9)), (a2, (.int .i64 x8))] h10) ∧
  CallM Try.prog 10 #[(.slice y_5.ptr y_5.len y_5.cap), (.int .i64 (IntKind.wrap .i64 (x10 * x11)))] (.one (.sc .slc)) h10 fun r18 h11 =>
  (Held.ok [(a2.add 2, (.int .i64 x13)), (a2, (.int .i64 x12)), (a2.add 2, (.int .i64 x11)), (a2, (.int .i64 x10)), (a2.add 2, (.int .i64 x9)), (a2, (.int .i64 x8))] h11) ∧
  K1 ((⟨r14.ptr, r14.len, r14.cap⟩ : Sl), (⟨r18.ptr, r18.len, r18.cap⟩ : Sl), (⟨v17.ptr, v17.len, v17.cap⟩ : Sl)) h11)) ∧ (RunsR Try.prog (Instr.makeSlice 23 (.int .i64 (IntKind.wrap .i64 (x12 * x13))) (.int .i64 (IntKind.wrap .i64 (x12 * x13)))) (.one (.sc .slc)) h5 fun v19 h12 =>
  (Held.ok [(a2.add 2, (.int .i64 x13)), (a2, (.int .i64 x12)), (a2.add 2, (.int .i64 x11)), (a2, (.int .i64 x10)), (a2.add 2, (.int .i64 x9)), (a2, (.int .i64 x8))] h12) ∧
  CallM Try.prog 10 #[(.slice x_4.ptr x_4.len x_4.cap), (.int .i64 (IntKind.wrap .i64 (x8 * x9)))] (.one (.sc .slc)) h12 fun r20 h13 =>
  (Held.ok [(a2.add 2, (.int .i64 x13)), (a2, (.int .i64 x12)), (a2.add 2, (.int .i64 x11)), (a2, (.int .i64 x10)), (a2.add 2, (.int .i64 x9)), (a2, (.int .i64 x8))] h13) ∧
  CallM Try.prog 10 #[(.slice y_5.ptr y_5.len y_5.cap), (.int .i64 (IntKind.wrap .i64 (x10 * x11)))] (.one (.sc .slc)) h13 fun r21 h14 =>
  (Held.ok [(a2.add 2, (.int .i64 x13)), (a2, (.int .i64 x12)), (a2.add 2, (.int .i64 x11)), (a2, (.int .i64 x10)), (a2.add 2, (.int .i64 x9)), (a2, (.int .i64 x8))] h14) ∧
  K1 ((⟨r20.ptr, r20.len, r20.cap⟩ : Sl), (⟨r21.ptr, r21.len, r21.cap⟩ : Sl), (⟨v19.ptr, v19.len, v19.cap⟩ : Sl)) h14)))
noncomputable def wellspringlaw11_EncodeSums_ann : Ann := (.two .n (.two .n (.two .n (.two .n (.two (.join [(17, (.sc .slc)), (18, (.sc .slc)), (19, (.sc .slc))] [(17, 20), (45, 65)] .n) (.two (.two .n (.inn (.loop [(67, (.sc (.int .i64)))] [(20, 21), (67, 83)] .n))) (.two .n (.two .n (.two .n (.two (.join [(27, (.sc .ptr)), (28, (.sc (.int .i64)))] [(27, 29), (104, 116)] .n) (.two (.join [] [(14, 15), (116, 146)] .n) (.two .n (.two .n (.two (.join [] [(14, 15), (157, 176)] .n) (.two (.two .n (.inn (.loop [(178, (.sc (.int .i64)))] [(14, 15), (32, 33), (178, 196)] .n))) .n)))))))))))))))
theorem wellspringlaw11_EncodeSums_eq (a_0 : Int) (b_1 : Int) (c_2 : Int) (seed_3 : Int) (x_4 : Sl) (y_5 : Sl) (id_6 : Int) (R : Value → Heap → Prop) (h : Heap) : fnV C Try.f3 300 wellspringlaw11_EncodeSums_ann [(.int .i64 a_0), (.int .i64 b_1), (.int .i64 c_2), (.int .u64 seed_3), (.slice x_4.ptr x_4.len x_4.cap), (.slice y_5.ptr y_5.len y_5.cap), (.int .i64 id_6)] R h = wellspringlaw11_EncodeSums_m a_0 b_1 c_2 seed_3 x_4 y_5 id_6 R h := by kernel_rfl
theorem wellspringlaw11_EncodeSums_run (a_0 : Int) (b_1 : Int) (c_2 : Int) (seed_3 : Int) (x_4 : Sl) (y_5 : Sl) (id_6 : Int) {R : Value → Heap → Prop} {h : Heap} (hm : wellspringlaw11_EncodeSums_m a_0 b_1 c_2 seed_3 x_4 y_5 id_6 R h) : Meets Try.prog 3 #[(.int .i64 a_0), (.int .i64 b_1), (.int .i64 c_2), (.int .u64 seed_3), (.slice x_4.ptr x_4.len x_4.cap), (.slice y_5.ptr y_5.len y_5.cap), (.int .i64 id_6)] h R :=
  fn_spec C_ok (f := 3) (fn := Try.f3) (args := [(.int .i64 a_0), (.int .i64 b_1), (.int .i64 c_2), (.int .u64 seed_3), (.slice x_4.ptr x_4.len x_4.cap), (.slice y_5.ptr y_5.len y_5.cap), (.int .i64 id_6)]) Try.func3 (by rw [Try.ntmps3]; exact Nat.le_of_ble_eq_true rfl) (cast (wellspringlaw11_EncodeSums_eq a_0 b_1 c_2 seed_3 x_4 y_5 id_6 R h).symm hm)
/-- wellspring/wellspringlaw11.EncodeErrors -/
abbrev wellspringlaw11_EncodeErrors_id : FuncId := 4
noncomputable def wellspringlaw11_EncodeErrors_m (a_0 : Int) (b_1 : Int) (c_2 : Int) (seed_3 : Int) (data_4 : Sl) (id_5 : Int) (R : Value → Heap → Prop) (h : Heap) : Prop :=
  CallM Try.prog 6 #[(.int .i64 a_0), (.int .i64 b_1), (.int .i64 c_2)] (.one (.agg [(.int .i64), (.int .i64), (.int .i64)])) h fun r1 h1 =>
  RunsA Try.prog (Instr.alloc 25 true (.tuple #[])) h1 fun a2 h2 =>
  Runs Try.prog (Instr.storeAt 25 (.pointer (some a2)) (.agg #[(.int .i64 r1.1), (.int .i64 r1.2.1), (.int .i64 r1.2.2)])) h2 fun _ h3 =>
  ∃ x3 : Int × Int × Int, cellsAt h3 a2 0 [(.int .i64 x3.1), (.int .i64 x3.2.1), (.int .i64 x3.2.2)] ∧
  CallM Try.prog 7 #[(.agg #[(.int .i64 x3.1), (.int .i64 x3.2.1), (.int .i64 x3.2.2)]), (.int .u64 seed_3)] (.one (.sc (.int .u32))) h3 fun r4 h4 =>
  ∃ x5 : Int, cellOf h4 a2 = some (.int .i64 x5) ∧
  ∃ x6 : Int, cellOf h4 (a2.add 2) = some (.int .i64 x6) ∧
  CallM Try.prog 10 #[(.slice data_4.ptr data_4.len data_4.cap), (.int .i64 (IntKind.wrap .i64 (x5 * x6)))] (.one (.sc .slc)) h4 fun r7 h5 =>
  JoinM (σ := Int) (fun s17 h14 =>
  ∃ x18 : Int × Int × Int, cellsAt h14 a2 0 [(.int .i64 x18.1), (.int .i64 x18.2.1), (.int .i64 x18.2.2)] ∧
  (0 ≤ (1 : Int) ∧ (1 : Int) ≤ ((r7.len : Nat) : Int)) ∧
  CallM Try.prog 11 #[(.agg #[(.int .i64 x18.1), (.int .i64 x18.2.1), (.int .i64 x18.2.2)]), (.int .u32 r4), (.slice (if r7.cap = (1 : Int).toNat then r7.ptr else r7.ptr.map (·.add ((1 : Int).toNat * 1))) (r7.len - (1 : Int).toNat) (r7.cap - (1 : Int).toNat))] (.many [(.sc .ptr), (.sc (.int .i64))]) h14 fun r19 h15 =>
  (Held.ok [] h15) ∧
  ∃ x20 : Int, cellOf h15 a2 = some (.int .i64 x20) ∧
  ∃ x21 : Int, cellOf h15 (a2.add 1) = some (.int .i64 x21) ∧
  CallM Try.prog 11 #[(.agg #[(.int .i64 x20), (.int .i64 x21), (.int .i64 (0 : Int))]), (.int .u32 r4), (.slice none 0 0)] (.many [(.sc .ptr), (.sc (.int .i64))]) h15 fun r22 h16 =>
  JoinM (σ := Unit) (fun _ h17 =>
  JoinM (σ := Unit) (fun _ h20 =>
  ∃ x27 : Int × Int × Int, cellsAt h20 a2 0 [(.int .i64 x27.1), (.int .i64 x27.2.1), (.int .i64 x27.2.2)] ∧
  CallM Try.prog 11 #[(.agg #[(.int .i64 x27.1), (.int .i64 x27.2.1), (.int .i64 x27.2.2)]), (.int .u32 r4), (.slice r7.ptr r7.len r7.cap)] (.many [(.sc .ptr), (.sc (.int .i64))]) h20 fun r28 h21 =>
  Br (r28.2 != (0 : Int))
  (Br (r28.2 == (8 : Int)) (∃ x29 : Int × Int × Int, cellsAt h21 a2 0 [(.int .i64 x29.1), (.int .i64 x29.2.1), (.int .i64 x29.2.2)] ∧
  CallM Try.prog 8 #[(.agg #[(.int .i64 x29.1), (.int .i64 x29.2.1), (.int .i64 x29.2.2)]), (.int .u32 r4)] (.one (.sc .bool)) h21 fun r30 h22 =>
  Br (!r30) (CallM Try.prog 9 #[] (.one (.sc .bool)) h22 fun r31 h23 =>
  R (.bool r31) h23) (R (.bool false) h22)) (R (.bool false) h21))
  (Br (Option.isNone r28.1)
  (R (.bool false) h21)
  (CallM Try.prog 15 #[(.pointer r28.1)] (.one (.sc .slc)) h21 fun r32 h24 =>
  CallM Try.prog 16 #[(.slice r32.ptr r32.len r32.cap)] (.one (.sc .slc)) h24 fun r33 h25 =>
  CallM Try.prog 15 #[(.pointer r28.1)] (.one (.sc .slc)) h25 fun r34 h26 =>
  CallM Try.prog 13 #[(.pointer r28.1), (.int .i64 (0 : Int))] (.one (.sc .slc)) h26 fun r35 h27 =>
  CallM Try.prog 13 #[(.pointer r28.1), (.int .i64 (7 : Int))] (.one (.sc .slc)) h27 fun r36 h28 =>
  RunsR Try.prog (Instr.buildSlice 40 2 #[(0, (.slice r35.ptr r35.len r35.cap)), (1, (.slice r36.ptr r36.len r36.cap))]) (.one (.sc .slc)) h28 fun v37 h29 =>
  RunsR Try.prog (Builtin.append_ #[40, 40] 40 #[(.slice r34.ptr r34.len r34.cap), (.slice v37.ptr v37.len v37.cap)]) (.one (.sc .slc)) h29 fun v38 h30 =>
  LoopM (σ := Int) (fun s39 K4 h31 =>
  Br (decide (s39 < ((v38.len : Nat) : Int)))
  (∃ a40 : Addr, (v38.ptr = some a40 ∧ 0 ≤ s39 ∧ s39 < ((v38.len : Nat) : Int)) ∧
  ∃ x41 : Sl, cellOf h31 (a40.add (s39.toNat * 1)) = some (.slice x41.ptr x41.len x41.cap) ∧
  LoopM (σ := Int) (fun s42 K5 h32 =>
  Br (decide (s42 < ((x41.len : Nat) : Int)))
  (∃ a43 : Addr, (x41.ptr = some a43 ∧ 0 ≤ s42 ∧ s42 < ((x41.len : Nat) : Int)) ∧
  ∃ x44 : Int, cellOf h32 (a43.add (s42.toNat * 1)) = some (.int .u8 x44) ∧
  ∃ a45 : Addr, (x41.ptr = some a45 ∧ 0 ≤ s42 ∧ s42 < ((x41.len : Nat) : Int)) ∧
  Runs Try.prog (Instr.storeAt 5 (.pointer (some (a45.add (s42.toNat * 1)))) (.int .u8 (IntKind.wrap .u8 (x44 + (1 : Int))))) h32 fun _ h33 =>
  K5 (IntKind.wrap .i64 (s42 + (1 : Int))) h33)
  (K4 (IntKind.wrap .i64 (s39 + (1 : Int))) h32)) (0 : Int) h31)
  (CallM Try.prog 15 #[(.pointer r28.1)] (.one (.sc .slc)) h31 fun r46 h34 =>
  (Held.ok [] h34) ∧
  CallM Try.prog 17 #[(.slice r46.ptr r46.len r46.cap), (.slice r33.ptr r33.len r33.cap)] (.one (.sc .bool)) h34 fun r47 h35 =>
  (Held.ok [] h35) ∧
  Br r47 (∃ x48 : Int, cellOf h35 (a2.add 2) = some (.int .i64 x48) ∧
  (0 ≤ x48 ∧ x48 ≤ ((r7.cap : Nat) : Int)) ∧
  CallM Try.prog 13 #[(.pointer r28.1), (.int .i64 (0 : Int))] (.one (.sc .slc)) h35 fun r49 h36 =>
  (Held.ok [(a2.add 2, (.int .i64 x48))] h36) ∧
  CallM Try.prog 14 #[(.slice r49.ptr r49.len r49.cap), (.slice r7.ptr x48.toNat r7.cap)] (.one (.sc .bool)) h36 fun r50 h37 =>
  (Held.ok [(a2.add 2, (.int .i64 x48))] h37) ∧
  Br r50 (CallM Try.prog 9 #[] (.one (.sc .bool)) h37 fun r51 h38 =>
  (Held.ok [(a2.add 2, (.int .i64 x48))] h38) ∧
  R (.bool r51) h38) ((Held.ok [(a2.add 2, (.int .i64 x48))] h37) ∧
  R (.bool false) h37)) ((Held.ok [] h35) ∧
  (Held.ok [] h35) ∧
  (Held.ok [] h35) ∧
  R (.bool false) h35))) (0 : Int) h30)))
  (fun K3 =>
  CallM Try.prog 13 #[(.pointer none), (.int .i64 id_5)] (.one (.sc .slc)) h17 fun r24 h18 =>
  Br (decide (((r24.len : Nat) : Int) > (0 : Int))) (R (.bool false) h18) (CallM Try.prog 15 #[(.pointer none)] (.one (.sc .slc)) h18 fun r25 h19 =>
  Br (decide (((r25.len : Nat) : Int) > (0 : Int)))
  (R (.bool false) h19)
  (K3 () h19))))
  (fun K2 =>
  Br (s17 != (1 : Int)) (R (.bool false) h16) (Br (r19.2 != (1 : Int)) (R (.bool false) h16) (Br (r22.2 != (1 : Int))
  (R (.bool false) h16)
  (K2 () h16)))))
  (fun K1 =>
  ∃ x8 : Int × Int × Int, cellsAt h5 a2 0 [(.int .i64 x8.1), (.int .i64 x8.2.1), (.int .i64 x8.2.2)] ∧
  (RunsR Try.prog (Builtin.append_ #[23, 23] 23 #[(.slice none 0 0), (.slice r7.ptr r7.len r7.cap)]) (.one (.sc .slc)) h5 fun v9 h6 =>
  (Held.ok [(a2, (.int .i64 x8.1)), (a2.add 1, (.int .i64 x8.2.1)), (a2.add 2, (.int .i64 x8.2.2))] h6) ∧
  RunsR Try.prog (Instr.buildSlice 23 1 #[(0, (.int .u8 (1 : Int)))]) (.one (.sc .slc)) h6 fun v10 h7 =>
  (Held.ok [(a2, (.int .i64 x8.1)), (a2.add 1, (.int .i64 x8.2.1)), (a2.add 2, (.int .i64 x8.2.2))] h7) ∧
  RunsR Try.prog (Builtin.append_ #[23, 23] 23 #[(.slice v9.ptr v9.len v9.cap), (.slice v10.ptr v10.len v10.cap)]) (.one (.sc .slc)) h7 fun v11 h8 =>
  (Held.ok [(a2, (.int .i64 x8.1)), (a2.add 1, (.int .i64 x8.2.1)), (a2.add 2, (.int .i64 x8.2.2))] h8) ∧
  CallM Try.prog 11 #[(.agg #[(.int .i64 x8.1), (.int .i64 x8.2.1), (.int .i64 x8.2.2)]), (.int .u32 r4), (.slice v11.ptr v11.len v11.cap)] (.many [(.sc .ptr), (.sc (.int .i64))]) h8 fun r12 h9 =>
  (Held.ok [] h9) ∧
  K1 r12.2 h9) ∧ (RunsR Try.prog (Instr.buildSlice 23 1 #[(0, (.int .u8 (1 : Int)))]) (.one (.sc .slc)) h5 fun v13 h10 =>
  (Held.ok [(a2, (.int .i64 x8.1)), (a2.add 1, (.int .i64 x8.2.1)), (a2.add 2, (.int .i64 x8.2.2))] h10) ∧
  RunsR Try.prog (Builtin.append_ #[23, 23] 23 #[(.slice none 0 0), (.slice r7.ptr r7.len r7.cap)]) (.one (.sc .slc)) h10 fun v14 h11 =>
  (Held.ok [(a2, (.int .i64 x8.1)), (a2.add 1, (.int .i64 x8.2.1)), (a2.add 2, (.int .i64 x8.2.2))] h11) ∧
  RunsR Try.prog (Builtin.append_ #[23, 23] 23 #[(.slice v14.ptr v14.len v14.cap), (.slice v13.ptr v13.len v13.cap)]) (.one (.sc .slc)) h11 fun v15 h12 =>
  (Held.ok [(a2, (.int .i64 x8.1)), (a2.add 1, (.int .i64 x8.2.1)), (a2.add 2, (.int .i64 x8.2.2))] h12) ∧
  CallM Try.prog 11 #[(.agg #[(.int .i64 x8.1), (.int .i64 x8.2.1), (.int .i64 x8.2.2)]), (.int .u32 r4), (.slice v15.ptr v15.len v15.cap)] (.many [(.sc .ptr), (.sc (.int .i64))]) h12 fun r16 h13 =>
  (Held.ok [] h13) ∧
  K1 r16.2 h13))
noncomputable def wellspringlaw11_EncodeErrors_ann : Ann := (.two .n (.two .n (.two .n (.two .n (.two (.join [(17, (.sc (.int .i64)))] [(16, 18), (43, 53)] .n) (.two .n (.two .n (.two (.join [] [(12, 13), (71, 81)] .n) (.two .n (.two (.join [] [(12, 13), (81, 92)] .n) (.two .n (.two .n (.two .n (.two .n (.two (.two .n (.inn (.loop [(126, (.sc (.int .i64)))] [(27, 29), (126, 143)] (.two .n (.two .n (.two (.inn (.two .n (.two .n (.inn (.loop [(132, (.sc (.int .i64)))] [(28, 29), (132, 142)] .n))))) .n)))))) .n)))))))))))))))
theorem wellspringlaw11_EncodeErrors_eq (a_0 : Int) (b_1 : Int) (c_2 : Int) (seed_3 : Int) (data_4 : Sl) (id_5 : Int) (R : Value → Heap → Prop) (h : Heap) : fnV C Try.f4 300 wellspringlaw11_EncodeErrors_ann [(.int .i64 a_0), (.int .i64 b_1), (.int .i64 c_2), (.int .u64 seed_3), (.slice data_4.ptr data_4.len data_4.cap), (.int .i64 id_5)] R h = wellspringlaw11_EncodeErrors_m a_0 b_1 c_2 seed_3 data_4 id_5 R h := by kernel_rfl
theorem wellspringlaw11_EncodeErrors_run (a_0 : Int) (b_1 : Int) (c_2 : Int) (seed_3 : Int) (data_4 : Sl) (id_5 : Int) {R : Value → Heap → Prop} {h : Heap} (hm : wellspringlaw11_EncodeErrors_m a_0 b_1 c_2 seed_3 data_4 id_5 R h) : Meets Try.prog 4 #[(.int .i64 a_0), (.int .i64 b_1), (.int .i64 c_2), (.int .u64 seed_3), (.slice data_4.ptr data_4.len data_4.cap), (.int .i64 id_5)] h R :=
  fn_spec C_ok (f := 4) (fn := Try.f4) (args := [(.int .i64 a_0), (.int .i64 b_1), (.int .i64 c_2), (.int .u64 seed_3), (.slice data_4.ptr data_4.len data_4.cap), (.int .i64 id_5)]) Try.func4 (by rw [Try.ntmps4]; exact Nat.le_of_ble_eq_true rfl) (cast (wellspringlaw11_EncodeErrors_eq a_0 b_1 c_2 seed_3 data_4 id_5 R h).symm hm)
/-- wellspring/wellspringlaw11.EncodeFirst -/
abbrev wellspringlaw11_EncodeFirst_id : FuncId := 5
noncomputable def wellspringlaw11_EncodeFirst_m (a_0 : Int) (b_1 : Int) (c_2 : Int) (seed_3 : Int) (data_4 : Sl) (id_5 : Int) (R : Value → Heap → Prop) (h : Heap) : Prop :=
  CallM Try.prog 6 #[(.int .i64 a_0), (.int .i64 b_1), (.int .i64 c_2)] (.one (.agg [(.int .i64), (.int .i64), (.int .i64)])) h fun r1 h1 =>
  RunsA Try.prog (Instr.alloc 25 true (.tuple #[])) h1 fun a2 h2 =>
  Runs Try.prog (Instr.storeAt 25 (.pointer (some a2)) (.agg #[(.int .i64 r1.1), (.int .i64 r1.2.1), (.int .i64 r1.2.2)])) h2 fun _ h3 =>
  ∃ x3 : Int × Int × Int, cellsAt h3 a2 0 [(.int .i64 x3.1), (.int .i64 x3.2.1), (.int .i64 x3.2.2)] ∧
  CallM Try.prog 7 #[(.agg #[(.int .i64 x3.1), (.int .i64 x3.2.1), (.int .i64 x3.2.2)]), (.int .u64 seed_3)] (.one (.sc (.int .u32))) h3 fun r4 h4 =>
  ∃ x5 : Int, cellOf h4 a2 = some (.int .i64 x5) ∧
  ∃ x6 : Int, cellOf h4 (a2.add 2) = some (.int .i64 x6) ∧
  CallM Try.prog 10 #[(.slice data_4.ptr data_4.len data_4.cap), (.int .i64 (IntKind.wrap .i64 (x5 * x6)))] (.one (.sc .slc)) h4 fun r7 h5 =>
  ∃ x8 : Int × Int × Int, cellsAt h5 a2 0 [(.int .i64 x8.1), (.int .i64 x8.2.1), (.int .i64 x8.2.2)] ∧
  CallM Try.prog 11 #[(.agg #[(.int .i64 x8.1), (.int .i64 x8.2.1), (.int .i64 x8.2.2)]), (.int .u32 r4), (.slice r7.ptr r7.len r7.cap)] (.many [(.sc .ptr), (.sc (.int .i64))]) h5 fun r9 h6 =>
  Br (r9.2 != (0 : Int))
  (Br (r9.2 == (8 : Int)) (∃ x10 : Int × Int × Int, cellsAt h6 a2 0 [(.int .i64 x10.1), (.int .i64 x10.2.1), (.int .i64 x10.2.2)] ∧
  CallM Try.prog 8 #[(.agg #[(.int .i64 x10.1), (.int .i64 x10.2.1), (.int .i64 x10.2.2)]), (.int .u32 r4)] (.one (.sc .bool)) h6 fun r11 h7 =>
  Br (!r11) (CallM Try.prog 9 #[] (.one (.sc .bool)) h7 fun r12 h8 =>
  R (.bool r12) h8) (R (.bool false) h7)) (R (.bool false) h6))
  (JoinM (σ := Unit) (fun _ h10 =>
  LoopM (σ := Int) (fun s17 K2 h11 =>
  ∃ x18 : Int, cellOf h11 a2 = some (.int .i64 x18) ∧
  Br (decide (s17 < x18))
  (∃ x19 : Int, cellOf h11 (a2.add 2) = some (.int .i64 x19) ∧
  ∃ x20 : Int, cellOf h11 (a2.add 2) = some (.int .i64 x20) ∧
  (0 ≤ (IntKind.wrap .i64 (s17 * x19)) ∧ (IntKind.wrap .i64 (s17 * x19)) ≤ (IntKind.wrap .i64 ((IntKind.wrap .i64 (s17 + (1 : Int))) * x20)) ∧ (IntKind.wrap .i64 ((IntKind.wrap .i64 (s17 + (1 : Int))) * x20)) ≤ ((r7.cap : Nat) : Int)) ∧
  CallM Try.prog 13 #[(.pointer r9.1), (.int .i64 s17)] (.one (.sc .slc)) h11 fun r21 h12 =>
  (Held.ok [(a2.add 2, (.int .i64 x20)), (a2.add 2, (.int .i64 x19))] h12) ∧
  CallM Try.prog 14 #[(.slice r21.ptr r21.len r21.cap), (.slice (if r7.cap = (IntKind.wrap .i64 (s17 * x19)).toNat then r7.ptr else r7.ptr.map (·.add ((IntKind.wrap .i64 (s17 * x19)).toNat * 1))) ((IntKind.wrap .i64 ((IntKind.wrap .i64 (s17 + (1 : Int))) * x20)).toNat - (IntKind.wrap .i64 (s17 * x19)).toNat) (r7.cap - (IntKind.wrap .i64 (s17 * x19)).toNat))] (.one (.sc .bool)) h12 fun r22 h13 =>
  (Held.ok [(a2.add 2, (.int .i64 x20)), (a2.add 2, (.int .i64 x19))] h13) ∧
  Br (!r22)
  (R (.bool false) h13)
  (K2 (IntKind.wrap .i64 (s17 + (1 : Int))) h13))
  (CallM Try.prog 18 #[] (.one (.sc .ptr)) h11 fun r23 h14 =>
  ∃ x24 : Int × Int × Int, cellsAt h14 a2 0 [(.int .i64 x24.1), (.int .i64 x24.2.1), (.int .i64 x24.2.2)] ∧
  CallM Try.prog 20 #[(.agg #[(.int .i64 x24.1), (.int .i64 x24.2.1), (.int .i64 x24.2.2)])] (.one (.sc .slc)) h14 fun r25 h15 =>
  CallM Try.prog 15 #[(.pointer r9.1)] (.one (.sc .slc)) h15 fun r26 h16 =>
  CallM Try.prog 19 #[(.pointer r23), (.slice r25.ptr r25.len r25.cap), (.slice r26.ptr r26.len r26.cap)] (.many [(.sc .slc), (.sc .bool)]) h16 fun r27 h17 =>
  JoinM (σ := Unit) (fun _ h18 =>
  LoopM (σ := Int) (fun s30 K4 h19 =>
  Br (decide (s30 < ((r27.1.len : Nat) : Int)))
  (∃ a31 : Addr, (r27.1.ptr = some a31 ∧ 0 ≤ s30 ∧ s30 < ((r27.1.len : Nat) : Int)) ∧
  ∃ x32 : Sl, cellOf h19 (a31.add (s30.toNat * 1)) = some (.slice x32.ptr x32.len x32.cap) ∧
  ∃ x33 : Int, cellOf h19 (a2.add 2) = some (.int .i64 x33) ∧
  RunsR Try.prog (Instr.makeSlice 23 (.int .i64 x33) (.int .i64 x33)) (.one (.sc .slc)) h19 fun v34 h20 =>
  CallM Try.prog 14 #[(.slice x32.ptr x32.len x32.cap), (.slice v34.ptr v34.len v34.cap)] (.one (.sc .bool)) h20 fun r35 h21 =>
  Br (!r35)
  (R (.bool false) h21)
  (K4 (IntKind.wrap .i64 (s30 + (1 : Int))) h21))
  (CallM Try.prog 12 #[(.int .i64 id_5), (.int .i64 (65536 : Int))] (.one (.sc (.int .i64))) h19 fun r36 h22 =>
  ∃ x37 : Int × Int × Int, cellsAt h22 a2 0 [(.int .i64 x37.1), (.int .i64 x37.2.1), (.int .i64 x37.2.2)] ∧
  CallM Try.prog 21 #[(.agg #[(.int .i64 x37.1), (.int .i64 x37.2.1), (.int .i64 x37.2.2)]), (.int .u32 r4), (.int .i64 r36)] (.one (.sc .slc)) h22 fun r38 h23 =>
  RunsR Try.prog (Instr.buildSlice 40 1 #[(0, (.slice r38.ptr r38.len r38.cap))]) (.one (.sc .slc)) h23 fun v39 h24 =>
  CallM Try.prog 15 #[(.pointer r9.1)] (.one (.sc .slc)) h24 fun r40 h25 =>
  CallM Try.prog 19 #[(.pointer r23), (.slice v39.ptr v39.len v39.cap), (.slice r40.ptr r40.len r40.cap)] (.many [(.sc .slc), (.sc .bool)]) h25 fun r41 h26 =>
  Br r41.2 (Br (((r41.1.len : Nat) : Int) == (1 : Int)) (∃ a42 : Addr, (r41.1.ptr = some a42 ∧ 0 ≤ (0 : Int) ∧ (0 : Int) < ((r41.1.len : Nat) : Int)) ∧
  ∃ x43 : Sl, cellOf h26 (a42.add ((0 : Int).toNat * 1)) = some (.slice x43.ptr x43.len x43.cap) ∧
  CallM Try.prog 13 #[(.pointer r9.1), (.int .i64 r36)] (.one (.sc .slc)) h26 fun r44 h27 =>
  (Held.ok [(a42.add ((0 : Int).toNat * 1), (.slice x43.ptr x43.len x43.cap))] h27) ∧
  CallM Try.prog 14 #[(.slice x43.ptr x43.len x43.cap), (.slice r44.ptr r44.len r44.cap)] (.one (.sc .bool)) h27 fun r45 h28 =>
  (Held.ok [] h28) ∧
  Br r45 (CallM Try.prog 13 #[(.pointer r9.1), (.int .i64 (IntKind.wrap .i64 ((-1 : Int) - r36)))] (.one (.sc .slc)) h28 fun r46 h29 =>
  (Held.ok [] h29) ∧
  Br (((r46.len : Nat) : Int) == (0 : Int)) (CallM Try.prog 9 #[] (.one (.sc .bool)) h29 fun r47 h30 =>
  (Held.ok [] h30) ∧
  R (.bool r47) h30) ((Held.ok [] h29) ∧
  R (.bool false) h29)) ((Held.ok [] h28) ∧
  (Held.ok [] h28) ∧
  R (.bool false) h28)) ((Held.ok [] h26) ∧
  (Held.ok [] h26) ∧
  (Held.ok [] h26) ∧
  (Held.ok [] h26) ∧
  R (.bool false) h26)) ((Held.ok [] h26) ∧
  (Held.ok [] h26) ∧
  (Held.ok [] h26) ∧
  (Held.ok [] h26) ∧
  R (.bool false) h26))) (0 : Int) h18)
  (fun K3 =>
  Br (!r27.2) (R (.bool false) h17) (∃ x28 : Int, cellOf h17 (a2.add 1) = some (.int .i64 x28) ∧
  Br (((r27.1.len : Nat) : Int) != x28)
  (R (.bool false) h17)
  (K3 () h17))))) (0 : Int) h10)
  (fun K1 =>
  Br (Option.isNone r9.1) ((Held.ok [] h6) ∧
  R (.bool false) h6) (∃ x13 : Int, cellOf h6 a2 = some (.int .i64 x13) ∧
  ∃ x14 : Int, cellOf h6 (a2.add 1) = some (.int .i64 x14) ∧
  CallM Try.prog 15 #[(.pointer r9.1)] (.one (.sc .slc)) h6 fun r15 h9 =>
  (Held.ok [(a2.add 1, (.int .i64 x14)), (a2, (.int .i64 x13))] h9) ∧
  Br (((r15.len : Nat) : Int) != (IntKind.wrap .i64 (x13 + x14)))
  (R (.bool false) h9)
  (K1 () h9))))
noncomputable def wellspringlaw11_EncodeFirst_ann : Ann := (.two .n (.two .n (.two .n (.two .n (.two .n (.two .n (.two (.join [] [(12, 13), (59, 72)] .n) (.two (.two .n (.inn (.loop [(18, (.sc (.int .i64)))] [(12, 13), (18, 19), (72, 94)] .n))) (.two .n (.two .n (.two (.join [] [(12, 13), (104, 113)] .n) (.two (.two .n (.inn (.loop [(115, (.sc (.int .i64)))] [(12, 13), (23, 24), (115, 126)] .n))) .n))))))))))))
theorem wellspringlaw11_EncodeFirst_eq (a_0 : Int) (b_1 : Int) (c_2 : Int) (seed_3 : Int) (data_4 : Sl) (id_5 : Int) (R : Value → Heap → Prop) (h : Heap) : fnV C Try.f5 300 wellspringlaw11_EncodeFirst_ann [(.int .i64 a_0), (.int .i64 b_1), (.int .i64 c_2), (.int .u64 seed_3), (.slice data_4.ptr data_4.len data_4.cap), (.int .i64 id_5)] R h = wellspringlaw11_EncodeFirst_m a_0 b_1 c_2 seed_3 data_4 id_5 R h := by kernel_rfl
theorem wellspringlaw11_EncodeFirst_run (a_0 : Int) (b_1 : Int) (c_2 : Int) (seed_3 : Int) (data_4 : Sl) (id_5 : Int) {R : Value → Heap → Prop} {h : Heap} (hm : wellspringlaw11_EncodeFirst_m a_0 b_1 c_2 seed_3 data_4 id_5 R h) : Meets Try.prog 5 #[(.int .i64 a_0), (.int .i64 b_1), (.int .i64 c_2), (.int .u64 seed_3), (.slice data_4.ptr data_4.len data_4.cap), (.int .i64 id_5)] h R :=
  fn_spec C_ok (f := 5) (fn := Try.f5) (args := [(.int .i64 a_0), (.int .i64 b_1), (.int .i64 c_2), (.int .u64 seed_3), (.slice data_4.ptr data_4.len data_4.cap), (.int .i64 id_5)]) Try.func5 (by rw [Try.ntmps5]; exact Nat.le_of_ble_eq_true rfl) (cast (wellspringlaw11_EncodeFirst_eq a_0 b_1 c_2 seed_3 data_4 id_5 R h).symm hm)
/-- wellspring/wellspringplay.Params -/
abbrev wellspringplay_Params_id : FuncId := 6
noncomputable def wellspringplay_Params_m (a_0 : Int) (b_1 : Int) (c_2 : Int) (R : Value → Heap → Prop) (h : Heap) : Prop :=
  RunsA Try.prog (Instr.alloc 25 true (.tuple #[])) h fun a1 h1 =>
  CallM Try.prog 12 #[(.int .i64 a_0), (.int .i64 (16 : Int))] (.one (.sc (.int .i64))) h1 fun r2 h2 =>
  CallM Try.prog 12 #[(.int .i64 b_1), (.int .i64 (4 : Int))] (.one (.sc (.int .i64))) h2 fun r3 h3 =>
  CallM Try.prog 12 #[(.int .i64 c_2), (.int .i64 (24 : Int))] (.one (.sc (.int .i64))) h3 fun r4 h4 =>
  Runs Try.prog (Instr.storeAt 25 (.pointer (some a1)) (.agg #[(.int .i64 (IntKind.wrap .i64 ((1 : Int) + r2))), (.int .i64 (IntKind.wrap .i64 ((1 : Int) + r3))), (.int .i64 (IntKind.wrap .i64 ((1 : Int) + r4)))])) h4 fun _ h5 =>
  ∃ res5 : Int × Int × Int, cellsAt h5 a1 0 [(.int .i64 res5.1), (.int .i64 res5.2.1), (.int .i64 res5.2.2)] ∧
  R (.agg #[(.int .i64 res5.1), (.int .i64 res5.2.1), (.int .i64 res5.2.2)]) h5
noncomputable def wellspringplay_Params_ann : Ann := .n
theorem wellspringplay_Params_eq (a_0 : Int) (b_1 : Int) (c_2 : Int) (R : Value → Heap → Prop) (h : Heap) : fnV C Try.f6 300 wellspringplay_Params_ann [(.int .i64 a_0), (.int .i64 b_1), (.int .i64 c_2)] R h = wellspringplay_Params_m a_0 b_1 c_2 R h := by kernel_rfl
theorem wellspringplay_Params_run (a_0 : Int) (b_1 : Int) (c_2 : Int) {R : Value → Heap → Prop} {h : Heap} (hm : wellspringplay_Params_m a_0 b_1 c_2 R h) : Meets Try.prog 6 #[(.int .i64 a_0), (.int .i64 b_1), (.int .i64 c_2)] h R :=
  fn_spec C_ok (f := 6) (fn := Try.f6) (args := [(.int .i64 a_0), (.int .i64 b_1), (.int .i64 c_2)]) Try.func6 (by rw [Try.ntmps6]; exact Nat.le_of_ble_eq_true rfl) (cast (wellspringplay_Params_eq a_0 b_1 c_2 R h).symm hm)
/-- wellspring/wellspringlaw11.Seed -/
abbrev wellspringlaw11_Seed_id : FuncId := 7
noncomputable def wellspringlaw11_Seed_m (p_0 : Int × Int × Int) (seed_1 : Int) (R : Value → Heap → Prop) (h : Heap) : Prop :=
  RunsA Try.prog (Instr.box 25 (.agg #[(.int .i64 p_0.1), (.int .i64 p_0.2.1), (.int .i64 p_0.2.2)])) h fun a1 h1 =>
  LoopM (σ := Int) (fun s2 K1 h2 =>
  Br (s2 != (IntKind.wrap .u32 ((IntKind.wrap .u32 seed_1) + (24 : Int))))
  (∃ x3 : Int × Int × Int, cellsAt h2 a1 0 [(.int .i64 x3.1), (.int .i64 x3.2.1), (.int .i64 x3.2.2)] ∧
  CallM Try.prog 8 #[(.agg #[(.int .i64 x3.1), (.int .i64 x3.2.1), (.int .i64 x3.2.2)]), (.int .u32 s2)] (.one (.sc .bool)) h2 fun r4 h3 =>
  Br r4
  (R (.int .u32 s2) h3)
  (K1 (IntKind.wrap .u32 (s2 + (1 : Int))) h3))
  (R (.int .u32 (IntKind.wrap .u32 seed_1)) h2)) (IntKind.wrap .u32 seed_1) h1
noncomputable def wellspringlaw11_Seed_ann : Ann := (.two .n (.two (.two .n (.inn (.loop [(5, (.sc (.int .u32)))] [(4, 6), (8, 19)] .n))) .n))
theorem wellspringlaw11_Seed_eq (p_0 : Int × Int × Int) (seed_1 : Int) (R : Value → Heap → Prop) (h : Heap) : fnV C Try.f7 300 wellspringlaw11_Seed_ann [(.agg #[(.int .i64 p_0.1), (.int .i64 p_0.2.1), (.int .i64 p_0.2.2)]), (.int .u64 seed_1)] R h = wellspringlaw11_Seed_m p_0 seed_1 R h := by kernel_rfl
theorem wellspringlaw11_Seed_run (p_0 : Int × Int × Int) (seed_1 : Int) {R : Value → Heap → Prop} {h : Heap} (hm : wellspringlaw11_Seed_m p_0 seed_1 R h) : Meets Try.prog 7 #[(.agg #[(.int .i64 p_0.1), (.int .i64 p_0.2.1), (.int .i64 p_0.2.2)]), (.int .u64 seed_1)] h R :=
  fn_spec C_ok (f := 7) (fn := Try.f7) (args := [(.agg #[(.int .i64 p_0.1), (.int .i64 p_0.2.1), (.int .i64 p_0.2.2)]), (.int .u64 seed_1)]) Try.func7 (by rw [Try.ntmps7]; exact Nat.le_of_ble_eq_true rfl) (cast (wellspringlaw11_Seed_eq p_0 seed_1 R h).symm hm)
/-- wellspring/system.Right -/
abbrev system_Right_id : FuncId := 8
noncomputable def system_Right_m (p_0 : Int × Int × Int) (seed_1 : Int) (R : Value → Heap → Prop) (h : Heap) : Prop :=
  RunsA Try.prog (Instr.box 25 (.agg #[(.int .i64 p_0.1), (.int .i64 p_0.2.1), (.int .i64 p_0.2.2)])) h fun a1 h1 =>
  ∃ x2 : Int × Int × Int, cellsAt h1 a1 0 [(.int .i64 x2.1), (.int .i64 x2.2.1), (.int .i64 x2.2.2)] ∧
  ∃ x3 : Int × Int × Int, cellsAt h1 a1 0 [(.int .i64 x3.1), (.int .i64 x3.2.1), (.int .i64 x3.2.2)] ∧
  CallM Try.prog 23 #[(.agg #[(.int .i64 x3.1), (.int .i64 x3.2.1), (.int .i64 x3.2.2)])] (.one (.sc .slc)) h1 fun r4 h2 =>
  (Held.ok [(a1, (.int .i64 x2.1)), (a1.add 1, (.int .i64 x2.2.1)), (a1.add 2, (.int .i64 x2.2.2))] h2) ∧
  CallM Try.prog 22 #[(.agg #[(.int .i64 x2.1), (.int .i64 x2.2.1), (.int .i64 x2.2.2)]), (.int .u32 seed_1), (.slice r4.ptr r4.len r4.cap)] (.one (.sc .bool)) h2 fun r5 h3 =>
  (Held.ok [] h3) ∧
  R (.bool r5) h3
noncomputable def system_Right_ann : Ann := .n
theorem system_Right_eq (p_0 : Int × Int × Int) (seed_1 : Int) (R : Value → Heap → Prop) (h : Heap) : fnV C Try.f8 300 system_Right_ann [(.agg #[(.int .i64 p_0.1), (.int .i64 p_0.2.1), (.int .i64 p_0.2.2)]), (.int .u32 seed_1)] R h = system_Right_m p_0 seed_1 R h := by kernel_rfl
theorem system_Right_run (p_0 : Int × Int × Int) (seed_1 : Int) {R : Value → Heap → Prop} {h : Heap} (hm : system_Right_m p_0 seed_1 R h) : Meets Try.prog 8 #[(.agg #[(.int .i64 p_0.1), (.int .i64 p_0.2.1), (.int .i64 p_0.2.2)]), (.int .u32 seed_1)] h R :=
  fn_spec C_ok (f := 8) (fn := Try.f8) (args := [(.agg #[(.int .i64 p_0.1), (.int .i64 p_0.2.1), (.int .i64 p_0.2.2)]), (.int .u32 seed_1)]) Try.func8 (by rw [Try.ntmps8]; exact Nat.le_of_ble_eq_true rfl) (cast (system_Right_eq p_0 seed_1 R h).symm hm)
/-- wellspring/wellspringlaw11.wakes -/
abbrev wellspringlaw11_wakes_id : FuncId := 9
noncomputable def wellspringlaw11_wakes_m  (R : Value → Heap → Prop) (h : Heap) : Prop :=
  RunsA Try.prog (Instr.alloc 25 true (.tuple #[])) h fun a1 h1 =>
  Runs Try.prog (Instr.storeAt 25 (.pointer (some a1)) (.agg #[(.int .i64 (1 : Int)), (.int .i64 (1 : Int)), (.int .i64 (2 : Int))])) h1 fun _ h2 =>
  LoopM (σ := Int) (fun s2 K1 h3 =>
  Br (decide (s2 < (20 : Int)))
  (∃ x3 : Int × Int × Int, cellsAt h3 a1 0 [(.int .i64 x3.1), (.int .i64 x3.2.1), (.int .i64 x3.2.2)] ∧
  RunsR Try.prog (Instr.buildSlice 23 2 #[(0, (.int .u8 (5 : Int))), (1, (.int .u8 (6 : Int)))]) (.one (.sc .slc)) h3 fun v4 h4 =>
  CallM Try.prog 11 #[(.agg #[(.int .i64 x3.1), (.int .i64 x3.2.1), (.int .i64 x3.2.2)]), (.int .u32 s2), (.slice v4.ptr v4.len v4.cap)] (.many [(.sc .ptr), (.sc (.int .i64))]) h4 fun r5 h5 =>
  Br (r5.2 == (0 : Int))
  (Br (!(Option.isNone r5.1)) (CallM Try.prog 13 #[(.pointer r5.1), (.int .i64 (0 : Int))] (.one (.sc .slc)) h5 fun r6 h6 =>
  RunsR Try.prog (Instr.buildSlice 23 2 #[(0, (.int .u8 (5 : Int))), (1, (.int .u8 (6 : Int)))]) (.one (.sc .slc)) h6 fun v7 h7 =>
  CallM Try.prog 14 #[(.slice r6.ptr r6.len r6.cap), (.slice v7.ptr v7.len v7.cap)] (.one (.sc .bool)) h7 fun r8 h8 =>
  R (.bool r8) h8) (R (.bool false) h5))
  (K1 (IntKind.wrap .u32 (s2 + (1 : Int))) h5))
  (R (.bool false) h3)) (0 : Int) h2
noncomputable def wellspringlaw11_wakes_ann : Ann := (.two .n (.two .n (.two (.two .n (.inn (.loop [(2, (.sc (.int .u32)))] [(0, 1), (2, 5), (6, 27)] .n))) .n)))
theorem wellspringlaw11_wakes_eq  (R : Value → Heap → Prop) (h : Heap) : fnV C Try.f9 300 wellspringlaw11_wakes_ann [] R h = wellspringlaw11_wakes_m  R h := by kernel_rfl
theorem wellspringlaw11_wakes_run  {R : Value → Heap → Prop} {h : Heap} (hm : wellspringlaw11_wakes_m  R h) : Meets Try.prog 9 #[] h R :=
  fn_spec C_ok (f := 9) (fn := Try.f9) (args := []) Try.func9 (by rw [Try.ntmps9]; exact Nat.le_of_ble_eq_true rfl) (cast (wellspringlaw11_wakes_eq  R h).symm hm)
/-- wellspring/wellspringlaw11.Data -/
abbrev wellspringlaw11_Data_id : FuncId := 10
noncomputable def wellspringlaw11_Data_m (l_0 : Sl) (n_1 : Int) (R : Value → Heap → Prop) (h : Heap) : Prop :=
  RunsR Try.prog (Instr.makeSlice 23 (.int .i64 n_1) (.int .i64 n_1)) (.one (.sc .slc)) h fun v1 h1 =>
  RunsR Try.prog (Builtin.copy_ #[23, 23] 3 #[(.slice v1.ptr v1.len v1.cap), (.slice l_0.ptr l_0.len l_0.cap)]) (.one (.sc (.int .i64))) h1 fun _ h2 =>
  R (.slice v1.ptr v1.len v1.cap) h2
noncomputable def wellspringlaw11_Data_ann : Ann := .n
theorem wellspringlaw11_Data_eq (l_0 : Sl) (n_1 : Int) (R : Value → Heap → Prop) (h : Heap) : fnV C Try.f10 300 wellspringlaw11_Data_ann [(.slice l_0.ptr l_0.len l_0.cap), (.int .i64 n_1)] R h = wellspringlaw11_Data_m l_0 n_1 R h := by kernel_rfl
theorem wellspringlaw11_Data_run (l_0 : Sl) (n_1 : Int) {R : Value → Heap → Prop} {h : Heap} (hm : wellspringlaw11_Data_m l_0 n_1 R h) : Meets Try.prog 10 #[(.slice l_0.ptr l_0.len l_0.cap), (.int .i64 n_1)] h R :=
  fn_spec C_ok (f := 10) (fn := Try.f10) (args := [(.slice l_0.ptr l_0.len l_0.cap), (.int .i64 n_1)]) Try.func10 (by rw [Try.ntmps10]; exact Nat.le_of_ble_eq_true rfl) (cast (wellspringlaw11_Data_eq l_0 n_1 R h).symm hm)
/-- wellspring/encode.New -/
abbrev encode_New_id : FuncId := 11
noncomputable def encode_New_m (p_0 : Int × Int × Int) (seed_1 : Int) (data_2 : Sl) (R : Value → Heap → Prop) (h : Heap) : Prop :=
  RunsA Try.prog (Instr.box 25 (.agg #[(.int .i64 p_0.1), (.int .i64 p_0.2.1), (.int .i64 p_0.2.2)])) h fun a1 h1 =>
  JoinM (σ := Unit) (fun _ h3 =>
  ∃ x7 : Int × Int × Int, cellsAt h3 a1 0 [(.int .i64 x7.1), (.int .i64 x7.2.1), (.int .i64 x7.2.2)] ∧
  CallM Try.prog 8 #[(.agg #[(.int .i64 x7.1), (.int .i64 x7.2.1), (.int .i64 x7.2.2)]), (.int .u32 seed_1)] (.one (.sc .bool)) h3 fun r8 h4 =>
  Br (!r8)
  (R (.tuple #[(.pointer none), (.int .i64 (8 : Int))]) h4)
  (∃ x9 : Int, cellOf h4 (a1.add 1) = some (.int .i64 x9) ∧
  LoopM (σ := Sl × Int) (fun s10 K2 h5 =>
  Br (decide (s10.2 < x9))
  (∃ x11 : Int, cellOf h5 (a1.add 2) = some (.int .i64 x11) ∧
  RunsR Try.prog (Instr.makeSlice 23 (.int .i64 x11) (.int .i64 x11)) (.one (.sc .slc)) h5 fun v12 h6 =>
  RunsR Try.prog (Instr.buildSlice 40 1 #[(0, (.slice v12.ptr v12.len v12.cap))]) (.one (.sc .slc)) h6 fun v13 h7 =>
  RunsR Try.prog (Builtin.append_ #[40, 40] 40 #[(.slice s10.1.ptr s10.1.len s10.1.cap), (.slice v13.ptr v13.len v13.cap)]) (.one (.sc .slc)) h7 fun v14 h8 =>
  K2 ((⟨v14.ptr, v14.len, v14.cap⟩ : Sl), IntKind.wrap .i64 (s10.2 + (1 : Int))) h8)
  (∃ x15 : Int, cellOf h5 a1 = some (.int .i64 x15) ∧
  LoopM (σ := Sl × Int) (fun s16 K3 h9 =>
  Br (decide (s16.2 < x15))
  (∃ x17 : Int, cellOf h9 (a1.add 2) = some (.int .i64 x17) ∧
  ∃ x18 : Int, cellOf h9 (a1.add 2) = some (.int .i64 x18) ∧
  (0 ≤ (IntKind.wrap .i64 (s16.2 * x17)) ∧ (IntKind.wrap .i64 (s16.2 * x17)) ≤ (IntKind.wrap .i64 ((IntKind.wrap .i64 (s16.2 + (1 : Int))) * x18)) ∧ (IntKind.wrap .i64 ((IntKind.wrap .i64 (s16.2 + (1 : Int))) * x18)) ≤ ((data_2.cap : Nat) : Int)) ∧
  RunsR Try.prog (Instr.buildSlice 40 1 #[(0, (.slice (if data_2.cap = (IntKind.wrap .i64 (s16.2 * x17)).toNat then data_2.ptr else data_2.ptr.map (·.add ((IntKind.wrap .i64 (s16.2 * x17)).toNat * 1))) ((IntKind.wrap .i64 ((IntKind.wrap .i64 (s16.2 + (1 : Int))) * x18)).toNat - (IntKind.wrap .i64 (s16.2 * x17)).toNat) (data_2.cap - (IntKind.wrap .i64 (s16.2 * x17)).toNat)))]) (.one (.sc .slc)) h9 fun v19 h10 =>
  RunsR Try.prog (Builtin.append_ #[40, 40] 40 #[(.slice s16.1.ptr s16.1.len s16.1.cap), (.slice v19.ptr v19.len v19.cap)]) (.one (.sc .slc)) h10 fun v20 h11 =>
  K3 ((⟨v20.ptr, v20.len, v20.cap⟩ : Sl), IntKind.wrap .i64 (s16.2 + (1 : Int))) h11)
  (JoinM (σ := Sl × Int) (fun s27 h16 =>
  Br (s27.2 != (0 : Int))
  (R (.tuple #[(.pointer none), (.int .i64 (8 : Int))]) h16)
  (∃ x28 : Int × Int × Int, cellsAt h16 a1 0 [(.int .i64 x28.1), (.int .i64 x28.2.1), (.int .i64 x28.2.2)] ∧
  RunsA Try.prog (Instr.box 59 (.agg #[(.int .i64 x28.1), (.int .i64 x28.2.1), (.int .i64 x28.2.2), (.int .u32 seed_1), (.slice s27.1.ptr s27.1.len s27.1.cap)])) h16 fun a29 h17 =>
  R (.tuple #[(.pointer (some a29)), (.int .i64 (0 : Int))]) h17))
  (fun K4 =>
  ∃ x21 : Int × Int × Int, cellsAt h9 a1 0 [(.int .i64 x21.1), (.int .i64 x21.2.1), (.int .i64 x21.2.2)] ∧
  ∃ x22 : Int × Int × Int, cellsAt h9 a1 0 [(.int .i64 x22.1), (.int .i64 x22.2.1), (.int .i64 x22.2.2)] ∧
  CallM Try.prog 18 #[] (.one (.sc .ptr)) h9 fun r23 h12 =>
  (Held.ok [(a1, (.int .i64 x22.1)), (a1.add 1, (.int .i64 x22.2.1)), (a1.add 2, (.int .i64 x22.2.2)), (a1, (.int .i64 x21.1)), (a1.add 1, (.int .i64 x21.2.1)), (a1.add 2, (.int .i64 x21.2.2))] h12) ∧
  CallM Try.prog 23 #[(.agg #[(.int .i64 x22.1), (.int .i64 x22.2.1), (.int .i64 x22.2.2)])] (.one (.sc .slc)) h12 fun r24 h13 =>
  (Held.ok [(a1, (.int .i64 x21.1)), (a1.add 1, (.int .i64 x21.2.1)), (a1.add 2, (.int .i64 x21.2.2))] h13) ∧
  CallM Try.prog 26 #[(.agg #[(.int .i64 x21.1), (.int .i64 x21.2.1), (.int .i64 x21.2.2)]), (.int .u32 seed_1), (.slice r24.ptr r24.len r24.cap)] (.one (.sc .slc)) h13 fun r25 h14 =>
  (Held.ok [] h14) ∧
  CallM Try.prog 25 #[(.pointer r23), (.slice r25.ptr r25.len r25.cap), (.slice s16.1.ptr s16.1.len s16.1.cap)] (.many [(.sc .slc), (.sc (.int .i64))]) h14 fun r26 h15 =>
  (Held.ok [] h15) ∧
  K4 ((⟨r26.1.ptr, r26.1.len, r26.1.cap⟩ : Sl), r26.2) h15))) ((⟨s10.1.ptr, s10.1.len, s10.1.cap⟩ : Sl), (0 : Int)) h5)) ((⟨none, 0, 0⟩ : Sl), (0 : Int)) h4))
  (fun K1 =>
  ∃ x2 : Int × Int × Int, cellsAt h1 a1 0 [(.int .i64 x2.1), (.int .i64 x2.2.1), (.int .i64 x2.2.2)] ∧
  CallM Try.prog 24 #[(.agg #[(.int .i64 x2.1), (.int .i64 x2.2.1), (.int .i64 x2.2.2)])] (.one (.sc .bool)) h1 fun r3 h2 =>
  Br (!r3) (R (.tuple #[(.pointer none), (.int .i64 (1 : Int))]) h2) (∃ x4 : Int, cellOf h2 a1 = some (.int .i64 x4) ∧
  ∃ x5 : Int, cellOf h2 (a1.add 2) = some (.int .i64 x5) ∧
  Br (((data_2.len : Nat) : Int) != (IntKind.wrap .i64 (x4 * x5)))
  (R (.tuple #[(.pointer none), (.int .i64 (1 : Int))]) h2)
  (K1 () h2)))
noncomputable def encode_New_ann : Ann := (.two .n (.two (.join [] [(6, 8), (12, 25)] .n) (.two .n (.two .n (.two (.two .n (.inn (.loop [(8, (.sc .slc)), (31, (.sc (.int .i64)))] [(8, 9), (31, 40)] .n))) (.two (.two .n (.inn (.loop [(8, (.sc .slc)), (42, (.sc (.int .i64)))] [(8, 10), (42, 60)] .n))) (.two (.join [(10, (.sc .slc)), (11, (.sc (.int .i64)))] [(10, 12), (60, 71)] .n) .n)))))))
theorem encode_New_eq (p_0 : Int × Int × Int) (seed_1 : Int) (data_2 : Sl) (R : Value → Heap → Prop) (h : Heap) : fnV C Try.f11 300 encode_New_ann [(.agg #[(.int .i64 p_0.1), (.int .i64 p_0.2.1), (.int .i64 p_0.2.2)]), (.int .u32 seed_1), (.slice data_2.ptr data_2.len data_2.cap)] R h = encode_New_m p_0 seed_1 data_2 R h := by kernel_rfl
theorem encode_New_run (p_0 : Int × Int × Int) (seed_1 : Int) (data_2 : Sl) {R : Value → Heap → Prop} {h : Heap} (hm : encode_New_m p_0 seed_1 data_2 R h) : Meets Try.prog 11 #[(.agg #[(.int .i64 p_0.1), (.int .i64 p_0.2.1), (.int .i64 p_0.2.2)]), (.int .u32 seed_1), (.slice data_2.ptr data_2.len data_2.cap)] h R :=
  fn_spec C_ok (f := 11) (fn := Try.f11) (args := [(.agg #[(.int .i64 p_0.1), (.int .i64 p_0.2.1), (.int .i64 p_0.2.2)]), (.int .u32 seed_1), (.slice data_2.ptr data_2.len data_2.cap)]) Try.func11 (by rw [Try.ntmps11]; exact Nat.le_of_ble_eq_true rfl) (cast (encode_New_eq p_0 seed_1 data_2 R h).symm hm)
/-- wellspring/wellspringkeep.Within -/
abbrev wellspringkeep_Within_id : FuncId := 12
noncomputable def wellspringkeep_Within_m (x_0 : Int) (n_1 : Int) (R : Value → Heap → Prop) (h : Heap) : Prop :=
  (n_1 ≠ 0) ∧
  JoinM (σ := Int) (fun s1 h1 =>
  R (.int .i64 s1) h1)
  (fun K1 =>
  Br (decide ((Int.tmod x_0 n_1) < (0 : Int)))
  (K1 (IntKind.wrap .i64 ((Int.tmod x_0 n_1) + n_1)) h)
  (K1 (Int.tmod x_0 n_1) h))
noncomputable def wellspringkeep_Within_ann : Ann := (.two .n (.two .n (.two (.join [(0, (.sc (.int .i64)))] [(0, 1), (8, 13)] .n) .n)))
theorem wellspringkeep_Within_eq (x_0 : Int) (n_1 : Int) (R : Value → Heap → Prop) (h : Heap) : fnV C Try.f12 300 wellspringkeep_Within_ann [(.int .i64 x_0), (.int .i64 n_1)] R h = wellspringkeep_Within_m x_0 n_1 R h := by kernel_rfl
theorem wellspringkeep_Within_run (x_0 : Int) (n_1 : Int) {R : Value → Heap → Prop} {h : Heap} (hm : wellspringkeep_Within_m x_0 n_1 R h) : Meets Try.prog 12 #[(.int .i64 x_0), (.int .i64 n_1)] h R :=
  fn_spec C_ok (f := 12) (fn := Try.f12) (args := [(.int .i64 x_0), (.int .i64 n_1)]) Try.func12 (by rw [Try.ntmps12]; exact Nat.le_of_ble_eq_true rfl) (cast (wellspringkeep_Within_eq x_0 n_1 R h).symm hm)
/-- (*wellspring/encode.Block).Symbol -/
abbrev encode_Block_Symbol_id : FuncId := 13
noncomputable def encode_Block_Symbol_m (b_0 : Option Addr) (id_1 : Int) (R : Value → Heap → Prop) (h : Heap) : Prop :=
  JoinM (σ := Unit) (fun _ h1 =>
  ∃ a2 : Addr, (b_0 = some a2) ∧
  ∃ x3 : Int, cellOf h1 (a2.add 2) = some (.int .i64 x3) ∧
  RunsR Try.prog (Instr.makeSlice 23 (.int .i64 x3) (.int .i64 x3)) (.one (.sc .slc)) h1 fun v4 h2 =>
  ∃ a5 : Addr, (b_0 = some a5) ∧
  ∃ x6 : Int × Int × Int, cellsAt h2 a5 0 [(.int .i64 x6.1), (.int .i64 x6.2.1), (.int .i64 x6.2.2)] ∧
  ∃ a7 : Addr, (b_0 = some a7) ∧
  ∃ x8 : Int, cellOf h2 (a7.add 3) = some (.int .u32 x8) ∧
  CallM Try.prog 27 #[(.agg #[(.int .i64 x6.1), (.int .i64 x6.2.1), (.int .i64 x6.2.2)]), (.int .u32 x8), (.int .i64 id_1)] (.one (.sc .slc)) h2 fun r9 h3 =>
  (Held.ok [] h3) ∧
  LoopM (σ := Int) (fun s10 K2 h4 =>
  Br (decide (s10 < ((r9.len : Nat) : Int)))
  (∃ a11 : Addr, (r9.ptr = some a11 ∧ 0 ≤ s10 ∧ s10 < ((r9.len : Nat) : Int)) ∧
  ∃ x12 : Int, cellOf h4 (a11.add (s10.toNat * 1)) = some (.int .i64 x12) ∧
  ∃ a13 : Addr, (b_0 = some a13) ∧
  ∃ x14 : Sl, cellOf h4 (a13.add 4) = some (.slice x14.ptr x14.len x14.cap) ∧
  ∃ a15 : Addr, (x14.ptr = some a15 ∧ 0 ≤ x12 ∧ x12 < ((x14.len : Nat) : Int)) ∧
  ∃ x16 : Sl, cellOf h4 (a15.add (x12.toNat * 1)) = some (.slice x16.ptr x16.len x16.cap) ∧
  LoopM (σ := Int) (fun s17 K3 h5 =>
  Br (decide (s17 < ((x16.len : Nat) : Int)))
  (∃ a18 : Addr, (x16.ptr = some a18 ∧ 0 ≤ s17 ∧ s17 < ((x16.len : Nat) : Int)) ∧
  ∃ x19 : Int, cellOf h5 (a18.add (s17.toNat * 1)) = some (.int .u8 x19) ∧
  ∃ a20 : Addr, (v4.ptr = some a20 ∧ 0 ≤ s17 ∧ s17 < ((v4.len : Nat) : Int)) ∧
  ∃ x21 : Int, cellOf h5 (a20.add (s17.toNat * 1)) = some (.int .u8 x21) ∧
  ∃ a22 : Addr, (v4.ptr = some a22 ∧ 0 ≤ s17 ∧ s17 < ((v4.len : Nat) : Int)) ∧
  Runs Try.prog (Instr.storeAt 5 (.pointer (some (a22.add (s17.toNat * 1)))) (.int .u8 (IntKind.wrap .u8 ((BitVec.ofInt (IntKind.bits .u8) x21 ^^^ (BitVec.ofInt (IntKind.bits .u8) x19)).toNat : Nat)))) h5 fun _ h6 =>
  K3 (IntKind.wrap .i64 (s17 + (1 : Int))) h6)
  (K2 (IntKind.wrap .i64 (s10 + (1 : Int))) h5)) (0 : Int) h4)
  (R (.slice v4.ptr v4.len v4.cap) h4)) (0 : Int) h3)
  (fun K1 =>
  Br (Option.isNone b_0) (R (.slice none 0 0) h) (Br (decide (id_1 < (0 : Int))) (R (.slice none 0 0) h) (Br (decide (id_1 > (65535 : Int)))
  (R (.slice none 0 0) h)
  (K1 () h))))
noncomputable def encode_Block_Symbol_ann : Ann := (.two .n (.two (.join [] [(4, 5), (10, 20)] .n) (.two .n (.two (.two .n (.inn (.loop [(37, (.sc (.int .i64)))] [(7, 10), (37, 63)] (.two .n (.two .n (.two (.inn (.two .n (.two .n (.inn (.loop [(49, (.sc (.int .i64)))] [(8, 10), (49, 62)] .n))))) .n)))))) .n))))
theorem encode_Block_Symbol_eq (b_0 : Option Addr) (id_1 : Int) (R : Value → Heap → Prop) (h : Heap) : fnV C Try.f13 300 encode_Block_Symbol_ann [(.pointer b_0), (.int .i64 id_1)] R h = encode_Block_Symbol_m b_0 id_1 R h := by kernel_rfl
theorem encode_Block_Symbol_run (b_0 : Option Addr) (id_1 : Int) {R : Value → Heap → Prop} {h : Heap} (hm : encode_Block_Symbol_m b_0 id_1 R h) : Meets Try.prog 13 #[(.pointer b_0), (.int .i64 id_1)] h R :=
  fn_spec C_ok (f := 13) (fn := Try.f13) (args := [(.pointer b_0), (.int .i64 id_1)]) Try.func13 (by rw [Try.ntmps13]; exact Nat.le_of_ble_eq_true rfl) (cast (encode_Block_Symbol_eq b_0 id_1 R h).symm hm)
/-- wellspring/wellspringkeep.Same[byte] -/
abbrev wellspringkeep_Same_byte_id : FuncId := 14
noncomputable def wellspringkeep_Same_byte_m (a_0 : Sl) (b_1 : Sl) (R : Value → Heap → Prop) (h : Heap) : Prop :=
  Br (((a_0.len : Nat) : Int) != ((b_1.len : Nat) : Int))
  (R (.bool false) h)
  (LoopM (σ := Int) (fun s1 K1 h1 =>
  Br (decide (s1 < ((a_0.len : Nat) : Int)))
  (∃ a2 : Addr, (a_0.ptr = some a2 ∧ 0 ≤ s1 ∧ s1 < ((a_0.len : Nat) : Int)) ∧
  ∃ x3 : Int, cellOf h1 (a2.add (s1.toNat * 1)) = some (.int .u8 x3) ∧
  ∃ a4 : Addr, (b_1.ptr = some a4 ∧ 0 ≤ s1 ∧ s1 < ((b_1.len : Nat) : Int)) ∧
  ∃ x5 : Int, cellOf h1 (a4.add (s1.toNat * 1)) = some (.int .u8 x5) ∧
  Br (x3 != x5)
  (R (.bool false) h1)
  (K1 (IntKind.wrap .i64 (s1 + (1 : Int))) h1))
  (R (.bool true) h1)) (0 : Int) h)
noncomputable def wellspringkeep_Same_byte_ann : Ann := (.two .n (.two .n (.two (.two .n (.inn (.loop [(13, (.sc (.int .i64)))] [(4, 6), (13, 26)] .n))) .n)))
theorem wellspringkeep_Same_byte_eq (a_0 : Sl) (b_1 : Sl) (R : Value → Heap → Prop) (h : Heap) : fnV C Try.f14 300 wellspringkeep_Same_byte_ann [(.slice a_0.ptr a_0.len a_0.cap), (.slice b_1.ptr b_1.len b_1.cap)] R h = wellspringkeep_Same_byte_m a_0 b_1 R h := by kernel_rfl
theorem wellspringkeep_Same_byte_run (a_0 : Sl) (b_1 : Sl) {R : Value → Heap → Prop} {h : Heap} (hm : wellspringkeep_Same_byte_m a_0 b_1 R h) : Meets Try.prog 14 #[(.slice a_0.ptr a_0.len a_0.cap), (.slice b_1.ptr b_1.len b_1.cap)] h R :=
  fn_spec C_ok (f := 14) (fn := Try.f14) (args := [(.slice a_0.ptr a_0.len a_0.cap), (.slice b_1.ptr b_1.len b_1.cap)]) Try.func14 (by rw [Try.ntmps14]; exact Nat.le_of_ble_eq_true rfl) (cast (wellspringkeep_Same_byte_eq a_0 b_1 R h).symm hm)
/-- (*wellspring/encode.Block).Mid -/
abbrev encode_Block_Mid_id : FuncId := 15
noncomputable def encode_Block_Mid_m (b_0 : Option Addr) (R : Value → Heap → Prop) (h : Heap) : Prop :=
  Br (Option.isNone b_0)
  (R (.slice none 0 0) h)
  (∃ a1 : Addr, (b_0 = some a1) ∧
  ∃ x2 : Sl, cellOf h (a1.add 4) = some (.slice x2.ptr x2.len x2.cap) ∧
  LoopM (σ := Sl × Int) (fun s3 K1 h1 =>
  Br (decide (s3.2 < ((x2.len : Nat) : Int)))
  (∃ a4 : Addr, (x2.ptr = some a4 ∧ 0 ≤ s3.2 ∧ s3.2 < ((x2.len : Nat) : Int)) ∧
  ∃ x5 : Sl, cellOf h1 (a4.add (s3.2.toNat * 1)) = some (.slice x5.ptr x5.len x5.cap) ∧
  CallM Try.prog 28 #[(.slice x5.ptr x5.len x5.cap)] (.one (.sc .slc)) h1 fun r6 h2 =>
  RunsR Try.prog (Instr.buildSlice 40 1 #[(0, (.slice r6.ptr r6.len r6.cap))]) (.one (.sc .slc)) h2 fun v7 h3 =>
  RunsR Try.prog (Builtin.append_ #[40, 40] 40 #[(.slice s3.1.ptr s3.1.len s3.1.cap), (.slice v7.ptr v7.len v7.cap)]) (.one (.sc .slc)) h3 fun v8 h4 =>
  K1 ((⟨v8.ptr, v8.len, v8.cap⟩ : Sl), IntKind.wrap .i64 (s3.2 + (1 : Int))) h4)
  (R (.slice s3.1.ptr s3.1.len s3.1.cap) h1)) ((⟨none, 0, 0⟩ : Sl), (0 : Int)) h)
noncomputable def encode_Block_Mid_ann : Ann := (.two .n (.two .n (.two .n (.two (.two .n (.inn (.loop [(3, (.sc .slc)), (13, (.sc (.int .i64)))] [(3, 4), (5, 6), (13, 23)] .n))) .n))))
theorem encode_Block_Mid_eq (b_0 : Option Addr) (R : Value → Heap → Prop) (h : Heap) : fnV C Try.f15 300 encode_Block_Mid_ann [(.pointer b_0)] R h = encode_Block_Mid_m b_0 R h := by kernel_rfl
theorem encode_Block_Mid_run (b_0 : Option Addr) {R : Value → Heap → Prop} {h : Heap} (hm : encode_Block_Mid_m b_0 R h) : Meets Try.prog 15 #[(.pointer b_0)] h R :=
  fn_spec C_ok (f := 15) (fn := Try.f15) (args := [(.pointer b_0)]) Try.func15 (by rw [Try.ntmps15]; exact Nat.le_of_ble_eq_true rfl) (cast (encode_Block_Mid_eq b_0 R h).symm hm)
end Go.Proofs.Ytgcbahhnnphejaa
