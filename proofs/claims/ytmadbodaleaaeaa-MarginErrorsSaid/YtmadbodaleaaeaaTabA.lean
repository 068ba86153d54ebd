/- Part of the proofs that wellspringlaw27's laws answer true whatever the input reads, and leave it as it was; no condition. -/
import Derived.Test.YtmadbodaleaaeaaHpA
import Derived.Test.YtmadbodaleaaeaaProg
set_option linter.unusedVariables false
set_option linter.unusedSimpArgs false
namespace Go.Proofs.Ytmadbodaleaaeaa
open Go Go.Vc Go.Proofs
set_option maxRecDepth 1000000

abbrev T_func : Nat := 1
abbrev T_int64 : Nat := 2
abbrev T_int : Nat := 3
abbrev T_bool : Nat := 4
abbrev T_uint8 : Nat := 5
abbrev T_abi_BoundsErrorCode : Nat := 6
abbrev T_runtime_boundsError : Nat := 8
abbrev T_string : Nat := 9
abbrev T_runtime_errorString : Nat := 10
abbrev T_runtime_plainError : Nat := 11
abbrev T_uintptr : Nat := 12
abbrev T_struct_msg_string_addr_uintptr : Nat := 13
abbrev T_runtime_errorAddressString : Nat := 14
abbrev T_ptr_runtime_TypeAssertionError : Nat := 15
abbrev T_ptr_runtime_PanicNilError : Nat := 16
abbrev T_ptr_abi_Type : Nat := 17
abbrev T_struct_typ_ptr_abi_Type : Nat := 18
abbrev T_maps_unhashableTypeError : Nat := 19
abbrev T_interface : Nat := 20
abbrev T_int32 : Nat := 21
abbrev T_uint : Nat := 22
abbrev T_struct_K_int_H_int_Size_int : Nat := 23
abbrev T_api_Params : Nat := 24
abbrev T_func_int_int_int_api_Params : Nat := 25
abbrev T_sl_sl_int : Nat := 26
abbrev T_func_int_int_int : Nat := 27
abbrev T_sl_int : Nat := 28
abbrev T_api_Errno : Nat := 29
abbrev T_sl_int_bool_api_Errno : Nat := 30
abbrev T_uint32 : Nat := 32
abbrev T_func_bool : Nat := 34
abbrev T_func_int_int_int_uint_int_bool : Nat := 35
abbrev T_func_api_Params_uint_uint32 : Nat := 36
abbrev T_func_sl_int_int_sl_sl_int : Nat := 37
abbrev T_sl_sl_int_api_Errno : Nat := 38
abbrev T_func_int_int_sl_sl_int_api_Errno : Nat := 39
abbrev T_func_sl_int_int_bool : Nat := 40
abbrev T_func_api_Params_uint32_sl_int_bool : Nat := 41
abbrev T_func_sl_int_sl_int_bool : Nat := 42
abbrev T_func_sl_sl_int_sl_sl_int : Nat := 44
abbrev T_func_api_Params_int : Nat := 45
abbrev T_func_api_Params_bool : Nat := 47
abbrev T_ptr_span_Span : Nat := 48
abbrev T_func_ptr_gf_Field_int_ptr_span_Span : Nat := 49
abbrev T_ptr_gf_Field : Nat := 50
abbrev T_func_ptr_gf_Field : Nat := 51
abbrev T_sl_sl_uint8 : Nat := 52
abbrev T_func_api_Params_sl_sl_uint8 : Nat := 53
abbrev T_sl_uint8 : Nat := 54
abbrev T_func_sl_uint8_bool : Nat := 55
abbrev T_sl_sl_sl_uint8 : Nat := 56
abbrev T_func_api_Params_uint32_sl_int_int : Nat := 59
abbrev T_func_api_Params_uint32_bool : Nat := 60
abbrev T_func_sl_int_int_sl_int : Nat := 61
abbrev T_func_int_int_bool : Nat := 62
abbrev T_func_sl_int_sl_int : Nat := 63
abbrev T_span_Span : Nat := 65
abbrev T_255_uint8 : Nat := 66
abbrev T_func_255_uint8 : Nat := 67
abbrev T_256_int : Nat := 68
abbrev T_func_255_uint8_256_int : Nat := 69
abbrev T_struct_exp_255_uint8_log_256_int : Nat := 70
abbrev T_gf_Field : Nat := 71
abbrev T_func_int_int_sl_uint8 : Nat := 72
abbrev T_func_int_uint8 : Nat := 73
abbrev T_sl_uint8_bool : Nat := 74
abbrev T_func_sl_uint8_sl_uint8_bool : Nat := 75
abbrev T_func_sl_uint8_int : Nat := 76
abbrev T_func_api_Params_uint32_int_sl_uint8 : Nat := 78
abbrev T_func_ptr_span_Span : Nat := 79
abbrev T_func_int : Nat := 80
abbrev T_func_sl_int_int_int : Nat := 81
abbrev T_func_ptr_gf_Field_sl_sl_uint8_int : Nat := 82
abbrev T_func_api_Params_sl_int : Nat := 84
abbrev T_func_uint8_uint8_uint8 : Nat := 85
abbrev T_func_sl_uint8_sl_uint8 : Nat := 86
abbrev T_func_sl_uint8_func_uint8_bool_int : Nat := 88
abbrev T_func_uint8_bool : Nat := 89
abbrev T_func_sl_sl_uint8_bool : Nat := 90
abbrev T_func_sl_sl_uint8_sl_sl_uint8 : Nat := 91
abbrev T_func_ptr_gf_Field_sl_sl_uint8_int_int : Nat := 92
abbrev T_func_ptr_gf_Field_ptr_gf_Field : Nat := 93
abbrev T_func_sl_sl_uint8_int : Nat := 94
abbrev T_func_api_Params_uint32_int_sl_int : Nat := 95
abbrev T_func_sl_sl_uint8 : Nat := 96
abbrev T_func_sl_uint8_sl_uint8_sl_uint8_bool : Nat := 97
abbrev T_func_sl_sl_uint8_int_int_int : Nat := 99
abbrev T_func_uint8_uint8 : Nat := 100
abbrev T_ptr_draw_Draw : Nat := 102
abbrev T_func_uint32_ptr_draw_Draw : Nat := 103
abbrev T_func_uint32 : Nat := 104
abbrev T_func_sl_int_ptr_draw_Draw_int : Nat := 105
abbrev T_func_int_sl_int : Nat := 106
abbrev T_func_ptr_draw_Draw_int_int_sl_int : Nat := 107
abbrev T_uint64 : Nat := 108
abbrev T_struct_at_uint64 : Nat := 109
abbrev T_draw_Draw : Nat := 110
abbrev T_func_int_int : Nat := 111
abbrev T_func_sl_int : Nat := 112
abbrev T_func_uint_int : Nat := 113
abbrev T_func_sl_int_int_int_int : Nat := 114
abbrev T_func_uint32_int : Nat := 115
abbrev T_func_uint64_int : Nat := 116
abbrev T_slices_sortedHint : Nat := 118
abbrev T_int_slices_sortedHint : Nat := 119
abbrev T_func_sl_int_int_int_bool : Nat := 121
abbrev T_func_sl_int_int_int_int_int : Nat := 122
abbrev T_int_bool : Nat := 123
abbrev T_func_sl_int_int_int_int_int_bool : Nat := 124
abbrev T_slices_xorshift : Nat := 125
abbrev T_func_int_uint : Nat := 126
abbrev T_func_uint64 : Nat := 127
abbrev T_func_sl_int_int_ptr_int_int : Nat := 128
abbrev T_ptr_int : Nat := 129
abbrev T_func_sl_int_int_int_int_ptr_int_int : Nat := 130
abbrev T_func_int_bool : Nat := 131
abbrev T_ptr_slices_xorshift : Nat := 132
abbrev T_int_int : Nat := 133
abbrev T_func_sl_int_int_int_ptr_int_int_int : Nat := 134
abbrev T_func_string : Nat := 135
abbrev T_runtime_TypeAssertionError : Nat := 137
abbrev T_0_ptr_runtime_PanicNilError : Nat := 138
abbrev T_struct_0_ptr_runtime_PanicNilError : Nat := 139
abbrev T_runtime_PanicNilError : Nat := 140
abbrev T_abi_TFlag : Nat := 141
abbrev T_abi_Kind : Nat := 142
abbrev T_ptr_uint8 : Nat := 144
abbrev T_abi_NameOff : Nat := 145
abbrev T_abi_TypeOff : Nat := 146
abbrev T_abi_Type : Nat := 148
abbrev T_unsafe_Pointer : Nat := 149
noncomputable def tbl : Tbl := [
  ⟨.other, (.sc .any), 1, 0, [(Go.Value.tuple #[])]⟩,
  ⟨.fn, (.sc .fn), 1, 8, [Go.Value.nilFunc]⟩,
  ⟨.int .i64, (.sc (.int .i64)), 1, 8, [(Go.Value.int Go.IntKind.i64 0)]⟩,
  ⟨.int .i64, (.sc (.int .i64)), 1, 8, [(Go.Value.int Go.IntKind.i64 0)]⟩,
  ⟨.bool, (.sc .bool), 1, 1, [(Go.Value.bool Bool.false)]⟩,
  ⟨.int .u8, (.sc (.int .u8)), 1, 1, [(Go.Value.int Go.IntKind.u8 0)]⟩,
  ⟨.int .u8, (.sc (.int .u8)), 1, 1, [(Go.Value.int Go.IntKind.u8 0)]⟩,
  ⟨.struct [(0, 2), (1, 3), (2, 4), (3, 6)], (.agg [(.int .i64), (.int .i64), .bool, (.int .u8)]), 4, 24, [(Go.Value.int Go.IntKind.i64 0), (Go.Value.int Go.IntKind.i64 0), (Go.Value.bool Bool.false), (Go.Value.int Go.IntKind.u8 0)]⟩,
  ⟨.struct [(0, 2), (1, 3), (2, 4), (3, 6)], (.agg [(.int .i64), (.int .i64), .bool, (.int .u8)]), 4, 24, [(Go.Value.int Go.IntKind.i64 0), (Go.Value.int Go.IntKind.i64 0), (Go.Value.bool Bool.false), (Go.Value.int Go.IntKind.u8 0)]⟩,
  ⟨.str, (.sc .str), 1, 16, [(Go.Value.string (ByteArray.mk #[]))]⟩,
  ⟨.str, (.sc .str), 1, 16, [(Go.Value.string (ByteArray.mk #[]))]⟩,
  ⟨.str, (.sc .str), 1, 16, [(Go.Value.string (ByteArray.mk #[]))]⟩,
  ⟨.int .u64, (.sc (.int .u64)), 1, 8, [(Go.Value.int Go.IntKind.u64 0)]⟩,
  ⟨.struct [(0, 9), (1, 12)], (.agg [.str, (.int .u64)]), 2, 24, [(Go.Value.string (ByteArray.mk #[])), (Go.Value.int Go.IntKind.u64 0)]⟩,
  ⟨.struct [(0, 9), (1, 12)], (.agg [.str, (.int .u64)]), 2, 24, [(Go.Value.string (ByteArray.mk #[])), (Go.Value.int Go.IntKind.u64 0)]⟩,
  ⟨.ptr 137, (.sc .ptr), 1, 8, [(Go.Value.pointer Option.none)]⟩,
  ⟨.ptr 140, (.sc .ptr), 1, 8, [(Go.Value.pointer Option.none)]⟩,
  ⟨.ptr 148, (.sc .ptr), 1, 8, [(Go.Value.pointer Option.none)]⟩,
  ⟨.struct [(0, 17)], (.agg [.ptr]), 1, 8, [(Go.Value.pointer Option.none)]⟩,
  ⟨.struct [(0, 17)], (.agg [.ptr]), 1, 8, [(Go.Value.pointer Option.none)]⟩,
  ⟨.other, (.sc .any), 1, 16, [Go.Value.nilIface]⟩,
  ⟨.int .i32, (.sc (.int .i32)), 1, 4, [(Go.Value.int Go.IntKind.i32 0)]⟩,
  ⟨.int .u64, (.sc (.int .u64)), 1, 8, [(Go.Value.int Go.IntKind.u64 0)]⟩,
  ⟨.struct [(0, 3), (1, 3), (2, 3)], (.agg [(.int .i64), (.int .i64), (.int .i64)]), 3, 24, [(Go.Value.int Go.IntKind.i64 0), (Go.Value.int Go.IntKind.i64 0), (Go.Value.int Go.IntKind.i64 0)]⟩,
  ⟨.struct [(0, 3), (1, 3), (2, 3)], (.agg [(.int .i64), (.int .i64), (.int .i64)]), 3, 24, [(Go.Value.int Go.IntKind.i64 0), (Go.Value.int Go.IntKind.i64 0), (Go.Value.int Go.IntKind.i64 0)]⟩,
  ⟨.fn, (.sc .fn), 1, 8, [Go.Value.nilFunc]⟩,
  ⟨.slice 28, (.sc .slc), 1, 24, [(Go.Value.slice Option.none 0 0)]⟩,
  ⟨.fn, (.sc .fn), 1, 8, [Go.Value.nilFunc]⟩,
  ⟨.slice 3, (.sc .slc), 1, 24, [(Go.Value.slice Option.none 0 0)]⟩,
  ⟨.int .i64, (.sc (.int .i64)), 1, 8, [(Go.Value.int Go.IntKind.i64 0)]⟩,
  ⟨.other, (.sc .any), 1, 0, [(Go.Value.tuple #[(Go.Value.slice Option.none 0 0), (Go.Value.bool Bool.false), (Go.Value.int Go.IntKind.i64 0)])]⟩,
  ⟨.fn, (.sc .fn), 1, 8, [Go.Value.nilFunc]⟩,
  ⟨.int .u32, (.sc (.int .u32)), 1, 4, [(Go.Value.int Go.IntKind.u32 0)]⟩,
  ⟨.fn, (.sc .fn), 1, 8, [Go.Value.nilFunc]⟩,
  ⟨.fn, (.sc .fn), 1, 8, [Go.Value.nilFunc]⟩,
  ⟨.fn, (.sc .fn), 1, 8, [Go.Value.nilFunc]⟩,
  ⟨.fn, (.sc .fn), 1, 8, [Go.Value.nilFunc]⟩,
  ⟨.fn, (.sc .fn), 1, 8, [Go.Value.nilFunc]⟩,
  ⟨.other, (.sc .any), 1, 0, [(Go.Value.tuple #[(Go.Value.slice Option.none 0 0), (Go.Value.int Go.IntKind.i64 0)])]⟩,
  ⟨.fn, (.sc .fn), 1, 8, [Go.Value.nilFunc]⟩,
  ⟨.fn, (.sc .fn), 1, 8, [Go.Value.nilFunc]⟩,
  ⟨.fn, (.sc .fn), 1, 8, [Go.Value.nilFunc]⟩,
  ⟨.fn, (.sc .fn), 1, 8, [Go.Value.nilFunc]⟩,
  ⟨.fn, (.sc .fn), 1, 8, [Go.Value.nilFunc]⟩,
  ⟨.fn, (.sc .fn), 1, 8, [Go.Value.nilFunc]⟩,
  ⟨.fn, (.sc .fn), 1, 8, [Go.Value.nilFunc]⟩,
  ⟨.fn, (.sc .fn), 1, 8, [Go.Value.nilFunc]⟩,
  ⟨.fn, (.sc .fn), 1, 8, [Go.Value.nilFunc]⟩,
  ⟨.ptr 65, (.sc .ptr), 1, 8, [(Go.Value.pointer Option.none)]⟩,
  ⟨.fn, (.sc .fn), 1, 8, [Go.Value.nilFunc]⟩,
  ⟨.ptr 71, (.sc .ptr), 1, 8, [(Go.Value.pointer Option.none)]⟩,
  ⟨.fn, (.sc .fn), 1, 8, [Go.Value.nilFunc]⟩,
  ⟨.slice 54, (.sc .slc), 1, 24, [(Go.Value.slice Option.none 0 0)]⟩,
  ⟨.fn, (.sc .fn), 1, 8, [Go.Value.nilFunc]⟩,
  ⟨.slice 5, (.sc .slc), 1, 24, [(Go.Value.slice Option.none 0 0)]⟩,
  ⟨.fn, (.sc .fn), 1, 8, [Go.Value.nilFunc]⟩,
  ⟨.slice 52, (.sc .slc), 1, 24, [(Go.Value.slice Option.none 0 0)]⟩,
  ⟨.fn, (.sc .fn), 1, 8, [Go.Value.nilFunc]⟩,
  ⟨.fn, (.sc .fn), 1, 8, [Go.Value.nilFunc]⟩,
  ⟨.fn, (.sc .fn), 1, 8, [Go.Value.nilFunc]⟩,
  ⟨.fn, (.sc .fn), 1, 8, [Go.Value.nilFunc]⟩,
  ⟨.fn, (.sc .fn), 1, 8, [Go.Value.nilFunc]⟩,
  ⟨.fn, (.sc .fn), 1, 8, [Go.Value.nilFunc]⟩,
  ⟨.fn, (.sc .fn), 1, 8, [Go.Value.nilFunc]⟩,
  ⟨.struct [(0, 50), (1, 3), (2, 52)], (.agg [.ptr, (.int .i64), .slc]), 3, 40, [(Go.Value.pointer Option.none), (Go.Value.int Go.IntKind.i64 0), (Go.Value.slice Option.none 0 0)]⟩,
  ⟨.struct [(0, 50), (1, 3), (2, 52)], (.agg [.ptr, (.int .i64), .slc]), 3, 40, [(Go.Value.pointer Option.none), (Go.Value.int Go.IntKind.i64 0), (Go.Value.slice Option.none 0 0)]⟩,
  ⟨.array 255 5, (.arr (.int .u8)), 255, 255, [(Go.Value.int Go.IntKind.u8 0), (Go.Value.int Go.IntKind.u8 0), (Go.Value.int Go.IntKind.u8 0), (Go.Value.int Go.IntKind.u8 0), (Go.Value.int Go.IntKind.u8 0), (Go.Value.int Go.IntKind.u8 0), (Go.Value.int Go.IntKind.u8 0), (Go.Value.int Go.IntKind.u8 0), (Go.Value.int Go.IntKind.u8 0), (Go.Value.int Go.IntKind.u8 0), (Go.Value.int Go.IntKind.u8 0), (Go.Value.int Go.IntKind.u8 0), (Go.Value.int Go.IntKind.u8 0), (Go.Value.int Go.IntKind.u8 0), (Go.Value.int Go.IntKind.u8 0), (Go.Value.int Go.IntKind.u8 0), (Go.Value.int Go.IntKind.u8 0), (Go.Value.int Go.IntKind.u8 0), (Go.Value.int Go.IntKind.u8 0), (Go.Value.int Go.IntKind.u8 0), (Go.Value.int Go.IntKind.u8 0), (Go.Value.int Go.IntKind.u8 0), (Go.Value.int Go.IntKind.u8 0), (Go.Value.int Go.IntKind.u8 0), (Go.Value.int Go.IntKind.u8 0), (Go.Value.int Go.IntKind.u8 0), (Go.Value.int Go.IntKind.u8 0), (Go.Value.int Go.IntKind.u8 0), (Go.Value.int Go.IntKind.u8 0), (Go.Value.int Go.IntKind.u8 0), (Go.Value.int Go.IntKind.u8 0), (Go.Value.int Go.IntKind.u8 0), (Go.Value.int Go.IntKind.u8 0), (Go.Value.int Go.IntKind.u8 0), (Go.Value.int Go.IntKind.u8 0), (Go.Value.int Go.IntKind.u8 0), (Go.Value.int Go.IntKind.u8 0), (Go.Value.int Go.IntKind.u8 0), (Go.Value.int Go.IntKind.u8 0), (Go.Value.int Go.IntKind.u8 0), (Go.Value.int Go.IntKind.u8 0), (Go.Value.int Go.IntKind.u8 0), (Go.Value.int Go.IntKind.u8 0), (Go.Value.int Go.IntKind.u8 0), (Go.Value.int Go.IntKind.u8 0), (Go.Value.int Go.IntKind.u8 0), (Go.Value.int Go.IntKind.u8 0), (Go.Value.int Go.IntKind.u8 0), (Go.Value.int Go.IntKind.u8 0), (Go.Value.int Go.IntKind.u8 0), (Go.Value.int Go.IntKind.u8 0), (Go.Value.int Go.IntKind.u8 0), (Go.Value.int Go.IntKind.u8 0), (Go.Value.int Go.IntKind.u8 0), (Go.Value.int Go.IntKind.u8 0), (Go.Value.int Go.IntKind.u8 0), (Go.Value.int Go.IntKind.u8 0), (Go.Value.int Go.IntKind.u8 0), (Go.Value.int Go.IntKind.u8 0), (Go.Value.int Go.IntKind.u8 0), (Go.Value.int Go.IntKind.u8 0), (Go.Value.int Go.IntKind.u8 0), (Go.Value.int Go.IntKind.u8 0), (Go.Value.int Go.IntKind.u8 0), (Go.Value.int Go.IntKind.u8 0), (Go.Value.int Go.IntKind.u8 0), (Go.Value.int Go.IntKind.u8 0), (Go.Value.int Go.IntKind.u8 0), (Go.Value.int Go.IntKind.u8 0), (Go.Value.int Go.IntKind.u8 0), (Go.Value.int Go.IntKind.u8 0), (Go.Value.int Go.IntKind.u8 0), (Go.Value.int Go.IntKind.u8 0), (Go.Value.int Go.IntKind.u8 0), (Go.Value.int Go.IntKind.u8 0), (Go.Value.int Go.IntKind.u8 0), (Go.Value.int Go.IntKind.u8 0), (Go.Value.int Go.IntKind.u8 0), (Go.Value.int Go.IntKind.u8 0), (Go.Value.int Go.IntKind.u8 0), (Go.Value.int Go.IntKind.u8 0), (Go.Value.int Go.IntKind.u8 0), (Go.Value.int Go.IntKind.u8 0), (Go.Value.int Go.IntKind.u8 0), (Go.Value.int Go.IntKind.u8 0), (Go.Value.int Go.IntKind.u8 0), (Go.Value.int Go.IntKind.u8 0), (Go.Value.int Go.IntKind.u8 0), (Go.Value.int Go.IntKind.u8 0), (Go.Value.int Go.IntKind.u8 0), (Go.Value.int Go.IntKind.u8 0), (Go.Value.int Go.IntKind.u8 0), (Go.Value.int Go.IntKind.u8 0), (Go.Value.int Go.IntKind.u8 0), (Go.Value.int Go.IntKind.u8 0), (Go.Value.int Go.IntKind.u8 0), (Go.Value.int Go.IntKind.u8 0), (Go.Value.int Go.IntKind.u8 0), (Go.Value.int Go.IntKind.u8 0), (Go.Value.int Go.IntKind.u8 0), (Go.Value.int Go.IntKind.u8 0), (Go.Value.int Go.IntKind.u8 0), (Go.Value.int Go.IntKind.u8 0), (Go.Value.int Go.IntKind.u8 0), (Go.Value.int Go.IntKind.u8 0), (Go.Value.int Go.IntKind.u8 0), (Go.Value.int Go.IntKind.u8 0), (Go.Value.int Go.IntKind.u8 0), (Go.Value.int Go.IntKind.u8 0), (Go.Value.int Go.IntKind.u8 0), (Go.Value.int Go.IntKind.u8 0), (Go.Value.int Go.IntKind.u8 0), (Go.Value.int Go.IntKind.u8 0), (Go.Value.int Go.IntKind.u8 0), (Go.Value.int Go.IntKind.u8 0), (Go.Value.int Go.IntKind.u8 0), (Go.Value.int Go.IntKind.u8 0), (Go.Value.int Go.IntKind.u8 0), (Go.Value.int Go.IntKind.u8 0), (Go.Value.int Go.IntKind.u8 0), (Go.Value.int Go.IntKind.u8 0), (Go.Value.int Go.IntKind.u8 0), (Go.Value.int Go.IntKind.u8 0), (Go.Value.int Go.IntKind.u8 0), (Go.Value.int Go.IntKind.u8 0), (Go.Value.int Go.IntKind.u8 0), (Go.Value.int Go.IntKind.u8 0), (Go.Value.int Go.IntKind.u8 0), (Go.Value.int Go.IntKind.u8 0), (Go.Value.int Go.IntKind.u8 0), (Go.Value.int Go.IntKind.u8 0), (Go.Value.int Go.IntKind.u8 0), (Go.Value.int Go.IntKind.u8 0), (Go.Value.int Go.IntKind.u8 0), (Go.Value.int Go.IntKind.u8 0), (Go.Value.int Go.IntKind.u8 0), (Go.Value.int Go.IntKind.u8 0), (Go.Value.int Go.IntKind.u8 0), (Go.Value.int Go.IntKind.u8 0), (Go.Value.int Go.IntKind.u8 0), (Go.Value.int Go.IntKind.u8 0), (Go.Value.int Go.IntKind.u8 0), (Go.Value.int Go.IntKind.u8 0), (Go.Value.int Go.IntKind.u8 0), (Go.Value.int Go.IntKind.u8 0), (Go.Value.int Go.IntKind.u8 0), (Go.Value.int Go.IntKind.u8 0), (Go.Value.int Go.IntKind.u8 0), (Go.Value.int Go.IntKind.u8 0), (Go.Value.int Go.IntKind.u8 0), (Go.Value.int Go.IntKind.u8 0), (Go.Value.int Go.IntKind.u8 0), (Go.Value.int Go.IntKind.u8 0), (Go.Value.int Go.IntKind.u8 0), (Go.Value.int Go.IntKind.u8 0), (Go.Value.int Go.IntKind.u8 0), (Go.Value.int Go.IntKind.u8 0), (Go.Value.int Go.IntKind.u8 0), (Go.Value.int Go.IntKind.u8 0), (Go.Value.int Go.IntKind.u8 0), (Go.Value.int Go.IntKind.u8 0), (Go.Value.int Go.IntKind.u8 0), (Go.Value.int Go.IntKind.u8 0), (Go.Value.int Go.IntKind.u8 0), (Go.Value.int Go.IntKind.u8 0), (Go.Value.int Go.IntKind.u8 0), (Go.Value.int Go.IntKind.u8 0), (Go.Value.int Go.IntKind.u8 0), (Go.Value.int Go.IntKind.u8 0), (Go.Value.int Go.IntKind.u8 0), (Go.Value.int Go.IntKind.u8 0), (Go.Value.int Go.IntKind.u8 0), (Go.Value.int Go.IntKind.u8 0), (Go.Value.int Go.IntKind.u8 0), (Go.Value.int Go.IntKind.u8 0), (Go.Value.int Go.IntKind.u8 0), (Go.Value.int Go.IntKind.u8 0), (Go.Value.int Go.IntKind.u8 0), (Go.Value.int Go.IntKind.u8 0), (Go.Value.int Go.IntKind.u8 0), (Go.Value.int Go.IntKind.u8 0), (Go.Value.int Go.IntKind.u8 0), (Go.Value.int Go.IntKind.u8 0), (Go.Value.int Go.IntKind.u8 0), (Go.Value.int Go.IntKind.u8 0), (Go.Value.int Go.IntKind.u8 0), (Go.Value.int Go.IntKind.u8 0), (Go.Value.int Go.IntKind.u8 0), (Go.Value.int Go.IntKind.u8 0), (Go.Value.int Go.IntKind.u8 0), (Go.Value.int Go.IntKind.u8 0), (Go.Value.int Go.IntKind.u8 0), (Go.Value.int Go.IntKind.u8 0), (Go.Value.int Go.IntKind.u8 0), (Go.Value.int Go.IntKind.u8 0), (Go.Value.int Go.IntKind.u8 0), (Go.Value.int Go.IntKind.u8 0), (Go.Value.int Go.IntKind.u8 0), (Go.Value.int Go.IntKind.u8 0), (Go.Value.int Go.IntKind.u8 0), (Go.Value.int Go.IntKind.u8 0), (Go.Value.int Go.IntKind.u8 0), (Go.Value.int Go.IntKind.u8 0), (Go.Value.int Go.IntKind.u8 0), (Go.Value.int Go.IntKind.u8 0), (Go.Value.int Go.IntKind.u8 0), (Go.Value.int Go.IntKind.u8 0), (Go.Value.int Go.IntKind.u8 0), (Go.Value.int Go.IntKind.u8 0), (Go.Value.int Go.IntKind.u8 0), (Go.Value.int Go.IntKind.u8 0), (Go.Value.int Go.IntKind.u8 0), (Go.Value.int Go.IntKind.u8 0), (Go.Value.int Go.IntKind.u8 0), (Go.Value.int Go.IntKind.u8 0), (Go.Value.int Go.IntKind.u8 0), (Go.Value.int Go.IntKind.u8 0), (Go.Value.int Go.IntKind.u8 0), (Go.Value.int Go.IntKind.u8 0), (Go.Value.int Go.IntKind.u8 0), (Go.Value.int Go.IntKind.u8 0), (Go.Value.int Go.IntKind.u8 0), (Go.Value.int Go.IntKind.u8 0), (Go.Value.int Go.IntKind.u8 0), (Go.Value.int Go.IntKind.u8 0), (Go.Value.int Go.IntKind.u8 0), (Go.Value.int Go.IntKind.u8 0), (Go.Value.int Go.IntKind.u8 0), (Go.Value.int Go.IntKind.u8 0), (Go.Value.int Go.IntKind.u8 0), (Go.Value.int Go.IntKind.u8 0), (Go.Value.int Go.IntKind.u8 0), (Go.Value.int Go.IntKind.u8 0), (Go.Value.int Go.IntKind.u8 0), (Go.Value.int Go.IntKind.u8 0), (Go.Value.int Go.IntKind.u8 0), (Go.Value.int Go.IntKind.u8 0), (Go.Value.int Go.IntKind.u8 0), (Go.Value.int Go.IntKind.u8 0), (Go.Value.int Go.IntKind.u8 0), (Go.Value.int Go.IntKind.u8 0), (Go.Value.int Go.IntKind.u8 0), (Go.Value.int Go.IntKind.u8 0), (Go.Value.int Go.IntKind.u8 0), (Go.Value.int Go.IntKind.u8 0), (Go.Value.int Go.IntKind.u8 0), (Go.Value.int Go.IntKind.u8 0), (Go.Value.int Go.IntKind.u8 0), (Go.Value.int Go.IntKind.u8 0), (Go.Value.int Go.IntKind.u8 0), (Go.Value.int Go.IntKind.u8 0), (Go.Value.int Go.IntKind.u8 0), (Go.Value.int Go.IntKind.u8 0), (Go.Value.int Go.IntKind.u8 0), (Go.Value.int Go.IntKind.u8 0)]⟩,
  ⟨.fn, (.sc .fn), 1, 8, [Go.Value.nilFunc]⟩,
  ⟨.array 256 3, (.arr (.int .i64)), 256, 2048, [(Go.Value.int Go.IntKind.i64 0), (Go.Value.int Go.IntKind.i64 0), (Go.Value.int Go.IntKind.i64 0), (Go.Value.int Go.IntKind.i64 0), (Go.Value.int Go.IntKind.i64 0), (Go.Value.int Go.IntKind.i64 0), (Go.Value.int Go.IntKind.i64 0), (Go.Value.int Go.IntKind.i64 0), (Go.Value.int Go.IntKind.i64 0), (Go.Value.int Go.IntKind.i64 0), (Go.Value.int Go.IntKind.i64 0), (Go.Value.int Go.IntKind.i64 0), (Go.Value.int Go.IntKind.i64 0), (Go.Value.int Go.IntKind.i64 0), (Go.Value.int Go.IntKind.i64 0), (Go.Value.int Go.IntKind.i64 0), (Go.Value.int Go.IntKind.i64 0), (Go.Value.int Go.IntKind.i64 0), (Go.Value.int Go.IntKind.i64 0), (Go.Value.int Go.IntKind.i64 0), (Go.Value.int Go.IntKind.i64 0), (Go.Value.int Go.IntKind.i64 0), (Go.Value.int Go.IntKind.i64 0), (Go.Value.int Go.IntKind.i64 0), (Go.Value.int Go.IntKind.i64 0), (Go.Value.int Go.IntKind.i64 0), (Go.Value.int Go.IntKind.i64 0), (Go.Value.int Go.IntKind.i64 0), (Go.Value.int Go.IntKind.i64 0), (Go.Value.int Go.IntKind.i64 0), (Go.Value.int Go.IntKind.i64 0), (Go.Value.int Go.IntKind.i64 0), (Go.Value.int Go.IntKind.i64 0), (Go.Value.int Go.IntKind.i64 0), (Go.Value.int Go.IntKind.i64 0), (Go.Value.int Go.IntKind.i64 0), (Go.Value.int Go.IntKind.i64 0), (Go.Value.int Go.IntKind.i64 0), (Go.Value.int Go.IntKind.i64 0), (Go.Value.int Go.IntKind.i64 0), (Go.Value.int Go.IntKind.i64 0), (Go.Value.int Go.IntKind.i64 0), (Go.Value.int Go.IntKind.i64 0), (Go.Value.int Go.IntKind.i64 0), (Go.Value.int Go.IntKind.i64 0), (Go.Value.int Go.IntKind.i64 0), (Go.Value.int Go.IntKind.i64 0), (Go.Value.int Go.IntKind.i64 0), (Go.Value.int Go.IntKind.i64 0), (Go.Value.int Go.IntKind.i64 0), (Go.Value.int Go.IntKind.i64 0), (Go.Value.int Go.IntKind.i64 0), (Go.Value.int Go.IntKind.i64 0), (Go.Value.int Go.IntKind.i64 0), (Go.Value.int Go.IntKind.i64 0), (Go.Value.int Go.IntKind.i64 0), (Go.Value.int Go.IntKind.i64 0), (Go.Value.int Go.IntKind.i64 0), (Go.Value.int Go.IntKind.i64 0), (Go.Value.int Go.IntKind.i64 0), (Go.Value.int Go.IntKind.i64 0), (Go.Value.int Go.IntKind.i64 0), (Go.Value.int Go.IntKind.i64 0), (Go.Value.int Go.IntKind.i64 0), (Go.Value.int Go.IntKind.i64 0), (Go.Value.int Go.IntKind.i64 0), (Go.Value.int Go.IntKind.i64 0), (Go.Value.int Go.IntKind.i64 0), (Go.Value.int Go.IntKind.i64 0), (Go.Value.int Go.IntKind.i64 0), (Go.Value.int Go.IntKind.i64 0), (Go.Value.int Go.IntKind.i64 0), (Go.Value.int Go.IntKind.i64 0), (Go.Value.int Go.IntKind.i64 0), (Go.Value.int Go.IntKind.i64 0), (Go.Value.int Go.IntKind.i64 0), (Go.Value.int Go.IntKind.i64 0), (Go.Value.int Go.IntKind.i64 0), (Go.Value.int Go.IntKind.i64 0), (Go.Value.int Go.IntKind.i64 0), (Go.Value.int Go.IntKind.i64 0), (Go.Value.int Go.IntKind.i64 0), (Go.Value.int Go.IntKind.i64 0), (Go.Value.int Go.IntKind.i64 0), (Go.Value.int Go.IntKind.i64 0), (Go.Value.int Go.IntKind.i64 0), (Go.Value.int Go.IntKind.i64 0), (Go.Value.int Go.IntKind.i64 0), (Go.Value.int Go.IntKind.i64 0), (Go.Value.int Go.IntKind.i64 0), (Go.Value.int Go.IntKind.i64 0), (Go.Value.int Go.IntKind.i64 0), (Go.Value.int Go.IntKind.i64 0), (Go.Value.int Go.IntKind.i64 0), (Go.Value.int Go.IntKind.i64 0), (Go.Value.int Go.IntKind.i64 0), (Go.Value.int Go.IntKind.i64 0), (Go.Value.int Go.IntKind.i64 0), (Go.Value.int Go.IntKind.i64 0), (Go.Value.int Go.IntKind.i64 0), (Go.Value.int Go.IntKind.i64 0), (Go.Value.int Go.IntKind.i64 0), (Go.Value.int Go.IntKind.i64 0), (Go.Value.int Go.IntKind.i64 0), (Go.Value.int Go.IntKind.i64 0), (Go.Value.int Go.IntKind.i64 0), (Go.Value.int Go.IntKind.i64 0), (Go.Value.int Go.IntKind.i64 0), (Go.Value.int Go.IntKind.i64 0), (Go.Value.int Go.IntKind.i64 0), (Go.Value.int Go.IntKind.i64 0), (Go.Value.int Go.IntKind.i64 0), (Go.Value.int Go.IntKind.i64 0), (Go.Value.int Go.IntKind.i64 0), (Go.Value.int Go.IntKind.i64 0), (Go.Value.int Go.IntKind.i64 0), (Go.Value.int Go.IntKind.i64 0), (Go.Value.int Go.IntKind.i64 0), (Go.Value.int Go.IntKind.i64 0), (Go.Value.int Go.IntKind.i64 0), (Go.Value.int Go.IntKind.i64 0), (Go.Value.int Go.IntKind.i64 0), (Go.Value.int Go.IntKind.i64 0), (Go.Value.int Go.IntKind.i64 0), (Go.Value.int Go.IntKind.i64 0), (Go.Value.int Go.IntKind.i64 0), (Go.Value.int Go.IntKind.i64 0), (Go.Value.int Go.IntKind.i64 0), (Go.Value.int Go.IntKind.i64 0), (Go.Value.int Go.IntKind.i64 0), (Go.Value.int Go.IntKind.i64 0), (Go.Value.int Go.IntKind.i64 0), (Go.Value.int Go.IntKind.i64 0), (Go.Value.int Go.IntKind.i64 0), (Go.Value.int Go.IntKind.i64 0), (Go.Value.int Go.IntKind.i64 0), (Go.Value.int Go.IntKind.i64 0), (Go.Value.int Go.IntKind.i64 0), (Go.Value.int Go.IntKind.i64 0), (Go.Value.int Go.IntKind.i64 0), (Go.Value.int Go.IntKind.i64 0), (Go.Value.int Go.IntKind.i64 0), (Go.Value.int Go.IntKind.i64 0), (Go.Value.int Go.IntKind.i64 0), (Go.Value.int Go.IntKind.i64 0), (Go.Value.int Go.IntKind.i64 0), (Go.Value.int Go.IntKind.i64 0), (Go.Value.int Go.IntKind.i64 0), (Go.Value.int Go.IntKind.i64 0), (Go.Value.int Go.IntKind.i64 0), (Go.Value.int Go.IntKind.i64 0), (Go.Value.int Go.IntKind.i64 0), (Go.Value.int Go.IntKind.i64 0), (Go.Value.int Go.IntKind.i64 0), (Go.Value.int Go.IntKind.i64 0), (Go.Value.int Go.IntKind.i64 0), (Go.Value.int Go.IntKind.i64 0), (Go.Value.int Go.IntKind.i64 0), (Go.Value.int Go.IntKind.i64 0), (Go.Value.int Go.IntKind.i64 0), (Go.Value.int Go.IntKind.i64 0), (Go.Value.int Go.IntKind.i64 0), (Go.Value.int Go.IntKind.i64 0), (Go.Value.int Go.IntKind.i64 0), (Go.Value.int Go.IntKind.i64 0), (Go.Value.int Go.IntKind.i64 0), (Go.Value.int Go.IntKind.i64 0), (Go.Value.int Go.IntKind.i64 0), (Go.Value.int Go.IntKind.i64 0), (Go.Value.int Go.IntKind.i64 0), (Go.Value.int Go.IntKind.i64 0), (Go.Value.int Go.IntKind.i64 0), (Go.Value.int Go.IntKind.i64 0), (Go.Value.int Go.IntKind.i64 0), (Go.Value.int Go.IntKind.i64 0), (Go.Value.int Go.IntKind.i64 0), (Go.Value.int Go.IntKind.i64 0), (Go.Value.int Go.IntKind.i64 0), (Go.Value.int Go.IntKind.i64 0), (Go.Value.int Go.IntKind.i64 0), (Go.Value.int Go.IntKind.i64 0), (Go.Value.int Go.IntKind.i64 0), (Go.Value.int Go.IntKind.i64 0), (Go.Value.int Go.IntKind.i64 0), (Go.Value.int Go.IntKind.i64 0), (Go.Value.int Go.IntKind.i64 0), (Go.Value.int Go.IntKind.i64 0), (Go.Value.int Go.IntKind.i64 0), (Go.Value.int Go.IntKind.i64 0), (Go.Value.int Go.IntKind.i64 0), (Go.Value.int Go.IntKind.i64 0), (Go.Value.int Go.IntKind.i64 0), (Go.Value.int Go.IntKind.i64 0), (Go.Value.int Go.IntKind.i64 0), (Go.Value.int Go.IntKind.i64 0), (Go.Value.int Go.IntKind.i64 0), (Go.Value.int Go.IntKind.i64 0), (Go.Value.int Go.IntKind.i64 0), (Go.Value.int Go.IntKind.i64 0), (Go.Value.int Go.IntKind.i64 0), (Go.Value.int Go.IntKind.i64 0), (Go.Value.int Go.IntKind.i64 0), (Go.Value.int Go.IntKind.i64 0), (Go.Value.int Go.IntKind.i64 0), (Go.Value.int Go.IntKind.i64 0), (Go.Value.int Go.IntKind.i64 0), (Go.Value.int Go.IntKind.i64 0), (Go.Value.int Go.IntKind.i64 0), (Go.Value.int Go.IntKind.i64 0), (Go.Value.int Go.IntKind.i64 0), (Go.Value.int Go.IntKind.i64 0), (Go.Value.int Go.IntKind.i64 0), (Go.Value.int Go.IntKind.i64 0), (Go.Value.int Go.IntKind.i64 0), (Go.Value.int Go.IntKind.i64 0), (Go.Value.int Go.IntKind.i64 0), (Go.Value.int Go.IntKind.i64 0), (Go.Value.int Go.IntKind.i64 0), (Go.Value.int Go.IntKind.i64 0), (Go.Value.int Go.IntKind.i64 0), (Go.Value.int Go.IntKind.i64 0), (Go.Value.int Go.IntKind.i64 0), (Go.Value.int Go.IntKind.i64 0), (Go.Value.int Go.IntKind.i64 0), (Go.Value.int Go.IntKind.i64 0), (Go.Value.int Go.IntKind.i64 0), (Go.Value.int Go.IntKind.i64 0), (Go.Value.int Go.IntKind.i64 0), (Go.Value.int Go.IntKind.i64 0), (Go.Value.int Go.IntKind.i64 0), (Go.Value.int Go.IntKind.i64 0), (Go.Value.int Go.IntKind.i64 0), (Go.Value.int Go.IntKind.i64 0), (Go.Value.int Go.IntKind.i64 0), (Go.Value.int Go.IntKind.i64 0), (Go.Value.int Go.IntKind.i64 0), (Go.Value.int Go.IntKind.i64 0), (Go.Value.int Go.IntKind.i64 0), (Go.Value.int Go.IntKind.i64 0), (Go.Value.int Go.IntKind.i64 0), (Go.Value.int Go.IntKind.i64 0), (Go.Value.int Go.IntKind.i64 0), (Go.Value.int Go.IntKind.i64 0), (Go.Value.int Go.IntKind.i64 0), (Go.Value.int Go.IntKind.i64 0), (Go.Value.int Go.IntKind.i64 0), (Go.Value.int Go.IntKind.i64 0), (Go.Value.int Go.IntKind.i64 0), (Go.Value.int Go.IntKind.i64 0), (Go.Value.int Go.IntKind.i64 0), (Go.Value.int Go.IntKind.i64 0), (Go.Value.int Go.IntKind.i64 0), (Go.Value.int Go.IntKind.i64 0), (Go.Value.int Go.IntKind.i64 0), (Go.Value.int Go.IntKind.i64 0), (Go.Value.int Go.IntKind.i64 0)]⟩,
  ⟨.fn, (.sc .fn), 1, 8, [Go.Value.nilFunc]⟩,
  ⟨.struct [(0, 66), (255, 68)], (.arr .any), 511, 2304, [(Go.Value.int Go.IntKind.u8 0), (Go.Value.int Go.IntKind.u8 0), (Go.Value.int Go.IntKind.u8 0), (Go.Value.int Go.IntKind.u8 0), (Go.Value.int Go.IntKind.u8 0), (Go.Value.int Go.IntKind.u8 0), (Go.Value.int Go.IntKind.u8 0), (Go.Value.int Go.IntKind.u8 0), (Go.Value.int Go.IntKind.u8 0), (Go.Value.int Go.IntKind.u8 0), (Go.Value.int Go.IntKind.u8 0), (Go.Value.int Go.IntKind.u8 0), (Go.Value.int Go.IntKind.u8 0), (Go.Value.int Go.IntKind.u8 0), (Go.Value.int Go.IntKind.u8 0), (Go.Value.int Go.IntKind.u8 0), (Go.Value.int Go.IntKind.u8 0), (Go.Value.int Go.IntKind.u8 0), (Go.Value.int Go.IntKind.u8 0), (Go.Value.int Go.IntKind.u8 0), (Go.Value.int Go.IntKind.u8 0), (Go.Value.int Go.IntKind.u8 0), (Go.Value.int Go.IntKind.u8 0), (Go.Value.int Go.IntKind.u8 0), (Go.Value.int Go.IntKind.u8 0), (Go.Value.int Go.IntKind.u8 0), (Go.Value.int Go.IntKind.u8 0), (Go.Value.int Go.IntKind.u8 0), (Go.Value.int Go.IntKind.u8 0), (Go.Value.int Go.IntKind.u8 0), (Go.Value.int Go.IntKind.u8 0), (Go.Value.int Go.IntKind.u8 0), (Go.Value.int Go.IntKind.u8 0), (Go.Value.int Go.IntKind.u8 0), (Go.Value.int Go.IntKind.u8 0), (Go.Value.int Go.IntKind.u8 0), (Go.Value.int Go.IntKind.u8 0), (Go.Value.int Go.IntKind.u8 0), (Go.Value.int Go.IntKind.u8 0), (Go.Value.int Go.IntKind.u8 0), (Go.Value.int Go.IntKind.u8 0), (Go.Value.int Go.IntKind.u8 0), (Go.Value.int Go.IntKind.u8 0), (Go.Value.int Go.IntKind.u8 0), (Go.Value.int Go.IntKind.u8 0), (Go.Value.int Go.IntKind.u8 0), (Go.Value.int Go.IntKind.u8 0), (Go.Value.int Go.IntKind.u8 0), (Go.Value.int Go.IntKind.u8 0), (Go.Value.int Go.IntKind.u8 0), (Go.Value.int Go.IntKind.u8 0), (Go.Value.int Go.IntKind.u8 0), (Go.Value.int Go.IntKind.u8 0), (Go.Value.int Go.IntKind.u8 0), (Go.Value.int Go.IntKind.u8 0), (Go.Value.int Go.IntKind.u8 0), (Go.Value.int Go.IntKind.u8 0), (Go.Value.int Go.IntKind.u8 0), (Go.Value.int Go.IntKind.u8 0), (Go.Value.int Go.IntKind.u8 0), (Go.Value.int Go.IntKind.u8 0), (Go.Value.int Go.IntKind.u8 0), (Go.Value.int Go.IntKind.u8 0), (Go.Value.int Go.IntKind.u8 0), (Go.Value.int Go.IntKind.u8 0), (Go.Value.int Go.IntKind.u8 0), (Go.Value.int Go.IntKind.u8 0), (Go.Value.int Go.IntKind.u8 0), (Go.Value.int Go.IntKind.u8 0), (Go.Value.int Go.IntKind.u8 0), (Go.Value.int Go.IntKind.u8 0), (Go.Value.int Go.IntKind.u8 0), (Go.Value.int Go.IntKind.u8 0), (Go.Value.int Go.IntKind.u8 0), (Go.Value.int Go.IntKind.u8 0), (Go.Value.int Go.IntKind.u8 0), (Go.Value.int Go.IntKind.u8 0), (Go.Value.int Go.IntKind.u8 0), (Go.Value.int Go.IntKind.u8 0), (Go.Value.int Go.IntKind.u8 0), (Go.Value.int Go.IntKind.u8 0), (Go.Value.int Go.IntKind.u8 0), (Go.Value.int Go.IntKind.u8 0), (Go.Value.int Go.IntKind.u8 0), (Go.Value.int Go.IntKind.u8 0), (Go.Value.int Go.IntKind.u8 0), (Go.Value.int Go.IntKind.u8 0), (Go.Value.int Go.IntKind.u8 0), (Go.Value.int Go.IntKind.u8 0), (Go.Value.int Go.IntKind.u8 0), (Go.Value.int Go.IntKind.u8 0), (Go.Value.int Go.IntKind.u8 0), (Go.Value.int Go.IntKind.u8 0), (Go.Value.int Go.IntKind.u8 0), (Go.Value.int Go.IntKind.u8 0), (Go.Value.int Go.IntKind.u8 0), (Go.Value.int Go.IntKind.u8 0), (Go.Value.int Go.IntKind.u8 0), (Go.Value.int Go.IntKind.u8 0), (Go.Value.int Go.IntKind.u8 0), (Go.Value.int Go.IntKind.u8 0), (Go.Value.int Go.IntKind.u8 0), (Go.Value.int Go.IntKind.u8 0), (Go.Value.int Go.IntKind.u8 0), (Go.Value.int Go.IntKind.u8 0), (Go.Value.int Go.IntKind.u8 0), (Go.Value.int Go.IntKind.u8 0), (Go.Value.int Go.IntKind.u8 0), (Go.Value.int Go.IntKind.u8 0), (Go.Value.int Go.IntKind.u8 0), (Go.Value.int Go.IntKind.u8 0), (Go.Value.int Go.IntKind.u8 0), (Go.Value.int Go.IntKind.u8 0), (Go.Value.int Go.IntKind.u8 0), (Go.Value.int Go.IntKind.u8 0), (Go.Value.int Go.IntKind.u8 0), (Go.Value.int Go.IntKind.u8 0), (Go.Value.int Go.IntKind.u8 0), (Go.Value.int Go.IntKind.u8 0), (Go.Value.int Go.IntKind.u8 0), (Go.Value.int Go.IntKind.u8 0), (Go.Value.int Go.IntKind.u8 0), (Go.Value.int Go.IntKind.u8 0), (Go.Value.int Go.IntKind.u8 0), (Go.Value.int Go.IntKind.u8 0), (Go.Value.int Go.IntKind.u8 0), (Go.Value.int Go.IntKind.u8 0), (Go.Value.int Go.IntKind.u8 0), (Go.Value.int Go.IntKind.u8 0), (Go.Value.int Go.IntKind.u8 0), (Go.Value.int Go.IntKind.u8 0), (Go.Value.int Go.IntKind.u8 0), (Go.Value.int Go.IntKind.u8 0), (Go.Value.int Go.IntKind.u8 0), (Go.Value.int Go.IntKind.u8 0), (Go.Value.int Go.IntKind.u8 0), (Go.Value.int Go.IntKind.u8 0), (Go.Value.int Go.IntKind.u8 0), (Go.Value.int Go.IntKind.u8 0), (Go.Value.int Go.IntKind.u8 0), (Go.Value.int Go.IntKind.u8 0), (Go.Value.int Go.IntKind.u8 0), (Go.Value.int Go.IntKind.u8 0), (Go.Value.int Go.IntKind.u8 0), (Go.Value.int Go.IntKind.u8 0), (Go.Value.int Go.IntKind.u8 0), (Go.Value.int Go.IntKind.u8 0), (Go.Value.int Go.IntKind.u8 0), (Go.Value.int Go.IntKind.u8 0), (Go.Value.int Go.IntKind.u8 0), (Go.Value.int Go.IntKind.u8 0), (Go.Value.int Go.IntKind.u8 0), (Go.Value.int Go.IntKind.u8 0), (Go.Value.int Go.IntKind.u8 0), (Go.Value.int Go.IntKind.u8 0), (Go.Value.int Go.IntKind.u8 0), (Go.Value.int Go.IntKind.u8 0), (Go.Value.int Go.IntKind.u8 0), (Go.Value.int Go.IntKind.u8 0), (Go.Value.int Go.IntKind.u8 0), (Go.Value.int Go.IntKind.u8 0), (Go.Value.int Go.IntKind.u8 0), (Go.Value.int Go.IntKind.u8 0), (Go.Value.int Go.IntKind.u8 0), (Go.Value.int Go.IntKind.u8 0), (Go.Value.int Go.IntKind.u8 0), (Go.Value.int Go.IntKind.u8 0), (Go.Value.int Go.IntKind.u8 0), (Go.Value.int Go.IntKind.u8 0), (Go.Value.int Go.IntKind.u8 0), (Go.Value.int Go.IntKind.u8 0), (Go.Value.int Go.IntKind.u8 0), (Go.Value.int Go.IntKind.u8 0), (Go.Value.int Go.IntKind.u8 0), (Go.Value.int Go.IntKind.u8 0), (Go.Value.int Go.IntKind.u8 0), (Go.Value.int Go.IntKind.u8 0), (Go.Value.int Go.IntKind.u8 0), (Go.Value.int Go.IntKind.u8 0), (Go.Value.int Go.IntKind.u8 0), (Go.Value.int Go.IntKind.u8 0), (Go.Value.int Go.IntKind.u8 0), (Go.Value.int Go.IntKind.u8 0), (Go.Value.int Go.IntKind.u8 0), (Go.Value.int Go.IntKind.u8 0), (Go.Value.int Go.IntKind.u8 0), (Go.Value.int Go.IntKind.u8 0), (Go.Value.int Go.IntKind.u8 0), (Go.Value.int Go.IntKind.u8 0), (Go.Value.int Go.IntKind.u8 0), (Go.Value.int Go.IntKind.u8 0), (Go.Value.int Go.IntKind.u8 0), (Go.Value.int Go.IntKind.u8 0), (Go.Value.int Go.IntKind.u8 0), (Go.Value.int Go.IntKind.u8 0), (Go.Value.int Go.IntKind.u8 0), (Go.Value.int Go.IntKind.u8 0), (Go.Value.int Go.IntKind.u8 0), (Go.Value.int Go.IntKind.u8 0), (Go.Value.int Go.IntKind.u8 0), (Go.Value.int Go.IntKind.u8 0), (Go.Value.int Go.IntKind.u8 0), (Go.Value.int Go.IntKind.u8 0), (Go.Value.int Go.IntKind.u8 0), (Go.Value.int Go.IntKind.u8 0), (Go.Value.int Go.IntKind.u8 0), (Go.Value.int Go.IntKind.u8 0), (Go.Value.int Go.IntKind.u8 0), (Go.Value.int Go.IntKind.u8 0), (Go.Value.int Go.IntKind.u8 0), (Go.Value.int Go.IntKind.u8 0), (Go.Value.int Go.IntKind.u8 0), (Go.Value.int Go.IntKind.u8 0), (Go.Value.int Go.IntKind.u8 0), (Go.Value.int Go.IntKind.u8 0), (Go.Value.int Go.IntKind.u8 0), (Go.Value.int Go.IntKind.u8 0), (Go.Value.int Go.IntKind.u8 0), (Go.Value.int Go.IntKind.u8 0), (Go.Value.int Go.IntKind.u8 0), (Go.Value.int Go.IntKind.u8 0), (Go.Value.int Go.IntKind.u8 0), (Go.Value.int Go.IntKind.u8 0), (Go.Value.int Go.IntKind.u8 0), (Go.Value.int Go.IntKind.u8 0), (Go.Value.int Go.IntKind.u8 0), (Go.Value.int Go.IntKind.u8 0), (Go.Value.int Go.IntKind.u8 0), (Go.Value.int Go.IntKind.u8 0), (Go.Value.int Go.IntKind.u8 0), (Go.Value.int Go.IntKind.u8 0), (Go.Value.int Go.IntKind.u8 0), (Go.Value.int Go.IntKind.u8 0), (Go.Value.int Go.IntKind.u8 0), (Go.Value.int Go.IntKind.u8 0), (Go.Value.int Go.IntKind.u8 0), (Go.Value.int Go.IntKind.u8 0), (Go.Value.int Go.IntKind.u8 0), (Go.Value.int Go.IntKind.u8 0), (Go.Value.int Go.IntKind.u8 0), (Go.Value.int Go.IntKind.u8 0), (Go.Value.int Go.IntKind.u8 0), (Go.Value.int Go.IntKind.u8 0), (Go.Value.int Go.IntKind.u8 0), (Go.Value.int Go.IntKind.u8 0), (Go.Value.int Go.IntKind.u8 0), (Go.Value.int Go.IntKind.u8 0), (Go.Value.int Go.IntKind.u8 0), (Go.Value.int Go.IntKind.u8 0), (Go.Value.int Go.IntKind.u8 0), (Go.Value.int Go.IntKind.u8 0), (Go.Value.int Go.IntKind.u8 0), (Go.Value.int Go.IntKind.u8 0), (Go.Value.int Go.IntKind.u8 0), (Go.Value.int Go.IntKind.u8 0), (Go.Value.int Go.IntKind.i64 0), (Go.Value.int Go.IntKind.i64 0), (Go.Value.int Go.IntKind.i64 0), (Go.Value.int Go.IntKind.i64 0), (Go.Value.int Go.IntKind.i64 0), (Go.Value.int Go.IntKind.i64 0), (Go.Value.int Go.IntKind.i64 0), (Go.Value.int Go.IntKind.i64 0), (Go.Value.int Go.IntKind.i64 0), (Go.Value.int Go.IntKind.i64 0), (Go.Value.int Go.IntKind.i64 0), (Go.Value.int Go.IntKind.i64 0), (Go.Value.int Go.IntKind.i64 0), (Go.Value.int Go.IntKind.i64 0), (Go.Value.int Go.IntKind.i64 0), (Go.Value.int Go.IntKind.i64 0), (Go.Value.int Go.IntKind.i64 0), (Go.Value.int Go.IntKind.i64 0), (Go.Value.int Go.IntKind.i64 0), (Go.Value.int Go.IntKind.i64 0), (Go.Value.int Go.IntKind.i64 0), (Go.Value.int Go.IntKind.i64 0), (Go.Value.int Go.IntKind.i64 0), (Go.Value.int Go.IntKind.i64 0), (Go.Value.int Go.IntKind.i64 0), (Go.Value.int Go.IntKind.i64 0), (Go.Value.int Go.IntKind.i64 0), (Go.Value.int Go.IntKind.i64 0), (Go.Value.int Go.IntKind.i64 0), (Go.Value.int Go.IntKind.i64 0), (Go.Value.int Go.IntKind.i64 0), (Go.Value.int Go.IntKind.i64 0), (Go.Value.int Go.IntKind.i64 0), (Go.Value.int Go.IntKind.i64 0), (Go.Value.int Go.IntKind.i64 0), (Go.Value.int Go.IntKind.i64 0), (Go.Value.int Go.IntKind.i64 0), (Go.Value.int Go.IntKind.i64 0), (Go.Value.int Go.IntKind.i64 0), (Go.Value.int Go.IntKind.i64 0), (Go.Value.int Go.IntKind.i64 0), (Go.Value.int Go.IntKind.i64 0), (Go.Value.int Go.IntKind.i64 0), (Go.Value.int Go.IntKind.i64 0), (Go.Value.int Go.IntKind.i64 0), (Go.Value.int Go.IntKind.i64 0), (Go.Value.int Go.IntKind.i64 0), (Go.Value.int Go.IntKind.i64 0), (Go.Value.int Go.IntKind.i64 0), (Go.Value.int Go.IntKind.i64 0), (Go.Value.int Go.IntKind.i64 0), (Go.Value.int Go.IntKind.i64 0), (Go.Value.int Go.IntKind.i64 0), (Go.Value.int Go.IntKind.i64 0), (Go.Value.int Go.IntKind.i64 0), (Go.Value.int Go.IntKind.i64 0), (Go.Value.int Go.IntKind.i64 0), (Go.Value.int Go.IntKind.i64 0), (Go.Value.int Go.IntKind.i64 0), (Go.Value.int Go.IntKind.i64 0), (Go.Value.int Go.IntKind.i64 0), (Go.Value.int Go.IntKind.i64 0), (Go.Value.int Go.IntKind.i64 0), (Go.Value.int Go.IntKind.i64 0), (Go.Value.int Go.IntKind.i64 0), (Go.Value.int Go.IntKind.i64 0), (Go.Value.int Go.IntKind.i64 0), (Go.Value.int Go.IntKind.i64 0), (Go.Value.int Go.IntKind.i64 0), (Go.Value.int Go.IntKind.i64 0), (Go.Value.int Go.IntKind.i64 0), (Go.Value.int Go.IntKind.i64 0), (Go.Value.int Go.IntKind.i64 0), (Go.Value.int Go.IntKind.i64 0), (Go.Value.int Go.IntKind.i64 0), (Go.Value.int Go.IntKind.i64 0), (Go.Value.int Go.IntKind.i64 0), (Go.Value.int Go.IntKind.i64 0), (Go.Value.int Go.IntKind.i64 0), (Go.Value.int Go.IntKind.i64 0), (Go.Value.int Go.IntKind.i64 0), (Go.Value.int Go.IntKind.i64 0), (Go.Value.int Go.IntKind.i64 0), (Go.Value.int Go.IntKind.i64 0), (Go.Value.int Go.IntKind.i64 0), (Go.Value.int Go.IntKind.i64 0), (Go.Value.int Go.IntKind.i64 0), (Go.Value.int Go.IntKind.i64 0), (Go.Value.int Go.IntKind.i64 0), (Go.Value.int Go.IntKind.i64 0), (Go.Value.int Go.IntKind.i64 0), (Go.Value.int Go.IntKind.i64 0), (Go.Value.int Go.IntKind.i64 0), (Go.Value.int Go.IntKind.i64 0), (Go.Value.int Go.IntKind.i64 0), (Go.Value.int Go.IntKind.i64 0), (Go.Value.int Go.IntKind.i64 0), (Go.Value.int Go.IntKind.i64 0), (Go.Value.int Go.IntKind.i64 0), (Go.Value.int Go.IntKind.i64 0), (Go.Value.int Go.IntKind.i64 0), (Go.Value.int Go.IntKind.i64 0), (Go.Value.int Go.IntKind.i64 0), (Go.Value.int Go.IntKind.i64 0), (Go.Value.int Go.IntKind.i64 0), (Go.Value.int Go.IntKind.i64 0), (Go.Value.int Go.IntKind.i64 0), (Go.Value.int Go.IntKind.i64 0), (Go.Value.int Go.IntKind.i64 0), (Go.Value.int Go.IntKind.i64 0), (Go.Value.int Go.IntKind.i64 0), (Go.Value.int Go.IntKind.i64 0), (Go.Value.int Go.IntKind.i64 0), (Go.Value.int Go.IntKind.i64 0), (Go.Value.int Go.IntKind.i64 0), (Go.Value.int Go.IntKind.i64 0), (Go.Value.int Go.IntKind.i64 0), (Go.Value.int Go.IntKind.i64 0), (Go.Value.int Go.IntKind.i64 0), (Go.Value.int Go.IntKind.i64 0), (Go.Value.int Go.IntKind.i64 0), (Go.Value.int Go.IntKind.i64 0), (Go.Value.int Go.IntKind.i64 0), (Go.Value.int Go.IntKind.i64 0), (Go.Value.int Go.IntKind.i64 0), (Go.Value.int Go.IntKind.i64 0), (Go.Value.int Go.IntKind.i64 0), (Go.Value.int Go.IntKind.i64 0), (Go.Value.int Go.IntKind.i64 0), (Go.Value.int Go.IntKind.i64 0), (Go.Value.int Go.IntKind.i64 0), (Go.Value.int Go.IntKind.i64 0), (Go.Value.int Go.IntKind.i64 0), (Go.Value.int Go.IntKind.i64 0), (Go.Value.int Go.IntKind.i64 0), (Go.Value.int Go.IntKind.i64 0), (Go.Value.int Go.IntKind.i64 0), (Go.Value.int Go.IntKind.i64 0), (Go.Value.int Go.IntKind.i64 0), (Go.Value.int Go.IntKind.i64 0), (Go.Value.int Go.IntKind.i64 0), (Go.Value.int Go.IntKind.i64 0), (Go.Value.int Go.IntKind.i64 0), (Go.Value.int Go.IntKind.i64 0), (Go.Value.int Go.IntKind.i64 0), (Go.Value.int Go.IntKind.i64 0), (Go.Value.int Go.IntKind.i64 0), (Go.Value.int Go.IntKind.i64 0), (Go.Value.int Go.IntKind.i64 0), (Go.Value.int Go.IntKind.i64 0), (Go.Value.int Go.IntKind.i64 0), (Go.Value.int Go.IntKind.i64 0), (Go.Value.int Go.IntKind.i64 0), (Go.Value.int Go.IntKind.i64 0), (Go.Value.int Go.IntKind.i64 0), (Go.Value.int Go.IntKind.i64 0), (Go.Value.int Go.IntKind.i64 0), (Go.Value.int Go.IntKind.i64 0), (Go.Value.int Go.IntKind.i64 0), (Go.Value.int Go.IntKind.i64 0), (Go.Value.int Go.IntKind.i64 0), (Go.Value.int Go.IntKind.i64 0), (Go.Value.int Go.IntKind.i64 0), (Go.Value.int Go.IntKind.i64 0), (Go.Value.int Go.IntKind.i64 0), (Go.Value.int Go.IntKind.i64 0), (Go.Value.int Go.IntKind.i64 0), (Go.Value.int Go.IntKind.i64 0), (Go.Value.int Go.IntKind.i64 0), (Go.Value.int Go.IntKind.i64 0), (Go.Value.int Go.IntKind.i64 0), (Go.Value.int Go.IntKind.i64 0), (Go.Value.int Go.IntKind.i64 0), (Go.Value.int Go.IntKind.i64 0), (Go.Value.int Go.IntKind.i64 0), (Go.Value.int Go.IntKind.i64 0), (Go.Value.int Go.IntKind.i64 0), (Go.Value.int Go.IntKind.i64 0), (Go.Value.int Go.IntKind.i64 0), (Go.Value.int Go.IntKind.i64 0), (Go.Value.int Go.IntKind.i64 0), (Go.Value.int Go.IntKind.i64 0), (Go.Value.int Go.IntKind.i64 0), (Go.Value.int Go.IntKind.i64 0), (Go.Value.int Go.IntKind.i64 0), (Go.Value.int Go.IntKind.i64 0), (Go.Value.int Go.IntKind.i64 0), (Go.Value.int Go.IntKind.i64 0), (Go.Value.int Go.IntKind.i64 0), (Go.Value.int Go.IntKind.i64 0), (Go.Value.int Go.IntKind.i64 0), (Go.Value.int Go.IntKind.i64 0), (Go.Value.int Go.IntKind.i64 0), (Go.Value.int Go.IntKind.i64 0), (Go.Value.int Go.IntKind.i64 0), (Go.Value.int Go.IntKind.i64 0), (Go.Value.int Go.IntKind.i64 0), (Go.Value.int Go.IntKind.i64 0), (Go.Value.int Go.IntKind.i64 0), (Go.Value.int Go.IntKind.i64 0), (Go.Value.int Go.IntKind.i64 0), (Go.Value.int Go.IntKind.i64 0), (Go.Value.int Go.IntKind.i64 0), (Go.Value.int Go.IntKind.i64 0), (Go.Value.int Go.IntKind.i64 0), (Go.Value.int Go.IntKind.i64 0), (Go.Value.int Go.IntKind.i64 0), (Go.Value.int Go.IntKind.i64 0), (Go.Value.int Go.IntKind.i64 0), (Go.Value.int Go.IntKind.i64 0), (Go.Value.int Go.IntKind.i64 0), (Go.Value.int Go.IntKind.i64 0), (Go.Value.int Go.IntKind.i64 0), (Go.Value.int Go.IntKind.i64 0), (Go.Value.int Go.IntKind.i64 0), (Go.Value.int Go.IntKind.i64 0), (Go.Value.int Go.IntKind.i64 0), (Go.Value.int Go.IntKind.i64 0), (Go.Value.int Go.IntKind.i64 0), (Go.Value.int Go.IntKind.i64 0), (Go.Value.int Go.IntKind.i64 0), (Go.Value.int Go.IntKind.i64 0), (Go.Value.int Go.IntKind.i64 0), (Go.Value.int Go.IntKind.i64 0), (Go.Value.int Go.IntKind.i64 0), (Go.Value.int Go.IntKind.i64 0), (Go.Value.int Go.IntKind.i64 0), (Go.Value.int Go.IntKind.i64 0), (Go.Value.int Go.IntKind.i64 0), (Go.Value.int Go.IntKind.i64 0), (Go.Value.int Go.IntKind.i64 0), (Go.Value.int Go.IntKind.i64 0), (Go.Value.int Go.IntKind.i64 0), (Go.Value.int Go.IntKind.i64 0), (Go.Value.int Go.IntKind.i64 0), (Go.Value.int Go.IntKind.i64 0), (Go.Value.int Go.IntKind.i64 0), (Go.Value.int Go.IntKind.i64 0), (Go.Value.int Go.IntKind.i64 0), (Go.Value.int Go.IntKind.i64 0), (Go.Value.int Go.IntKind.i64 0), (Go.Value.int Go.IntKind.i64 0), (Go.Value.int Go.IntKind.i64 0), (Go.Value.int Go.IntKind.i64 0), (Go.Value.int Go.IntKind.i64 0), (Go.Value.int Go.IntKind.i64 0), (Go.Value.int Go.IntKind.i64 0), (Go.Value.int Go.IntKind.i64 0), (Go.Value.int Go.IntKind.i64 0), (Go.Value.int Go.IntKind.i64 0), (Go.Value.int Go.IntKind.i64 0), (Go.Value.int Go.IntKind.i64 0), (Go.Value.int Go.IntKind.i64 0), (Go.Value.int Go.IntKind.i64 0), (Go.Value.int Go.IntKind.i64 0), (Go.Value.int Go.IntKind.i64 0)]⟩,
  ⟨.struct [(0, 66), (255, 68)], (.arr .any), 511, 2304, [(Go.Value.int Go.IntKind.u8 0), (Go.Value.int Go.IntKind.u8 0), (Go.Value.int Go.IntKind.u8 0), (Go.Value.int Go.IntKind.u8 0), (Go.Value.int Go.IntKind.u8 0), (Go.Value.int Go.IntKind.u8 0), (Go.Value.int Go.IntKind.u8 0), (Go.Value.int Go.IntKind.u8 0), (Go.Value.int Go.IntKind.u8 0), (Go.Value.int Go.IntKind.u8 0), (Go.Value.int Go.IntKind.u8 0), (Go.Value.int Go.IntKind.u8 0), (Go.Value.int Go.IntKind.u8 0), (Go.Value.int Go.IntKind.u8 0), (Go.Value.int Go.IntKind.u8 0), (Go.Value.int Go.IntKind.u8 0), (Go.Value.int Go.IntKind.u8 0), (Go.Value.int Go.IntKind.u8 0), (Go.Value.int Go.IntKind.u8 0), (Go.Value.int Go.IntKind.u8 0), (Go.Value.int Go.IntKind.u8 0), (Go.Value.int Go.IntKind.u8 0), (Go.Value.int Go.IntKind.u8 0), (Go.Value.int Go.IntKind.u8 0), (Go.Value.int Go.IntKind.u8 0), (Go.Value.int Go.IntKind.u8 0), (Go.Value.int Go.IntKind.u8 0), (Go.Value.int Go.IntKind.u8 0), (Go.Value.int Go.IntKind.u8 0), (Go.Value.int Go.IntKind.u8 0), (Go.Value.int Go.IntKind.u8 0), (Go.Value.int Go.IntKind.u8 0), (Go.Value.int Go.IntKind.u8 0), (Go.Value.int Go.IntKind.u8 0), (Go.Value.int Go.IntKind.u8 0), (Go.Value.int Go.IntKind.u8 0), (Go.Value.int Go.IntKind.u8 0), (Go.Value.int Go.IntKind.u8 0), (Go.Value.int Go.IntKind.u8 0), (Go.Value.int Go.IntKind.u8 0), (Go.Value.int Go.IntKind.u8 0), (Go.Value.int Go.IntKind.u8 0), (Go.Value.int Go.IntKind.u8 0), (Go.Value.int Go.IntKind.u8 0), (Go.Value.int Go.IntKind.u8 0), (Go.Value.int Go.IntKind.u8 0), (Go.Value.int Go.IntKind.u8 0), (Go.Value.int Go.IntKind.u8 0), (Go.Value.int Go.IntKind.u8 0), (Go.Value.int Go.IntKind.u8 0), (Go.Value.int Go.IntKind.u8 0), (Go.Value.int Go.IntKind.u8 0), (Go.Value.int Go.IntKind.u8 0), (Go.Value.int Go.IntKind.u8 0), (Go.Value.int Go.IntKind.u8 0), (Go.Value.int Go.IntKind.u8 0), (Go.Value.int Go.IntKind.u8 0), (Go.Value.int Go.IntKind.u8 0), (Go.Value.int Go.IntKind.u8 0), (Go.Value.int Go.IntKind.u8 0), (Go.Value.int Go.IntKind.u8 0), (Go.Value.int Go.IntKind.u8 0), (Go.Value.int Go.IntKind.u8 0), (Go.Value.int Go.IntKind.u8 0), (Go.Value.int Go.IntKind.u8 0), (Go.Value.int Go.IntKind.u8 0), (Go.Value.int Go.IntKind.u8 0), (Go.Value.int Go.IntKind.u8 0), (Go.Value.int Go.IntKind.u8 0), (Go.Value.int Go.IntKind.u8 0), (Go.Value.int Go.IntKind.u8 0), (Go.Value.int Go.IntKind.u8 0), (Go.Value.int Go.IntKind.u8 0), (Go.Value.int Go.IntKind.u8 0), (Go.Value.int Go.IntKind.u8 0), (Go.Value.int Go.IntKind.u8 0), (Go.Value.int Go.IntKind.u8 0), (Go.Value.int Go.IntKind.u8 0), (Go.Value.int Go.IntKind.u8 0), (Go.Value.int Go.IntKind.u8 0), (Go.Value.int Go.IntKind.u8 0), (Go.Value.int Go.IntKind.u8 0), (Go.Value.int Go.IntKind.u8 0), (Go.Value.int Go.IntKind.u8 0), (Go.Value.int Go.IntKind.u8 0), (Go.Value.int Go.IntKind.u8 0), (Go.Value.int Go.IntKind.u8 0), (Go.Value.int Go.IntKind.u8 0), (Go.Value.int Go.IntKind.u8 0), (Go.Value.int Go.IntKind.u8 0), (Go.Value.int Go.IntKind.u8 0), (Go.Value.int Go.IntKind.u8 0), (Go.Value.int Go.IntKind.u8 0), (Go.Value.int Go.IntKind.u8 0), (Go.Value.int Go.IntKind.u8 0), (Go.Value.int Go.IntKind.u8 0), (Go.Value.int Go.IntKind.u8 0), (Go.Value.int Go.IntKind.u8 0), (Go.Value.int Go.IntKind.u8 0), (Go.Value.int Go.IntKind.u8 0), (Go.Value.int Go.IntKind.u8 0), (Go.Value.int Go.IntKind.u8 0), (Go.Value.int Go.IntKind.u8 0), (Go.Value.int Go.IntKind.u8 0), (Go.Value.int Go.IntKind.u8 0), (Go.Value.int Go.IntKind.u8 0), (Go.Value.int Go.IntKind.u8 0), (Go.Value.int Go.IntKind.u8 0), (Go.Value.int Go.IntKind.u8 0), (Go.Value.int Go.IntKind.u8 0), (Go.Value.int Go.IntKind.u8 0), (Go.Value.int Go.IntKind.u8 0), (Go.Value.int Go.IntKind.u8 0), (Go.Value.int Go.IntKind.u8 0), (Go.Value.int Go.IntKind.u8 0), (Go.Value.int Go.IntKind.u8 0), (Go.Value.int Go.IntKind.u8 0), (Go.Value.int Go.IntKind.u8 0), (Go.Value.int Go.IntKind.u8 0), (Go.Value.int Go.IntKind.u8 0), (Go.Value.int Go.IntKind.u8 0), (Go.Value.int Go.IntKind.u8 0), (Go.Value.int Go.IntKind.u8 0), (Go.Value.int Go.IntKind.u8 0), (Go.Value.int Go.IntKind.u8 0), (Go.Value.int Go.IntKind.u8 0), (Go.Value.int Go.IntKind.u8 0), (Go.Value.int Go.IntKind.u8 0), (Go.Value.int Go.IntKind.u8 0), (Go.Value.int Go.IntKind.u8 0), (Go.Value.int Go.IntKind.u8 0), (Go.Value.int Go.IntKind.u8 0), (Go.Value.int Go.IntKind.u8 0), (Go.Value.int Go.IntKind.u8 0), (Go.Value.int Go.IntKind.u8 0), (Go.Value.int Go.IntKind.u8 0), (Go.Value.int Go.IntKind.u8 0), (Go.Value.int Go.IntKind.u8 0), (Go.Value.int Go.IntKind.u8 0), (Go.Value.int Go.IntKind.u8 0), (Go.Value.int Go.IntKind.u8 0), (Go.Value.int Go.IntKind.u8 0), (Go.Value.int Go.IntKind.u8 0), (Go.Value.int Go.IntKind.u8 0), (Go.Value.int Go.IntKind.u8 0), (Go.Value.int Go.IntKind.u8 0), (Go.Value.int Go.IntKind.u8 0), (Go.Value.int Go.IntKind.u8 0), (Go.Value.int Go.IntKind.u8 0), (Go.Value.int Go.IntKind.u8 0), (Go.Value.int Go.IntKind.u8 0), (Go.Value.int Go.IntKind.u8 0), (Go.Value.int Go.IntKind.u8 0), (Go.Value.int Go.IntKind.u8 0), (Go.Value.int Go.IntKind.u8 0), (Go.Value.int Go.IntKind.u8 0), (Go.Value.int Go.IntKind.u8 0), (Go.Value.int Go.IntKind.u8 0), (Go.Value.int Go.IntKind.u8 0), (Go.Value.int Go.IntKind.u8 0), (Go.Value.int Go.IntKind.u8 0), (Go.Value.int Go.IntKind.u8 0), (Go.Value.int Go.IntKind.u8 0), (Go.Value.int Go.IntKind.u8 0), (Go.Value.int Go.IntKind.u8 0), (Go.Value.int Go.IntKind.u8 0), (Go.Value.int Go.IntKind.u8 0), (Go.Value.int Go.IntKind.u8 0), (Go.Value.int Go.IntKind.u8 0), (Go.Value.int Go.IntKind.u8 0), (Go.Value.int Go.IntKind.u8 0), (Go.Value.int Go.IntKind.u8 0), (Go.Value.int Go.IntKind.u8 0), (Go.Value.int Go.IntKind.u8 0), (Go.Value.int Go.IntKind.u8 0), (Go.Value.int Go.IntKind.u8 0), (Go.Value.int Go.IntKind.u8 0), (Go.Value.int Go.IntKind.u8 0), (Go.Value.int Go.IntKind.u8 0), (Go.Value.int Go.IntKind.u8 0), (Go.Value.int Go.IntKind.u8 0), (Go.Value.int Go.IntKind.u8 0), (Go.Value.int Go.IntKind.u8 0), (Go.Value.int Go.IntKind.u8 0), (Go.Value.int Go.IntKind.u8 0), (Go.Value.int Go.IntKind.u8 0), (Go.Value.int Go.IntKind.u8 0), (Go.Value.int Go.IntKind.u8 0), (Go.Value.int Go.IntKind.u8 0), (Go.Value.int Go.IntKind.u8 0), (Go.Value.int Go.IntKind.u8 0), (Go.Value.int Go.IntKind.u8 0), (Go.Value.int Go.IntKind.u8 0), (Go.Value.int Go.IntKind.u8 0), (Go.Value.int Go.IntKind.u8 0), (Go.Value.int Go.IntKind.u8 0), (Go.Value.int Go.IntKind.u8 0), (Go.Value.int Go.IntKind.u8 0), (Go.Value.int Go.IntKind.u8 0), (Go.Value.int Go.IntKind.u8 0), (Go.Value.int Go.IntKind.u8 0), (Go.Value.int Go.IntKind.u8 0), (Go.Value.int Go.IntKind.u8 0), (Go.Value.int Go.IntKind.u8 0), (Go.Value.int Go.IntKind.u8 0), (Go.Value.int Go.IntKind.u8 0), (Go.Value.int Go.IntKind.u8 0), (Go.Value.int Go.IntKind.u8 0), (Go.Value.int Go.IntKind.u8 0), (Go.Value.int Go.IntKind.u8 0), (Go.Value.int Go.IntKind.u8 0), (Go.Value.int Go.IntKind.u8 0), (Go.Value.int Go.IntKind.u8 0), (Go.Value.int Go.IntKind.u8 0), (Go.Value.int Go.IntKind.u8 0), (Go.Value.int Go.IntKind.u8 0), (Go.Value.int Go.IntKind.u8 0), (Go.Value.int Go.IntKind.u8 0), (Go.Value.int Go.IntKind.u8 0), (Go.Value.int Go.IntKind.u8 0), (Go.Value.int Go.IntKind.u8 0), (Go.Value.int Go.IntKind.u8 0), (Go.Value.int Go.IntKind.u8 0), (Go.Value.int Go.IntKind.u8 0), (Go.Value.int Go.IntKind.u8 0), (Go.Value.int Go.IntKind.u8 0), (Go.Value.int Go.IntKind.u8 0), (Go.Value.int Go.IntKind.u8 0), (Go.Value.int Go.IntKind.u8 0), (Go.Value.int Go.IntKind.u8 0), (Go.Value.int Go.IntKind.u8 0), (Go.Value.int Go.IntKind.u8 0), (Go.Value.int Go.IntKind.u8 0), (Go.Value.int Go.IntKind.u8 0), (Go.Value.int Go.IntKind.u8 0), (Go.Value.int Go.IntKind.u8 0), (Go.Value.int Go.IntKind.u8 0), (Go.Value.int Go.IntKind.u8 0), (Go.Value.int Go.IntKind.u8 0), (Go.Value.int Go.IntKind.u8 0), (Go.Value.int Go.IntKind.u8 0), (Go.Value.int Go.IntKind.u8 0), (Go.Value.int Go.IntKind.u8 0), (Go.Value.int Go.IntKind.u8 0), (Go.Value.int Go.IntKind.u8 0), (Go.Value.int Go.IntKind.u8 0), (Go.Value.int Go.IntKind.u8 0), (Go.Value.int Go.IntKind.u8 0), (Go.Value.int Go.IntKind.u8 0), (Go.Value.int Go.IntKind.u8 0), (Go.Value.int Go.IntKind.u8 0), (Go.Value.int Go.IntKind.u8 0), (Go.Value.int Go.IntKind.u8 0), (Go.Value.int Go.IntKind.u8 0), (Go.Value.int Go.IntKind.u8 0), (Go.Value.int Go.IntKind.i64 0), (Go.Value.int Go.IntKind.i64 0), (Go.Value.int Go.IntKind.i64 0), (Go.Value.int Go.IntKind.i64 0), (Go.Value.int Go.IntKind.i64 0), (Go.Value.int Go.IntKind.i64 0), (Go.Value.int Go.IntKind.i64 0), (Go.Value.int Go.IntKind.i64 0), (Go.Value.int Go.IntKind.i64 0), (Go.Value.int Go.IntKind.i64 0), (Go.Value.int Go.IntKind.i64 0), (Go.Value.int Go.IntKind.i64 0), (Go.Value.int Go.IntKind.i64 0), (Go.Value.int Go.IntKind.i64 0), (Go.Value.int Go.IntKind.i64 0), (Go.Value.int Go.IntKind.i64 0), (Go.Value.int Go.IntKind.i64 0), (Go.Value.int Go.IntKind.i64 0), (Go.Value.int Go.IntKind.i64 0), (Go.Value.int Go.IntKind.i64 0), (Go.Value.int Go.IntKind.i64 0), (Go.Value.int Go.IntKind.i64 0), (Go.Value.int Go.IntKind.i64 0), (Go.Value.int Go.IntKind.i64 0), (Go.Value.int Go.IntKind.i64 0), (Go.Value.int Go.IntKind.i64 0), (Go.Value.int Go.IntKind.i64 0), (Go.Value.int Go.IntKind.i64 0), (Go.Value.int Go.IntKind.i64 0), (Go.Value.int Go.IntKind.i64 0), (Go.Value.int Go.IntKind.i64 0), (Go.Value.int Go.IntKind.i64 0), (Go.Value.int Go.IntKind.i64 0), (Go.Value.int Go.IntKind.i64 0), (Go.Value.int Go.IntKind.i64 0), (Go.Value.int Go.IntKind.i64 0), (Go.Value.int Go.IntKind.i64 0), (Go.Value.int Go.IntKind.i64 0), (Go.Value.int Go.IntKind.i64 0), (Go.Value.int Go.IntKind.i64 0), (Go.Value.int Go.IntKind.i64 0), (Go.Value.int Go.IntKind.i64 0), (Go.Value.int Go.IntKind.i64 0), (Go.Value.int Go.IntKind.i64 0), (Go.Value.int Go.IntKind.i64 0), (Go.Value.int Go.IntKind.i64 0), (Go.Value.int Go.IntKind.i64 0), (Go.Value.int Go.IntKind.i64 0), (Go.Value.int Go.IntKind.i64 0), (Go.Value.int Go.IntKind.i64 0), (Go.Value.int Go.IntKind.i64 0), (Go.Value.int Go.IntKind.i64 0), (Go.Value.int Go.IntKind.i64 0), (Go.Value.int Go.IntKind.i64 0), (Go.Value.int Go.IntKind.i64 0), (Go.Value.int Go.IntKind.i64 0), (Go.Value.int Go.IntKind.i64 0), (Go.Value.int Go.IntKind.i64 0), (Go.Value.int Go.IntKind.i64 0), (Go.Value.int Go.IntKind.i64 0), (Go.Value.int Go.IntKind.i64 0), (Go.Value.int Go.IntKind.i64 0), (Go.Value.int Go.IntKind.i64 0), (Go.Value.int Go.IntKind.i64 0), (Go.Value.int Go.IntKind.i64 0), (Go.Value.int Go.IntKind.i64 0), (Go.Value.int Go.IntKind.i64 0), (Go.Value.int Go.IntKind.i64 0), (Go.Value.int Go.IntKind.i64 0), (Go.Value.int Go.IntKind.i64 0), (Go.Value.int Go.IntKind.i64 0), (Go.Value.int Go.IntKind.i64 0), (Go.Value.int Go.IntKind.i64 0), (Go.Value.int Go.IntKind.i64 0), (Go.Value.int Go.IntKind.i64 0), (Go.Value.int Go.IntKind.i64 0), (Go.Value.int Go.IntKind.i64 0), (Go.Value.int Go.IntKind.i64 0), (Go.Value.int Go.IntKind.i64 0), (Go.Value.int Go.IntKind.i64 0), (Go.Value.int Go.IntKind.i64 0), (Go.Value.int Go.IntKind.i64 0), (Go.Value.int Go.IntKind.i64 0), (Go.Value.int Go.IntKind.i64 0), (Go.Value.int Go.IntKind.i64 0), (Go.Value.int Go.IntKind.i64 0), (Go.Value.int Go.IntKind.i64 0), (Go.Value.int Go.IntKind.i64 0), (Go.Value.int Go.IntKind.i64 0), (Go.Value.int Go.IntKind.i64 0), (Go.Value.int Go.IntKind.i64 0), (Go.Value.int Go.IntKind.i64 0), (Go.Value.int Go.IntKind.i64 0), (Go.Value.int Go.IntKind.i64 0), (Go.Value.int Go.IntKind.i64 0), (Go.Value.int Go.IntKind.i64 0), (Go.Value.int Go.IntKind.i64 0), (Go.Value.int Go.IntKind.i64 0), (Go.Value.int Go.IntKind.i64 0), (Go.Value.int Go.IntKind.i64 0), (Go.Value.int Go.IntKind.i64 0), (Go.Value.int Go.IntKind.i64 0), (Go.Value.int Go.IntKind.i64 0), (Go.Value.int Go.IntKind.i64 0), (Go.Value.int Go.IntKind.i64 0), (Go.Value.int Go.IntKind.i64 0), (Go.Value.int Go.IntKind.i64 0), (Go.Value.int Go.IntKind.i64 0), (Go.Value.int Go.IntKind.i64 0), (Go.Value.int Go.IntKind.i64 0), (Go.Value.int Go.IntKind.i64 0), (Go.Value.int Go.IntKind.i64 0), (Go.Value.int Go.IntKind.i64 0), (Go.Value.int Go.IntKind.i64 0), (Go.Value.int Go.IntKind.i64 0), (Go.Value.int Go.IntKind.i64 0), (Go.Value.int Go.IntKind.i64 0), (Go.Value.int Go.IntKind.i64 0), (Go.Value.int Go.IntKind.i64 0), (Go.Value.int Go.IntKind.i64 0), (Go.Value.int Go.IntKind.i64 0), (Go.Value.int Go.IntKind.i64 0), (Go.Value.int Go.IntKind.i64 0), (Go.Value.int Go.IntKind.i64 0), (Go.Value.int Go.IntKind.i64 0), (Go.Value.int Go.IntKind.i64 0), (Go.Value.int Go.IntKind.i64 0), (Go.Value.int Go.IntKind.i64 0), (Go.Value.int Go.IntKind.i64 0), (Go.Value.int Go.IntKind.i64 0), (Go.Value.int Go.IntKind.i64 0), (Go.Value.int Go.IntKind.i64 0), (Go.Value.int Go.IntKind.i64 0), (Go.Value.int Go.IntKind.i64 0), (Go.Value.int Go.IntKind.i64 0), (Go.Value.int Go.IntKind.i64 0), (Go.Value.int Go.IntKind.i64 0), (Go.Value.int Go.IntKind.i64 0), (Go.Value.int Go.IntKind.i64 0), (Go.Value.int Go.IntKind.i64 0), (Go.Value.int Go.IntKind.i64 0), (Go.Value.int Go.IntKind.i64 0), (Go.Value.int Go.IntKind.i64 0), (Go.Value.int Go.IntKind.i64 0), (Go.Value.int Go.IntKind.i64 0), (Go.Value.int Go.IntKind.i64 0), (Go.Value.int Go.IntKind.i64 0), (Go.Value.int Go.IntKind.i64 0), (Go.Value.int Go.IntKind.i64 0), (Go.Value.int Go.IntKind.i64 0), (Go.Value.int Go.IntKind.i64 0), (Go.Value.int Go.IntKind.i64 0), (Go.Value.int Go.IntKind.i64 0), (Go.Value.int Go.IntKind.i64 0), (Go.Value.int Go.IntKind.i64 0), (Go.Value.int Go.IntKind.i64 0), (Go.Value.int Go.IntKind.i64 0), (Go.Value.int Go.IntKind.i64 0), (Go.Value.int Go.IntKind.i64 0), (Go.Value.int Go.IntKind.i64 0), (Go.Value.int Go.IntKind.i64 0), (Go.Value.int Go.IntKind.i64 0), (Go.Value.int Go.IntKind.i64 0), (Go.Value.int Go.IntKind.i64 0), (Go.Value.int Go.IntKind.i64 0), (Go.Value.int Go.IntKind.i64 0), (Go.Value.int Go.IntKind.i64 0), (Go.Value.int Go.IntKind.i64 0), (Go.Value.int Go.IntKind.i64 0), (Go.Value.int Go.IntKind.i64 0), (Go.Value.int Go.IntKind.i64 0), (Go.Value.int Go.IntKind.i64 0), (Go.Value.int Go.IntKind.i64 0), (Go.Value.int Go.IntKind.i64 0), (Go.Value.int Go.IntKind.i64 0), (Go.Value.int Go.IntKind.i64 0), (Go.Value.int Go.IntKind.i64 0), (Go.Value.int Go.IntKind.i64 0), (Go.Value.int Go.IntKind.i64 0), (Go.Value.int Go.IntKind.i64 0), (Go.Value.int Go.IntKind.i64 0), (Go.Value.int Go.IntKind.i64 0), (Go.Value.int Go.IntKind.i64 0), (Go.Value.int Go.IntKind.i64 0), (Go.Value.int Go.IntKind.i64 0), (Go.Value.int Go.IntKind.i64 0), (Go.Value.int Go.IntKind.i64 0), (Go.Value.int Go.IntKind.i64 0), (Go.Value.int Go.IntKind.i64 0), (Go.Value.int Go.IntKind.i64 0), (Go.Value.int Go.IntKind.i64 0), (Go.Value.int Go.IntKind.i64 0), (Go.Value.int Go.IntKind.i64 0), (Go.Value.int Go.IntKind.i64 0), (Go.Value.int Go.IntKind.i64 0), (Go.Value.int Go.IntKind.i64 0), (Go.Value.int Go.IntKind.i64 0), (Go.Value.int Go.IntKind.i64 0), (Go.Value.int Go.IntKind.i64 0), (Go.Value.int Go.IntKind.i64 0), (Go.Value.int Go.IntKind.i64 0), (Go.Value.int Go.IntKind.i64 0), (Go.Value.int Go.IntKind.i64 0), (Go.Value.int Go.IntKind.i64 0), (Go.Value.int Go.IntKind.i64 0), (Go.Value.int Go.IntKind.i64 0), (Go.Value.int Go.IntKind.i64 0), (Go.Value.int Go.IntKind.i64 0), (Go.Value.int Go.IntKind.i64 0), (Go.Value.int Go.IntKind.i64 0), (Go.Value.int Go.IntKind.i64 0), (Go.Value.int Go.IntKind.i64 0), (Go.Value.int Go.IntKind.i64 0), (Go.Value.int Go.IntKind.i64 0), (Go.Value.int Go.IntKind.i64 0), (Go.Value.int Go.IntKind.i64 0), (Go.Value.int Go.IntKind.i64 0), (Go.Value.int Go.IntKind.i64 0), (Go.Value.int Go.IntKind.i64 0), (Go.Value.int Go.IntKind.i64 0), (Go.Value.int Go.IntKind.i64 0), (Go.Value.int Go.IntKind.i64 0), (Go.Value.int Go.IntKind.i64 0), (Go.Value.int Go.IntKind.i64 0), (Go.Value.int Go.IntKind.i64 0), (Go.Value.int Go.IntKind.i64 0), (Go.Value.int Go.IntKind.i64 0), (Go.Value.int Go.IntKind.i64 0), (Go.Value.int Go.IntKind.i64 0), (Go.Value.int Go.IntKind.i64 0), (Go.Value.int Go.IntKind.i64 0), (Go.Value.int Go.IntKind.i64 0), (Go.Value.int Go.IntKind.i64 0), (Go.Value.int Go.IntKind.i64 0), (Go.Value.int Go.IntKind.i64 0), (Go.Value.int Go.IntKind.i64 0), (Go.Value.int Go.IntKind.i64 0), (Go.Value.int Go.IntKind.i64 0), (Go.Value.int Go.IntKind.i64 0), (Go.Value.int Go.IntKind.i64 0), (Go.Value.int Go.IntKind.i64 0), (Go.Value.int Go.IntKind.i64 0), (Go.Value.int Go.IntKind.i64 0), (Go.Value.int Go.IntKind.i64 0), (Go.Value.int Go.IntKind.i64 0), (Go.Value.int Go.IntKind.i64 0), (Go.Value.int Go.IntKind.i64 0), (Go.Value.int Go.IntKind.i64 0), (Go.Value.int Go.IntKind.i64 0), (Go.Value.int Go.IntKind.i64 0), (Go.Value.int Go.IntKind.i64 0), (Go.Value.int Go.IntKind.i64 0), (Go.Value.int Go.IntKind.i64 0), (Go.Value.int Go.IntKind.i64 0), (Go.Value.int Go.IntKind.i64 0), (Go.Value.int Go.IntKind.i64 0)]⟩,
  ⟨.fn, (.sc .fn), 1, 8, [Go.Value.nilFunc]⟩,
  ⟨.fn, (.sc .fn), 1, 8, [Go.Value.nilFunc]⟩,
  ⟨.other, (.sc .any), 1, 0, [(Go.Value.tuple #[(Go.Value.slice Option.none 0 0), (Go.Value.bool Bool.false)])]⟩,
  ⟨.fn, (.sc .fn), 1, 8, [Go.Value.nilFunc]⟩,
  ⟨.fn, (.sc .fn), 1, 8, [Go.Value.nilFunc]⟩,
  ⟨.fn, (.sc .fn), 1, 8, [Go.Value.nilFunc]⟩,
  ⟨.fn, (.sc .fn), 1, 8, [Go.Value.nilFunc]⟩,
  ⟨.fn, (.sc .fn), 1, 8, [Go.Value.nilFunc]⟩,
  ⟨.fn, (.sc .fn), 1, 8, [Go.Value.nilFunc]⟩,
  ⟨.fn, (.sc .fn), 1, 8, [Go.Value.nilFunc]⟩,
  ⟨.fn, (.sc .fn), 1, 8, [Go.Value.nilFunc]⟩,
  ⟨.fn, (.sc .fn), 1, 8, [Go.Value.nilFunc]⟩,
  ⟨.fn, (.sc .fn), 1, 8, [Go.Value.nilFunc]⟩,
  ⟨.fn, (.sc .fn), 1, 8, [Go.Value.nilFunc]⟩,
  ⟨.fn, (.sc .fn), 1, 8, [Go.Value.nilFunc]⟩,
  ⟨.fn, (.sc .fn), 1, 8, [Go.Value.nilFunc]⟩,
  ⟨.fn, (.sc .fn), 1, 8, [Go.Value.nilFunc]⟩,
  ⟨.fn, (.sc .fn), 1, 8, [Go.Value.nilFunc]⟩,
  ⟨.fn, (.sc .fn), 1, 8, [Go.Value.nilFunc]⟩,
  ⟨.fn, (.sc .fn), 1, 8, [Go.Value.nilFunc]⟩,
  ⟨.fn, (.sc .fn), 1, 8, [Go.Value.nilFunc]⟩,
  ⟨.fn, (.sc .fn), 1, 8, [Go.Value.nilFunc]⟩,
  ⟨.fn, (.sc .fn), 1, 8, [Go.Value.nilFunc]⟩,
  ⟨.fn, (.sc .fn), 1, 8, [Go.Value.nilFunc]⟩,
  ⟨.fn, (.sc .fn), 1, 8, [Go.Value.nilFunc]⟩,
  ⟨.fn, (.sc .fn), 1, 8, [Go.Value.nilFunc]⟩,
  ⟨.fn, (.sc .fn), 1, 8, [Go.Value.nilFunc]⟩,
  ⟨.fn, (.sc .fn), 1, 8, [Go.Value.nilFunc]⟩,
  ⟨.fn, (.sc .fn), 1, 8, [Go.Value.nilFunc]⟩,
  ⟨.fn, (.sc .fn), 1, 8, [Go.Value.nilFunc]⟩,
  ⟨.ptr 110, (.sc .ptr), 1, 8, [(Go.Value.pointer Option.none)]⟩,
  ⟨.fn, (.sc .fn), 1, 8, [Go.Value.nilFunc]⟩,
  ⟨.fn, (.sc .fn), 1, 8, [Go.Value.nilFunc]⟩,
  ⟨.fn, (.sc .fn), 1, 8, [Go.Value.nilFunc]⟩,
  ⟨.fn, (.sc .fn), 1, 8, [Go.Value.nilFunc]⟩,
  ⟨.fn, (.sc .fn), 1, 8, [Go.Value.nilFunc]⟩,
  ⟨.int .u64, (.sc (.int .u64)), 1, 8, [(Go.Value.int Go.IntKind.u64 0)]⟩,
  ⟨.struct [(0, 108)], (.agg [(.int .u64)]), 1, 8, [(Go.Value.int Go.IntKind.u64 0)]⟩,
  ⟨.struct [(0, 108)], (.agg [(.int .u64)]), 1, 8, [(Go.Value.int Go.IntKind.u64 0)]⟩,
  ⟨.fn, (.sc .fn), 1, 8, [Go.Value.nilFunc]⟩,
  ⟨.fn, (.sc .fn), 1, 8, [Go.Value.nilFunc]⟩,
  ⟨.fn, (.sc .fn), 1, 8, [Go.Value.nilFunc]⟩,
  ⟨.fn, (.sc .fn), 1, 8, [Go.Value.nilFunc]⟩,
  ⟨.fn, (.sc .fn), 1, 8, [Go.Value.nilFunc]⟩,
  ⟨.fn, (.sc .fn), 1, 8, [Go.Value.nilFunc]⟩,
  ⟨.fn, (.sc .fn), 1, 8, [Go.Value.nilFunc]⟩,
  ⟨.int .i64, (.sc (.int .i64)), 1, 8, [(Go.Value.int Go.IntKind.i64 0)]⟩,
  ⟨.other, (.sc .any), 1, 0, [(Go.Value.tuple #[(Go.Value.int Go.IntKind.i64 0), (Go.Value.int Go.IntKind.i64 0)])]⟩,
  ⟨.fn, (.sc .fn), 1, 8, [Go.Value.nilFunc]⟩,
  ⟨.fn, (.sc .fn), 1, 8, [Go.Value.nilFunc]⟩,
  ⟨.fn, (.sc .fn), 1, 8, [Go.Value.nilFunc]⟩,
  ⟨.other, (.sc .any), 1, 0, [(Go.Value.tuple #[(Go.Value.int Go.IntKind.i64 0), (Go.Value.bool Bool.false)])]⟩,
  ⟨.fn, (.sc .fn), 1, 8, [Go.Value.nilFunc]⟩,
  ⟨.int .u64, (.sc (.int .u64)), 1, 8, [(Go.Value.int Go.IntKind.u64 0)]⟩,
  ⟨.fn, (.sc .fn), 1, 8, [Go.Value.nilFunc]⟩,
  ⟨.fn, (.sc .fn), 1, 8, [Go.Value.nilFunc]⟩,
  ⟨.fn, (.sc .fn), 1, 8, [Go.Value.nilFunc]⟩,
  ⟨.ptr 3, (.sc .ptr), 1, 8, [(Go.Value.pointer Option.none)]⟩,
  ⟨.fn, (.sc .fn), 1, 8, [Go.Value.nilFunc]⟩,
  ⟨.fn, (.sc .fn), 1, 8, [Go.Value.nilFunc]⟩,
  ⟨.ptr 125, (.sc .ptr), 1, 8, [(Go.Value.pointer Option.none)]⟩,
  ⟨.other, (.sc .any), 1, 0, [(Go.Value.tuple #[(Go.Value.int Go.IntKind.i64 0), (Go.Value.int Go.IntKind.i64 0)])]⟩,
  ⟨.fn, (.sc .fn), 1, 8, [Go.Value.nilFunc]⟩,
  ⟨.fn, (.sc .fn), 1, 8, [Go.Value.nilFunc]⟩,
  ⟨.struct [(0, 17), (1, 17), (2, 17), (3, 9)], (.agg [.ptr, .ptr, .ptr, .str]), 4, 40, [(Go.Value.pointer Option.none), (Go.Value.pointer Option.none), (Go.Value.pointer Option.none), (Go.Value.string (ByteArray.mk #[]))]⟩,
  ⟨.struct [(0, 17), (1, 17), (2, 17), (3, 9)], (.agg [.ptr, .ptr, .ptr, .str]), 4, 40, [(Go.Value.pointer Option.none), (Go.Value.pointer Option.none), (Go.Value.pointer Option.none), (Go.Value.string (ByteArray.mk #[]))]⟩,
  ⟨.array 0 16, (.arr .ptr), 0, 0, []⟩,
  ⟨.struct [(0, 138)], (.agg []), 0, 0, []⟩,
  ⟨.struct [(0, 138)], (.agg []), 0, 0, []⟩,
  ⟨.int .u8, (.sc (.int .u8)), 1, 1, [(Go.Value.int Go.IntKind.u8 0)]⟩,
  ⟨.int .u8, (.sc (.int .u8)), 1, 1, [(Go.Value.int Go.IntKind.u8 0)]⟩,
  ⟨.fn, (.sc .fn), 1, 8, [Go.Value.nilFunc]⟩,
  ⟨.ptr 5, (.sc .ptr), 1, 8, [(Go.Value.pointer Option.none)]⟩,
  ⟨.int .i32, (.sc (.int .i32)), 1, 4, [(Go.Value.int Go.IntKind.i32 0)]⟩,
  ⟨.int .i32, (.sc (.int .i32)), 1, 4, [(Go.Value.int Go.IntKind.i32 0)]⟩,
  ⟨.struct [(0, 12), (1, 12), (2, 32), (3, 141), (4, 5), (5, 5), (6, 142), (7, 143), (8, 144), (9, 145), (10, 146)], (.agg [(.int .u64), (.int .u64), (.int .u32), (.int .u8), (.int .u8), (.int .u8), (.int .u8), .fn, .ptr, (.int .i32), (.int .i32)]), 11, 48, [(Go.Value.int Go.IntKind.u64 0), (Go.Value.int Go.IntKind.u64 0), (Go.Value.int Go.IntKind.u32 0), (Go.Value.int Go.IntKind.u8 0), (Go.Value.int Go.IntKind.u8 0), (Go.Value.int Go.IntKind.u8 0), (Go.Value.int Go.IntKind.u8 0), Go.Value.nilFunc, (Go.Value.pointer Option.none), (Go.Value.int Go.IntKind.i32 0), (Go.Value.int Go.IntKind.i32 0)]⟩,
  ⟨.struct [(0, 12), (1, 12), (2, 32), (3, 141), (4, 5), (5, 5), (6, 142), (7, 143), (8, 144), (9, 145), (10, 146)], (.agg [(.int .u64), (.int .u64), (.int .u32), (.int .u8), (.int .u8), (.int .u8), (.int .u8), .fn, .ptr, (.int .i32), (.int .i32)]), 11, 48, [(Go.Value.int Go.IntKind.u64 0), (Go.Value.int Go.IntKind.u64 0), (Go.Value.int Go.IntKind.u32 0), (Go.Value.int Go.IntKind.u8 0), (Go.Value.int Go.IntKind.u8 0), (Go.Value.int Go.IntKind.u8 0), (Go.Value.int Go.IntKind.u8 0), Go.Value.nilFunc, (Go.Value.pointer Option.none), (Go.Value.int Go.IntKind.i32 0), (Go.Value.int Go.IntKind.i32 0)]⟩,
  ⟨.other, (.sc .any), 1, 8, [(Go.Value.pointer Option.none)]⟩]
noncomputable def C : Ctx := { P := Try.prog, T := tbl, tup := [(0, []), (30, [(.sc .slc), (.sc .bool), (.sc (.int .i64))]), (38, [(.sc .slc), (.sc (.int .i64))]), (74, [(.sc .slc), (.sc .bool)]), (119, [(.sc (.int .i64)), (.sc (.int .i64))]), (123, [(.sc (.int .i64)), (.sc .bool)]), (133, [(.sc (.int .i64)), (.sc (.int .i64))])], fns := [false, false, true, true, true, true, true, true, true, true, true, true, true, true, true, true, true, true, true, true, true, true, true, true, true, true, true, true, true, true, true, true, true, true, true, true, true, true, true, true, true, true, true, true, true, true, true, true, true, true, true, true, true, true, true, true, true, true, true, true, true, true, true, true, true, true, true, true, true, true, true, true, true, true, true, true, true, true, true, true, true, true, true, true, true, true, true, true, true, true, true, true, true, true, true, true, true, true, true, false, false, false, false, false, false, false, false, false, false, false, false, false, false, false, false] }
theorem C_tbl : (List.range C.T.length).map (Tbl.seen C.P) = C.T.map Tbl.told := by kernel_rfl
theorem C_mixed : C.P.follows .mixedOrders = true := by kernel_rfl
theorem C_fns : (C.P.funcs.toList.map fun f => !(f.name == "runtime.NumGoroutine") && f.body.isSome) = C.fns := by kernel_rfl
theorem C_ok : C.Ok := { tbl := C_tbl, mixed := C_mixed, fns := C_fns }
abbrev slices_Sort_int_int_id : FuncId := 77
abbrev math_bits_Len_id : FuncId := 79
abbrev slices_pdqsortOrdered_int_id : FuncId := 80
abbrev math_bits_Len32_id : FuncId := 81
abbrev math_bits_Len64_id : FuncId := 82
abbrev slices_insertionSortOrdered_int_id : FuncId := 83
abbrev slices_heapSortOrdered_int_id : FuncId := 84
abbrev slices_breakPatternsOrdered_int_id : FuncId := 85
abbrev slices_choosePivotOrdered_int_id : FuncId := 86
abbrev slices_reverseRangeOrdered_int_id : FuncId := 87
abbrev slices_partialInsertionSortOrdered_int_id : FuncId := 88
abbrev cmp_Less_int_id : FuncId := 89
abbrev slices_partitionEqualOrdered_int_id : FuncId := 90
abbrev slices_partitionOrdered_int_id : FuncId := 91
abbrev slices_siftDownOrdered_int_id : FuncId := 92
abbrev slices_nextPowerOfTwo_id : FuncId := 93
abbrev slices_xorshift_Next_id : FuncId := 94
abbrev slices_medianAdjacentOrdered_int_id : FuncId := 95
abbrev slices_medianOrdered_int_id : FuncId := 96
abbrev cmp_isNaN_int_id : FuncId := 97
abbrev slices_order2Ordered_int_id : FuncId := 98
/-- wellspring/wellspringlaw27.MarginErrors -/
abbrev wellspringlaw27_MarginErrors_id : FuncId := 3
noncomputable def wellspringlaw27_MarginErrors_m (a_0 : Int) (b_1 : Int) (c_2 : Int) (seed_3 : Int) (n_4 : Int) (R : Value → Heap → Prop) (h : Heap) : Prop :=
  CallM Try.prog 6 #[(.int .i64 a_0), (.int .i64 b_1), (.int .i64 c_2)] (.one (.agg [(.int .i64), (.int .i64), (.int .i64)])) h fun r1 h1 =>
  RunsA Try.prog (Instr.alloc 24 true (.tuple #[])) h1 fun a2 h2 =>
  Runs Try.prog (Instr.storeAt 24 (.pointer (some a2)) (.agg #[(.int .i64 r1.1), (.int .i64 r1.2.1), (.int .i64 r1.2.2)])) h2 fun _ h3 =>
  CallM Try.prog 7 #[(.int .i64 n_4), (.int .i64 (5 : Int))] (.one (.sc (.int .i64))) h3 fun r3 h4 =>
  RunsR Try.prog (Instr.makeSlice 26 (.int .i64 (IntKind.wrap .i64 ((60 : Int) + r3))) (.int .i64 (IntKind.wrap .i64 ((60 : Int) + r3)))) (.one (.sc .slc)) h4 fun v4 h5 =>
  ∃ x5 : Int × Int × Int, cellsAt h5 a2 0 [(.int .i64 x5.1), (.int .i64 x5.2.1), (.int .i64 x5.2.2)] ∧
  CallM Try.prog 8 #[(.agg #[(.int .i64 x5.1), (.int .i64 x5.2.1), (.int .i64 x5.2.2)]), (.int .u32 (IntKind.wrap .u32 seed_3)), (.slice v4.ptr v4.len v4.cap), (.int .i64 (4 : Int))] (.many [(.sc .slc), (.sc .bool), (.sc (.int .i64))]) h5 fun r6 h6 =>
  CallM Try.prog 8 #[(.agg #[(.int .i64 (0 : Int)), (.int .i64 (0 : Int)), (.int .i64 (0 : Int))]), (.int .u32 (IntKind.wrap .u32 seed_3)), (.slice v4.ptr v4.len v4.cap), (.int .i64 (4 : Int))] (.many [(.sc .slc), (.sc .bool), (.sc (.int .i64))]) h6 fun r7 h7 =>
  ∃ x8 : Int × Int × Int, cellsAt h7 a2 0 [(.int .i64 x8.1), (.int .i64 x8.2.1), (.int .i64 x8.2.2)] ∧
  CallM Try.prog 8 #[(.agg #[(.int .i64 x8.1), (.int .i64 x8.2.1), (.int .i64 x8.2.2)]), (.int .u32 (IntKind.wrap .u32 seed_3)), (.slice v4.ptr v4.len v4.cap), (.int .i64 (100 : Int))] (.many [(.sc .slc), (.sc .bool), (.sc (.int .i64))]) h7 fun r9 h8 =>
  JoinM (σ := Int) (fun s13 h11 =>
  Br (r6.2.2 == (13 : Int)) (Br (r7.2.2 == (1 : Int)) (Br (r9.2.2 == (1 : Int)) (Br (s13 == (1 : Int)) (∃ x14 : Int × Int × Int, cellsAt h11 a2 0 [(.int .i64 x14.1), (.int .i64 x14.2.1), (.int .i64 x14.2.2)] ∧
  ∃ x15 : Int, cellOf h11 (a2.add 1) = some (.int .i64 x15) ∧
  CallM Try.prog 9 #[(.agg #[(.int .i64 x14.1), (.int .i64 x14.2.1), (.int .i64 x14.2.2)]), (.int .u32 (IntKind.wrap .u32 seed_3)), (.slice v4.ptr v4.len v4.cap), (.slice none 0 0)] (.one (.sc (.int .i64))) h11 fun r16 h12 =>
  (Held.ok [(a2.add 1, (.int .i64 x15))] h12) ∧
  Br (r16 == x15) (CallM Try.prog 10 #[] (.one (.sc .bool)) h12 fun r17 h13 =>
  (Held.ok [(a2.add 1, (.int .i64 x15))] h13) ∧
  R (.bool r17) h13) ((Held.ok [(a2.add 1, (.int .i64 x15))] h12) ∧
  R (.bool false) h12)) ((Held.ok [] h11) ∧
  (Held.ok [] h11) ∧
  R (.bool false) h11)) ((Held.ok [] h11) ∧
  (Held.ok [] h11) ∧
  R (.bool false) h11)) ((Held.ok [] h11) ∧
  (Held.ok [] h11) ∧
  R (.bool false) h11)) ((Held.ok [] h11) ∧
  (Held.ok [] h11) ∧
  R (.bool false) h11))
  (fun K1 =>
  ∃ x10 : Int × Int × Int, cellsAt h8 a2 0 [(.int .i64 x10.1), (.int .i64 x10.2.1), (.int .i64 x10.2.2)] ∧
  RunsR Try.prog (Instr.makeSlice 26 (.int .i64 (65 : Int)) (.int .i64 (65 : Int))) (.one (.sc .slc)) h8 fun v11 h9 =>
  (Held.ok [(a2, (.int .i64 x10.1)), (a2.add 1, (.int .i64 x10.2.1)), (a2.add 2, (.int .i64 x10.2.2))] h9) ∧
  CallM Try.prog 8 #[(.agg #[(.int .i64 x10.1), (.int .i64 x10.2.1), (.int .i64 x10.2.2)]), (.int .u32 (IntKind.wrap .u32 seed_3)), (.slice v11.ptr v11.len v11.cap), (.int .i64 (1 : Int))] (.many [(.sc .slc), (.sc .bool), (.sc (.int .i64))]) h9 fun r12 h10 =>
  (Held.ok [] h10) ∧
  K1 r12.2.2 h10)
noncomputable def wellspringlaw27_MarginErrors_ann : Ann := (.two .n (.two .n (.two .n (.two .n (.two .n (.two .n (.two (.join [(24, (.sc (.int .i64)))] [(22, 25), (60, 69)] .n) .n)))))))
theorem wellspringlaw27_MarginErrors_eq (a_0 : Int) (b_1 : Int) (c_2 : Int) (seed_3 : Int) (n_4 : Int) (R : Value → Heap → Prop) (h : Heap) : fnV C Try.f3 300 wellspringlaw27_MarginErrors_ann [(.int .i64 a_0), (.int .i64 b_1), (.int .i64 c_2), (.int .u64 seed_3), (.int .i64 n_4)] R h = wellspringlaw27_MarginErrors_m a_0 b_1 c_2 seed_3 n_4 R h := by kernel_rfl
theorem wellspringlaw27_MarginErrors_run (a_0 : Int) (b_1 : Int) (c_2 : Int) (seed_3 : Int) (n_4 : Int) {R : Value → Heap → Prop} {h : Heap} (hm : wellspringlaw27_MarginErrors_m a_0 b_1 c_2 seed_3 n_4 R h) : Meets Try.prog 3 #[(.int .i64 a_0), (.int .i64 b_1), (.int .i64 c_2), (.int .u64 seed_3), (.int .i64 n_4)] h R :=
  fn_spec C_ok (f := 3) (fn := Try.f3) (args := [(.int .i64 a_0), (.int .i64 b_1), (.int .i64 c_2), (.int .u64 seed_3), (.int .i64 n_4)]) Try.func3 (by rw [Try.ntmps3]; exact Nat.le_of_ble_eq_true rfl) (cast (wellspringlaw27_MarginErrors_eq a_0 b_1 c_2 seed_3 n_4 R h).symm hm)
/-- wellspring/wellspringlaw27.MarginFirst -/
abbrev wellspringlaw27_MarginFirst_id : FuncId := 4
noncomputable def wellspringlaw27_MarginFirst_m (a_0 : Int) (b_1 : Int) (c_2 : Int) (seed_3 : Int) (l_4 : Sl) (n_5 : Int) (t_6 : Int) (R : Value → Heap → Prop) (h : Heap) : Prop :=
  CallM Try.prog 6 #[(.int .i64 a_0), (.int .i64 b_1), (.int .i64 c_2)] (.one (.agg [(.int .i64), (.int .i64), (.int .i64)])) h fun r1 h1 =>
  RunsA Try.prog (Instr.alloc 24 true (.tuple #[])) h1 fun a2 h2 =>
  Runs Try.prog (Instr.storeAt 24 (.pointer (some a2)) (.agg #[(.int .i64 r1.1), (.int .i64 r1.2.1), (.int .i64 r1.2.2)])) h2 fun _ h3 =>
  ∃ x3 : Int × Int × Int, cellsAt h3 a2 0 [(.int .i64 x3.1), (.int .i64 x3.2.1), (.int .i64 x3.2.2)] ∧
  CallM Try.prog 11 #[(.agg #[(.int .i64 x3.1), (.int .i64 x3.2.1), (.int .i64 x3.2.2)]), (.int .u64 seed_3)] (.one (.sc (.int .u32))) h3 fun r4 h4 =>
  CallM Try.prog 7 #[(.int .i64 n_5), (.int .i64 (5 : Int))] (.one (.sc (.int .i64))) h4 fun r5 h5 =>
  CallM Try.prog 7 #[(.int .i64 t_6), (.int .i64 (IntKind.wrap .i64 ((IntKind.wrap .i64 ((1 : Int) + r5)) + (1 : Int))))] (.one (.sc (.int .i64))) h5 fun r6 h6 =>
  CallM Try.prog 12 #[(.slice l_4.ptr l_4.len l_4.cap), (.int .i64 (IntKind.wrap .i64 ((1 : Int) + r5)))] (.one (.sc .slc)) h6 fun r7 h7 =>
  ∃ x8 : Int × Int × Int, cellsAt h7 a2 0 [(.int .i64 x8.1), (.int .i64 x8.2.1), (.int .i64 x8.2.2)] ∧
  CallM Try.prog 8 #[(.agg #[(.int .i64 x8.1), (.int .i64 x8.2.1), (.int .i64 x8.2.2)]), (.int .u32 r4), (.slice r7.ptr r7.len r7.cap), (.int .i64 r6)] (.many [(.sc .slc), (.sc .bool), (.sc (.int .i64))]) h7 fun r9 h8 =>
  CallM Try.prog 13 #[(.int .i64 (IntKind.wrap .i64 ((1 : Int) + r5))), (.int .i64 r6)] (.many [(.sc .slc), (.sc (.int .i64))]) h8 fun r10 h9 =>
  JoinM (σ := Unit) (fun _ h10 =>
  LoopM (σ := Int) (fun s12 K2 h11 =>
  Br (decide (s12 < ((r10.1.len : Nat) : Int)))
  (∃ a13 : Addr, (r10.1.ptr = some a13 ∧ 0 ≤ s12 ∧ s12 < ((r10.1.len : Nat) : Int)) ∧
  ∃ x14 : Sl, cellOf h11 (a13.add (s12.toNat * 1)) = some (.slice x14.ptr x14.len x14.cap) ∧
  LoopM (σ := Sl × Int) (fun s15 K3 h12 =>
  Br (decide (s15.2 < ((r7.len : Nat) : Int)))
  (CallM Try.prog 14 #[(.slice x14.ptr x14.len x14.cap), (.int .i64 s15.2)] (.one (.sc .bool)) h12 fun r16 h13 =>
  Br (!r16)
  (∃ a17 : Addr, (r7.ptr = some a17 ∧ 0 ≤ s15.2 ∧ s15.2 < ((r7.len : Nat) : Int)) ∧
  ∃ x18 : Sl, cellOf h13 (a17.add (s15.2.toNat * 1)) = some (.slice x18.ptr x18.len x18.cap) ∧
  RunsR Try.prog (Builtin.append_ #[28, 28] 28 #[(.slice s15.1.ptr s15.1.len s15.1.cap), (.slice x18.ptr x18.len x18.cap)]) (.one (.sc .slc)) h13 fun v19 h14 =>
  K3 ((⟨v19.ptr, v19.len, v19.cap⟩ : Sl), IntKind.wrap .i64 (s15.2 + (1 : Int))) h14)
  (K3 ((⟨s15.1.ptr, s15.1.len, s15.1.cap⟩ : Sl), IntKind.wrap .i64 (s15.2 + (1 : Int))) h13))
  (∃ x20 : Int × Int × Int, cellsAt h12 a2 0 [(.int .i64 x20.1), (.int .i64 x20.2.1), (.int .i64 x20.2.2)] ∧
  CallM Try.prog 15 #[(.agg #[(.int .i64 x20.1), (.int .i64 x20.2.1), (.int .i64 x20.2.2)]), (.int .u32 r4), (.slice s15.1.ptr s15.1.len s15.1.cap)] (.one (.sc .bool)) h12 fun r21 h15 =>
  JoinM (σ := Unit) (fun _ h18 =>
  Br (!r21)
  (R (.bool false) h18)
  (K2 (IntKind.wrap .i64 (s12 + (1 : Int))) h18))
  (fun K4 =>
  Br r9.2.1 (CallM Try.prog 16 #[(.slice x14.ptr x14.len x14.cap), (.slice r9.1.ptr r9.1.len r9.1.cap)] (.one (.sc .bool)) h15 fun r22 h16 =>
  Br r22
  (Br (!r21) (CallM Try.prog 10 #[] (.one (.sc .bool)) h16 fun r23 h17 =>
  R (.bool r23) h17) (R (.bool false) h16))
  (K4 () h16)) (K4 () h15)))) ((⟨none, 0, 0⟩ : Sl), (0 : Int)) h11)
  (Br (!r9.2.1) (Br (((r9.1.len : Nat) : Int) == (0 : Int)) (CallM Try.prog 10 #[] (.one (.sc .bool)) h11 fun r25 h19 =>
  R (.bool r25) h19) (R (.bool false) h11)) (R (.bool false) h11))) (0 : Int) h10)
  (fun K1 =>
  Br (r9.2.2 != (0 : Int)) (R (.bool false) h9) (Br (r10.2 != (0 : Int))
  (R (.bool false) h9)
  (K1 () h9)))
noncomputable def wellspringlaw27_MarginFirst_ann : Ann := (.two .n (.two .n (.two .n (.two .n (.two .n (.two .n (.two .n (.two .n (.two (.join [] [(14, 15), (60, 66)] .n) (.two (.two .n (.inn (.loop [(68, (.sc (.int .i64)))] [(14, 15), (24, 28), (68, 106)] (.two .n (.two .n (.two (.inn (.two .n (.two .n (.two (.two .n (.inn (.loop [(25, (.sc .slc)), (74, (.sc (.int .i64)))] [(25, 27), (74, 88)] .n))) (.two .n (.two (.join [] [(14, 15), (92, 103)] .n) .n)))))) .n)))))) .n))))))))))
theorem wellspringlaw27_MarginFirst_eq (a_0 : Int) (b_1 : Int) (c_2 : Int) (seed_3 : Int) (l_4 : Sl) (n_5 : Int) (t_6 : Int) (R : Value → Heap → Prop) (h : Heap) : fnV C Try.f4 300 wellspringlaw27_MarginFirst_ann [(.int .i64 a_0), (.int .i64 b_1), (.int .i64 c_2), (.int .u64 seed_3), (.slice l_4.ptr l_4.len l_4.cap), (.int .i64 n_5), (.int .i64 t_6)] R h = wellspringlaw27_MarginFirst_m a_0 b_1 c_2 seed_3 l_4 n_5 t_6 R h := by kernel_rfl
theorem wellspringlaw27_MarginFirst_run (a_0 : Int) (b_1 : Int) (c_2 : Int) (seed_3 : Int) (l_4 : Sl) (n_5 : Int) (t_6 : Int) {R : Value → Heap → Prop} {h : Heap} (hm : wellspringlaw27_MarginFirst_m a_0 b_1 c_2 seed_3 l_4 n_5 t_6 R h) : Meets Try.prog 4 #[(.int .i64 a_0), (.int .i64 b_1), (.int .i64 c_2), (.int .u64 seed_3), (.slice l_4.ptr l_4.len l_4.cap), (.int .i64 n_5), (.int .i64 t_6)] h R :=
  fn_spec C_ok (f := 4) (fn := Try.f4) (args := [(.int .i64 a_0), (.int .i64 b_1), (.int .i64 c_2), (.int .u64 seed_3), (.slice l_4.ptr l_4.len l_4.cap), (.int .i64 n_5), (.int .i64 t_6)]) Try.func4 (by rw [Try.ntmps4]; exact Nat.le_of_ble_eq_true rfl) (cast (wellspringlaw27_MarginFirst_eq a_0 b_1 c_2 seed_3 l_4 n_5 t_6 R h).symm hm)
/-- wellspring/wellspringlaw27.MarginMore -/
abbrev wellspringlaw27_MarginMore_id : FuncId := 5
noncomputable def wellspringlaw27_MarginMore_m (a_0 : Int) (b_1 : Int) (c_2 : Int) (seed_3 : Int) (l_4 : Sl) (n_5 : Int) (t_6 : Int) (id_7 : Int) (R : Value → Heap → Prop) (h : Heap) : Prop :=
  CallM Try.prog 6 #[(.int .i64 a_0), (.int .i64 b_1), (.int .i64 c_2)] (.one (.agg [(.int .i64), (.int .i64), (.int .i64)])) h fun r1 h1 =>
  RunsA Try.prog (Instr.alloc 24 true (.tuple #[])) h1 fun a2 h2 =>
  Runs Try.prog (Instr.storeAt 24 (.pointer (some a2)) (.agg #[(.int .i64 r1.1), (.int .i64 r1.2.1), (.int .i64 r1.2.2)])) h2 fun _ h3 =>
  ∃ x3 : Int × Int × Int, cellsAt h3 a2 0 [(.int .i64 x3.1), (.int .i64 x3.2.1), (.int .i64 x3.2.2)] ∧
  CallM Try.prog 11 #[(.agg #[(.int .i64 x3.1), (.int .i64 x3.2.1), (.int .i64 x3.2.2)]), (.int .u64 seed_3)] (.one (.sc (.int .u32))) h3 fun r4 h4 =>
  CallM Try.prog 7 #[(.int .i64 n_5), (.int .i64 (5 : Int))] (.one (.sc (.int .i64))) h4 fun r5 h5 =>
  CallM Try.prog 7 #[(.int .i64 t_6), (.int .i64 (IntKind.wrap .i64 ((1 : Int) + r5)))] (.one (.sc (.int .i64))) h5 fun r6 h6 =>
  CallM Try.prog 12 #[(.slice l_4.ptr l_4.len l_4.cap), (.int .i64 (IntKind.wrap .i64 ((1 : Int) + r5)))] (.one (.sc .slc)) h6 fun r7 h7 =>
  ∃ x8 : Int × Int × Int, cellsAt h7 a2 0 [(.int .i64 x8.1), (.int .i64 x8.2.1), (.int .i64 x8.2.2)] ∧
  CallM Try.prog 8 #[(.agg #[(.int .i64 x8.1), (.int .i64 x8.2.1), (.int .i64 x8.2.2)]), (.int .u32 r4), (.slice r7.ptr r7.len r7.cap), (.int .i64 r6)] (.many [(.sc .slc), (.sc .bool), (.sc (.int .i64))]) h7 fun r9 h8 =>
  Br (r9.2.2 != (0 : Int))
  (R (.bool false) h8)
  (CallM Try.prog 17 #[(.slice r7.ptr r7.len r7.cap)] (.one (.sc .slc)) h8 fun r10 h9 =>
  LoopM (σ := Int) (fun s11 K1 h10 =>
  Br (decide (s11 < ((r10.len : Nat) : Int)))
  (∃ a12 : Addr, (r10.ptr = some a12 ∧ 0 ≤ s11 ∧ s11 < ((r10.len : Nat) : Int)) ∧
  ∃ x13 : Sl, cellOf h10 (a12.add (s11.toNat * 1)) = some (.slice x13.ptr x13.len x13.cap) ∧
  CallM Try.prog 7 #[(.int .i64 (IntKind.wrap .i64 (id_7 + s11))), (.int .i64 (40 : Int))] (.one (.sc (.int .i64))) h10 fun r14 h11 =>
  (Held.ok [(a12.add (s11.toNat * 1), (.slice x13.ptr x13.len x13.cap))] h11) ∧
  RunsR Try.prog (Instr.buildSlice 28 1 #[(0, (.int .i64 r14))]) (.one (.sc .slc)) h11 fun v15 h12 =>
  (Held.ok [(a12.add (s11.toNat * 1), (.slice x13.ptr x13.len x13.cap))] h12) ∧
  RunsR Try.prog (Builtin.append_ #[28, 28] 28 #[(.slice x13.ptr x13.len x13.cap), (.slice v15.ptr v15.len v15.cap)]) (.one (.sc .slc)) h12 fun v16 h13 =>
  (Held.ok [] h13) ∧
  ∃ a17 : Addr, (r10.ptr = some a17 ∧ 0 ≤ s11 ∧ s11 < ((r10.len : Nat) : Int)) ∧
  Runs Try.prog (Instr.storeAt 28 (.pointer (some (a17.add (s11.toNat * 1)))) (.slice v16.ptr v16.len v16.cap)) h13 fun _ h14 =>
  (Held.ok [] h14) ∧
  K1 (IntKind.wrap .i64 (s11 + (1 : Int))) h14)
  (Br r9.2.1
  (Br (((r9.1.len : Nat) : Int) == r6) (∃ x18 : Int × Int × Int, cellsAt h10 a2 0 [(.int .i64 x18.1), (.int .i64 x18.2.1), (.int .i64 x18.2.2)] ∧
  ∃ x19 : Int × Int × Int, cellsAt h10 a2 0 [(.int .i64 x19.1), (.int .i64 x19.2.1), (.int .i64 x19.2.2)] ∧
  CallM Try.prog 9 #[(.agg #[(.int .i64 x18.1), (.int .i64 x18.2.1), (.int .i64 x18.2.2)]), (.int .u32 r4), (.slice r7.ptr r7.len r7.cap), (.slice r9.1.ptr r9.1.len r9.1.cap)] (.one (.sc (.int .i64))) h10 fun r20 h15 =>
  (Held.ok [(a2, (.int .i64 x19.1)), (a2.add 1, (.int .i64 x19.2.1)), (a2.add 2, (.int .i64 x19.2.2))] h15) ∧
  CallM Try.prog 18 #[(.agg #[(.int .i64 x19.1), (.int .i64 x19.2.1), (.int .i64 x19.2.2)])] (.one (.sc (.int .i64))) h15 fun r21 h16 =>
  (Held.ok [] h16) ∧
  Br (decide (r20 < r21)) (∃ x22 : Int × Int × Int, cellsAt h16 a2 0 [(.int .i64 x22.1), (.int .i64 x22.2.1), (.int .i64 x22.2.2)] ∧
  ∃ x23 : Int × Int × Int, cellsAt h16 a2 0 [(.int .i64 x23.1), (.int .i64 x23.2.1), (.int .i64 x23.2.2)] ∧
  CallM Try.prog 9 #[(.agg #[(.int .i64 x22.1), (.int .i64 x22.2.1), (.int .i64 x22.2.2)]), (.int .u32 r4), (.slice r10.ptr r10.len r10.cap), (.slice r9.1.ptr r9.1.len r9.1.cap)] (.one (.sc (.int .i64))) h16 fun r24 h17 =>
  (Held.ok [(a2, (.int .i64 x23.1)), (a2.add 1, (.int .i64 x23.2.1)), (a2.add 2, (.int .i64 x23.2.2))] h17) ∧
  CallM Try.prog 9 #[(.agg #[(.int .i64 x23.1), (.int .i64 x23.2.1), (.int .i64 x23.2.2)]), (.int .u32 r4), (.slice r7.ptr r7.len r7.cap), (.slice r9.1.ptr r9.1.len r9.1.cap)] (.one (.sc (.int .i64))) h17 fun r25 h18 =>
  (Held.ok [] h18) ∧
  Br (decide (r24 ≥ r25)) (CallM Try.prog 10 #[] (.one (.sc .bool)) h18 fun r26 h19 =>
  (Held.ok [] h19) ∧
  R (.bool r26) h19) ((Held.ok [] h18) ∧
  R (.bool false) h18)) ((Held.ok [] h16) ∧
  (Held.ok [] h16) ∧
  (Held.ok [] h16) ∧
  R (.bool false) h16)) ((Held.ok [] h10) ∧
  (Held.ok [] h10) ∧
  (Held.ok [] h10) ∧
  (Held.ok [] h10) ∧
  (Held.ok [] h10) ∧
  R (.bool false) h10))
  (∃ x27 : Int × Int × Int, cellsAt h10 a2 0 [(.int .i64 x27.1), (.int .i64 x27.2.1), (.int .i64 x27.2.2)] ∧
  CallM Try.prog 8 #[(.agg #[(.int .i64 x27.1), (.int .i64 x27.2.1), (.int .i64 x27.2.2)]), (.int .u32 r4), (.slice r10.ptr r10.len r10.cap), (.int .i64 r6)] (.many [(.sc .slc), (.sc .bool), (.sc (.int .i64))]) h10 fun r28 h20 =>
  JoinM (σ := Unit) (fun _ h21 =>
  LoopM (σ := Int) (fun s30 K3 h22 =>
  Br (decide (s30 < r6))
  (∃ x31 : Int × Int × Int, cellsAt h22 a2 0 [(.int .i64 x31.1), (.int .i64 x31.2.1), (.int .i64 x31.2.2)] ∧
  CallM Try.prog 8 #[(.agg #[(.int .i64 x31.1), (.int .i64 x31.2.1), (.int .i64 x31.2.2)]), (.int .u32 r4), (.slice r7.ptr r7.len r7.cap), (.int .i64 s30)] (.many [(.sc .slc), (.sc .bool), (.sc (.int .i64))]) h22 fun r32 h23 =>
  Br r32.2.1 (R (.bool false) h23) (Br (r32.2.2 != (0 : Int))
  (R (.bool false) h23)
  (K3 (IntKind.wrap .i64 (s30 + (1 : Int))) h23)))
  (CallM Try.prog 10 #[] (.one (.sc .bool)) h22 fun r33 h24 =>
  R (.bool r33) h24)) (0 : Int) h21)
  (fun K2 =>
  Br r28.2.1 (R (.bool false) h20) (Br (r28.2.2 != (0 : Int))
  (R (.bool false) h20)
  (K2 () h20)))))) (0 : Int) h9)
noncomputable def wellspringlaw27_MarginMore_ann : Ann := (.two .n (.two .n (.two .n (.two .n (.two .n (.two .n (.two .n (.two .n (.two .n (.two (.two .n (.inn (.loop [(63, (.sc (.int .i64)))] [(24, 25), (63, 80)] .n))) (.two .n (.two .n (.two (.join [] [(16, 17), (120, 125)] .n) (.two (.two .n (.inn (.loop [(28, (.sc (.int .i64)))] [(16, 17), (28, 32), (125, 144)] .n))) .n))))))))))))))
theorem wellspringlaw27_MarginMore_eq (a_0 : Int) (b_1 : Int) (c_2 : Int) (seed_3 : Int) (l_4 : Sl) (n_5 : Int) (t_6 : Int) (id_7 : Int) (R : Value → Heap → Prop) (h : Heap) : fnV C Try.f5 300 wellspringlaw27_MarginMore_ann [(.int .i64 a_0), (.int .i64 b_1), (.int .i64 c_2), (.int .u64 seed_3), (.slice l_4.ptr l_4.len l_4.cap), (.int .i64 n_5), (.int .i64 t_6), (.int .i64 id_7)] R h = wellspringlaw27_MarginMore_m a_0 b_1 c_2 seed_3 l_4 n_5 t_6 id_7 R h := by kernel_rfl
theorem wellspringlaw27_MarginMore_run (a_0 : Int) (b_1 : Int) (c_2 : Int) (seed_3 : Int) (l_4 : Sl) (n_5 : Int) (t_6 : Int) (id_7 : Int) {R : Value → Heap → Prop} {h : Heap} (hm : wellspringlaw27_MarginMore_m a_0 b_1 c_2 seed_3 l_4 n_5 t_6 id_7 R h) : Meets Try.prog 5 #[(.int .i64 a_0), (.int .i64 b_1), (.int .i64 c_2), (.int .u64 seed_3), (.slice l_4.ptr l_4.len l_4.cap), (.int .i64 n_5), (.int .i64 t_6), (.int .i64 id_7)] h R :=
  fn_spec C_ok (f := 5) (fn := Try.f5) (args := [(.int .i64 a_0), (.int .i64 b_1), (.int .i64 c_2), (.int .u64 seed_3), (.slice l_4.ptr l_4.len l_4.cap), (.int .i64 n_5), (.int .i64 t_6), (.int .i64 id_7)]) Try.func5 (by rw [Try.ntmps5]; exact Nat.le_of_ble_eq_true rfl) (cast (wellspringlaw27_MarginMore_eq a_0 b_1 c_2 seed_3 l_4 n_5 t_6 id_7 R h).symm hm)
/-- wellspring/wellspringplay.Small -/
abbrev wellspringplay_Small_id : FuncId := 6
noncomputable def wellspringplay_Small_m (a_0 : Int) (b_1 : Int) (c_2 : Int) (R : Value → Heap → Prop) (h : Heap) : Prop :=
  RunsA Try.prog (Instr.alloc 24 true (.tuple #[])) h fun a1 h1 =>
  CallM Try.prog 7 #[(.int .i64 a_0), (.int .i64 (6 : Int))] (.one (.sc (.int .i64))) h1 fun r2 h2 =>
  CallM Try.prog 7 #[(.int .i64 b_1), (.int .i64 (3 : Int))] (.one (.sc (.int .i64))) h2 fun r3 h3 =>
  CallM Try.prog 7 #[(.int .i64 c_2), (.int .i64 (9 : Int))] (.one (.sc (.int .i64))) h3 fun r4 h4 =>
  Runs Try.prog (Instr.storeAt 24 (.pointer (some a1)) (.agg #[(.int .i64 (IntKind.wrap .i64 ((1 : Int) + r2))), (.int .i64 (IntKind.wrap .i64 ((1 : Int) + r3))), (.int .i64 (IntKind.wrap .i64 ((1 : Int) + r4)))])) h4 fun _ h5 =>
  ∃ res5 : Int × Int × Int, cellsAt h5 a1 0 [(.int .i64 res5.1), (.int .i64 res5.2.1), (.int .i64 res5.2.2)] ∧
  R (.agg #[(.int .i64 res5.1), (.int .i64 res5.2.1), (.int .i64 res5.2.2)]) h5
noncomputable def wellspringplay_Small_ann : Ann := .n
theorem wellspringplay_Small_eq (a_0 : Int) (b_1 : Int) (c_2 : Int) (R : Value → Heap → Prop) (h : Heap) : fnV C Try.f6 300 wellspringplay_Small_ann [(.int .i64 a_0), (.int .i64 b_1), (.int .i64 c_2)] R h = wellspringplay_Small_m a_0 b_1 c_2 R h := by kernel_rfl
theorem wellspringplay_Small_run (a_0 : Int) (b_1 : Int) (c_2 : Int) {R : Value → Heap → Prop} {h : Heap} (hm : wellspringplay_Small_m a_0 b_1 c_2 R h) : Meets Try.prog 6 #[(.int .i64 a_0), (.int .i64 b_1), (.int .i64 c_2)] h R :=
  fn_spec C_ok (f := 6) (fn := Try.f6) (args := [(.int .i64 a_0), (.int .i64 b_1), (.int .i64 c_2)]) Try.func6 (by rw [Try.ntmps6]; exact Nat.le_of_ble_eq_true rfl) (cast (wellspringplay_Small_eq a_0 b_1 c_2 R h).symm hm)
/-- wellspring/wellspringkeep.Within -/
abbrev wellspringkeep_Within_id : FuncId := 7
noncomputable def wellspringkeep_Within_m (x_0 : Int) (n_1 : Int) (R : Value → Heap → Prop) (h : Heap) : Prop :=
  (n_1 ≠ 0) ∧
  JoinM (σ := Int) (fun s1 h1 =>
  R (.int .i64 s1) h1)
  (fun K1 =>
  Br (decide ((Int.tmod x_0 n_1) < (0 : Int)))
  (K1 (IntKind.wrap .i64 ((Int.tmod x_0 n_1) + n_1)) h)
  (K1 (Int.tmod x_0 n_1) h))
noncomputable def wellspringkeep_Within_ann : Ann := (.two .n (.two .n (.two (.join [(0, (.sc (.int .i64)))] [(0, 1), (8, 13)] .n) .n)))
theorem wellspringkeep_Within_eq (x_0 : Int) (n_1 : Int) (R : Value → Heap → Prop) (h : Heap) : fnV C Try.f7 300 wellspringkeep_Within_ann [(.int .i64 x_0), (.int .i64 n_1)] R h = wellspringkeep_Within_m x_0 n_1 R h := by kernel_rfl
theorem wellspringkeep_Within_run (x_0 : Int) (n_1 : Int) {R : Value → Heap → Prop} {h : Heap} (hm : wellspringkeep_Within_m x_0 n_1 R h) : Meets Try.prog 7 #[(.int .i64 x_0), (.int .i64 n_1)] h R :=
  fn_spec C_ok (f := 7) (fn := Try.f7) (args := [(.int .i64 x_0), (.int .i64 n_1)]) Try.func7 (by rw [Try.ntmps7]; exact Nat.le_of_ble_eq_true rfl) (cast (wellspringkeep_Within_eq x_0 n_1 R h).symm hm)
/-- wellspring/margin.Weak -/
abbrev margin_Weak_id : FuncId := 8
noncomputable def margin_Weak_m (p_0 : Int × Int × Int) (seed_1 : Int) (where_2 : Sl) (t_3 : Int) (R : Value → Heap → Prop) (h : Heap) : Prop :=
  RunsA Try.prog (Instr.box 24 (.agg #[(.int .i64 p_0.1), (.int .i64 p_0.2.1), (.int .i64 p_0.2.2)])) h fun a1 h1 =>
  ∃ x2 : Int × Int × Int, cellsAt h1 a1 0 [(.int .i64 x2.1), (.int .i64 x2.2.1), (.int .i64 x2.2.2)] ∧
  CallM Try.prog 19 #[(.agg #[(.int .i64 x2.1), (.int .i64 x2.2.1), (.int .i64 x2.2.2)])] (.one (.sc .bool)) h1 fun r3 h2 =>
  Br (!r3)
  (R (.tuple #[(.slice none 0 0), (.bool false), (.int .i64 (1 : Int))]) h2)
  (CallM Try.prog 13 #[(.int .i64 ((where_2.len : Nat) : Int)), (.int .i64 t_3)] (.many [(.sc .slc), (.sc (.int .i64))]) h2 fun r4 h3 =>
  Br (r4.2 != (0 : Int))
  (R (.tuple #[(.slice none 0 0), (.bool false), (.int .i64 r4.2)]) h3)
  (∃ x5 : Int × Int × Int, cellsAt h3 a1 0 [(.int .i64 x5.1), (.int .i64 x5.2.1), (.int .i64 x5.2.2)] ∧
  CallM Try.prog 18 #[(.agg #[(.int .i64 x5.1), (.int .i64 x5.2.1), (.int .i64 x5.2.2)])] (.one (.sc (.int .i64))) h3 fun r6 h4 =>
  CallM Try.prog 21 #[] (.one (.sc .ptr)) h4 fun r7 h5 =>
  CallM Try.prog 20 #[(.pointer r7), (.int .i64 r6)] (.one (.sc .ptr)) h5 fun r8 h6 =>
  ∃ x9 : Int × Int × Int, cellsAt h6 a1 0 [(.int .i64 x9.1), (.int .i64 x9.2.1), (.int .i64 x9.2.2)] ∧
  CallM Try.prog 22 #[(.agg #[(.int .i64 x9.1), (.int .i64 x9.2.1), (.int .i64 x9.2.2)])] (.one (.sc .slc)) h6 fun r10 h7 =>
  LoopM (σ := Int) (fun s11 K1 h8 =>
  Br (decide (s11 < ((r10.len : Nat) : Int)))
  (∃ a12 : Addr, (r10.ptr = some a12 ∧ 0 ≤ s11 ∧ s11 < ((r10.len : Nat) : Int)) ∧
  ∃ x13 : Sl, cellOf h8 (a12.add (s11.toNat * 1)) = some (.slice x13.ptr x13.len x13.cap) ∧
  CallM Try.prog 23 #[(.pointer r8), (.slice x13.ptr x13.len x13.cap)] (.one (.sc .bool)) h8 fun _ h9 =>
  K1 (IntKind.wrap .i64 (s11 + (1 : Int))) h9)
  (∃ x15 : Int × Int × Int, cellsAt h8 a1 0 [(.int .i64 x15.1), (.int .i64 x15.2.1), (.int .i64 x15.2.2)] ∧
  CallM Try.prog 24 #[(.agg #[(.int .i64 x15.1), (.int .i64 x15.2.1), (.int .i64 x15.2.2)]), (.int .u32 seed_1), (.slice where_2.ptr where_2.len where_2.cap)] (.one (.sc .slc)) h8 fun r16 h10 =>
  LoopM (σ := Int) (fun s17 K2 h11 =>
  Br (decide (s17 < ((r4.1.len : Nat) : Int)))
  (∃ a18 : Addr, (r4.1.ptr = some a18 ∧ 0 ≤ s17 ∧ s17 < ((r4.1.len : Nat) : Int)) ∧
  ∃ x19 : Sl, cellOf h11 (a18.add (s17.toNat * 1)) = some (.slice x19.ptr x19.len x19.cap) ∧
  CallM Try.prog 25 #[(.pointer r8), (.slice r16.ptr r16.len r16.cap), (.slice x19.ptr x19.len x19.cap), (.int .i64 r6)] (.one (.sc .bool)) h11 fun r20 h12 =>
  Br (!r20)
  (R (.tuple #[(.slice x19.ptr x19.len x19.cap), (.bool true), (.int .i64 (0 : Int))]) h12)
  (K2 (IntKind.wrap .i64 (s17 + (1 : Int))) h12))
  (R (.tuple #[(.slice none 0 0), (.bool false), (.int .i64 (0 : Int))]) h11)) (0 : Int) h10)) (0 : Int) h7))
noncomputable def margin_Weak_ann : Ann := (.two .n (.two .n (.two .n (.two .n (.two .n (.two .n (.two (.two .n (.inn (.loop [(40, (.sc (.int .i64)))] [(15, 16), (40, 48)] .n))) (.two .n (.two (.two .n (.inn (.loop [(54, (.sc (.int .i64)))] [(8, 11), (18, 19), (54, 66)] .n))) .n)))))))))
theorem margin_Weak_eq (p_0 : Int × Int × Int) (seed_1 : Int) (where_2 : Sl) (t_3 : Int) (R : Value → Heap → Prop) (h : Heap) : fnV C Try.f8 300 margin_Weak_ann [(.agg #[(.int .i64 p_0.1), (.int .i64 p_0.2.1), (.int .i64 p_0.2.2)]), (.int .u32 seed_1), (.slice where_2.ptr where_2.len where_2.cap), (.int .i64 t_3)] R h = margin_Weak_m p_0 seed_1 where_2 t_3 R h := by kernel_rfl
theorem margin_Weak_run (p_0 : Int × Int × Int) (seed_1 : Int) (where_2 : Sl) (t_3 : Int) {R : Value → Heap → Prop} {h : Heap} (hm : margin_Weak_m p_0 seed_1 where_2 t_3 R h) : Meets Try.prog 8 #[(.agg #[(.int .i64 p_0.1), (.int .i64 p_0.2.1), (.int .i64 p_0.2.2)]), (.int .u32 seed_1), (.slice where_2.ptr where_2.len where_2.cap), (.int .i64 t_3)] h R :=
  fn_spec C_ok (f := 8) (fn := Try.f8) (args := [(.agg #[(.int .i64 p_0.1), (.int .i64 p_0.2.1), (.int .i64 p_0.2.2)]), (.int .u32 seed_1), (.slice where_2.ptr where_2.len where_2.cap), (.int .i64 t_3)]) Try.func8 (by rw [Try.ntmps8]; exact Nat.le_of_ble_eq_true rfl) (cast (margin_Weak_eq p_0 seed_1 where_2 t_3 R h).symm hm)
/-- wellspring/margin.Rank -/
abbrev margin_Rank_id : FuncId := 9
noncomputable def margin_Rank_m (p_0 : Int × Int × Int) (seed_1 : Int) (where_2 : Sl) (gone_3 : Sl) (R : Value → Heap → Prop) (h : Heap) : Prop :=
  RunsA Try.prog (Instr.box 24 (.agg #[(.int .i64 p_0.1), (.int .i64 p_0.2.1), (.int .i64 p_0.2.2)])) h fun a1 h1 =>
  LoopM (σ := Sl × Int) (fun s2 K1 h2 =>
  Br (decide (s2.2 < ((where_2.len : Nat) : Int)))
  (∃ a3 : Addr, (where_2.ptr = some a3 ∧ 0 ≤ s2.2 ∧ s2.2 < ((where_2.len : Nat) : Int)) ∧
  ∃ x4 : Sl, cellOf h2 (a3.add (s2.2.toNat * 1)) = some (.slice x4.ptr x4.len x4.cap) ∧
  CallM Try.prog 26 #[(.slice gone_3.ptr gone_3.len gone_3.cap), (.int .i64 s2.2)] (.one (.sc .bool)) h2 fun r5 h3 =>
  Br (!r5)
  (RunsR Try.prog (Builtin.append_ #[28, 28] 28 #[(.slice s2.1.ptr s2.1.len s2.1.cap), (.slice x4.ptr x4.len x4.cap)]) (.one (.sc .slc)) h3 fun v6 h4 =>
  K1 ((⟨v6.ptr, v6.len, v6.cap⟩ : Sl), IntKind.wrap .i64 (s2.2 + (1 : Int))) h4)
  (K1 ((⟨s2.1.ptr, s2.1.len, s2.1.cap⟩ : Sl), IntKind.wrap .i64 (s2.2 + (1 : Int))) h3))
  (∃ x7 : Int × Int × Int, cellsAt h2 a1 0 [(.int .i64 x7.1), (.int .i64 x7.2.1), (.int .i64 x7.2.2)] ∧
  CallM Try.prog 27 #[(.agg #[(.int .i64 x7.1), (.int .i64 x7.2.1), (.int .i64 x7.2.2)]), (.int .u32 seed_1), (.slice s2.1.ptr s2.1.len s2.1.cap)] (.one (.sc (.int .i64))) h2 fun r8 h5 =>
  R (.int .i64 r8) h5)) ((⟨none, 0, 0⟩ : Sl), (0 : Int)) h1
noncomputable def margin_Rank_ann : Ann := (.two .n (.two .n (.two (.two .n (.inn (.loop [(9, (.sc .slc)), (14, (.sc (.int .i64)))] [(9, 12), (14, 27)] .n))) .n)))
theorem margin_Rank_eq (p_0 : Int × Int × Int) (seed_1 : Int) (where_2 : Sl) (gone_3 : Sl) (R : Value → Heap → Prop) (h : Heap) : fnV C Try.f9 300 margin_Rank_ann [(.agg #[(.int .i64 p_0.1), (.int .i64 p_0.2.1), (.int .i64 p_0.2.2)]), (.int .u32 seed_1), (.slice where_2.ptr where_2.len where_2.cap), (.slice gone_3.ptr gone_3.len gone_3.cap)] R h = margin_Rank_m p_0 seed_1 where_2 gone_3 R h := by kernel_rfl
theorem margin_Rank_run (p_0 : Int × Int × Int) (seed_1 : Int) (where_2 : Sl) (gone_3 : Sl) {R : Value → Heap → Prop} {h : Heap} (hm : margin_Rank_m p_0 seed_1 where_2 gone_3 R h) : Meets Try.prog 9 #[(.agg #[(.int .i64 p_0.1), (.int .i64 p_0.2.1), (.int .i64 p_0.2.2)]), (.int .u32 seed_1), (.slice where_2.ptr where_2.len where_2.cap), (.slice gone_3.ptr gone_3.len gone_3.cap)] h R :=
  fn_spec C_ok (f := 9) (fn := Try.f9) (args := [(.agg #[(.int .i64 p_0.1), (.int .i64 p_0.2.1), (.int .i64 p_0.2.2)]), (.int .u32 seed_1), (.slice where_2.ptr where_2.len where_2.cap), (.slice gone_3.ptr gone_3.len gone_3.cap)]) Try.func9 (by rw [Try.ntmps9]; exact Nat.le_of_ble_eq_true rfl) (cast (margin_Rank_eq p_0 seed_1 where_2 gone_3 R h).symm hm)
/-- wellspring/wellspringlaw27.wakes -/
abbrev wellspringlaw27_wakes_id : FuncId := 10
noncomputable def wellspringlaw27_wakes_m  (R : Value → Heap → Prop) (h : Heap) : Prop :=
  CallM Try.prog 8 #[(.agg #[(.int .i64 (1 : Int)), (.int .i64 (1 : Int)), (.int .i64 (1 : Int))]), (.int .u32 (0 : Int)), (.slice none 0 0), (.int .i64 (0 : Int))] (.many [(.sc .slc), (.sc .bool), (.sc (.int .i64))]) h fun r1 h1 =>
  Br r1.2.1 (Br (r1.2.2 == (0 : Int)) (R (.bool (((r1.1.len : Nat) : Int) == (0 : Int))) h1) (R (.bool false) h1)) (R (.bool false) h1)
noncomputable def wellspringlaw27_wakes_ann : Ann := .n
theorem wellspringlaw27_wakes_eq  (R : Value → Heap → Prop) (h : Heap) : fnV C Try.f10 300 wellspringlaw27_wakes_ann [] R h = wellspringlaw27_wakes_m  R h := by kernel_rfl
theorem wellspringlaw27_wakes_run  {R : Value → Heap → Prop} {h : Heap} (hm : wellspringlaw27_wakes_m  R h) : Meets Try.prog 10 #[] h R :=
  fn_spec C_ok (f := 10) (fn := Try.f10) (args := []) Try.func10 (by rw [Try.ntmps10]; exact Nat.le_of_ble_eq_true rfl) (cast (wellspringlaw27_wakes_eq  R h).symm hm)
/-- wellspring/wellspringlaw11.Seed -/
abbrev wellspringlaw11_Seed_id : FuncId := 11
noncomputable def wellspringlaw11_Seed_m (p_0 : Int × Int × Int) (seed_1 : Int) (R : Value → Heap → Prop) (h : Heap) : Prop :=
  RunsA Try.prog (Instr.box 24 (.agg #[(.int .i64 p_0.1), (.int .i64 p_0.2.1), (.int .i64 p_0.2.2)])) h fun a1 h1 =>
  LoopM (σ := Int) (fun s2 K1 h2 =>
  Br (s2 != (IntKind.wrap .u32 ((IntKind.wrap .u32 seed_1) + (24 : Int))))
  (∃ x3 : Int × Int × Int, cellsAt h2 a1 0 [(.int .i64 x3.1), (.int .i64 x3.2.1), (.int .i64 x3.2.2)] ∧
  CallM Try.prog 28 #[(.agg #[(.int .i64 x3.1), (.int .i64 x3.2.1), (.int .i64 x3.2.2)]), (.int .u32 s2)] (.one (.sc .bool)) h2 fun r4 h3 =>
  Br r4
  (R (.int .u32 s2) h3)
  (K1 (IntKind.wrap .u32 (s2 + (1 : Int))) h3))
  (R (.int .u32 (IntKind.wrap .u32 seed_1)) h2)) (IntKind.wrap .u32 seed_1) h1
noncomputable def wellspringlaw11_Seed_ann : Ann := (.two .n (.two (.two .n (.inn (.loop [(5, (.sc (.int .u32)))] [(4, 6), (8, 19)] .n))) .n))
theorem wellspringlaw11_Seed_eq (p_0 : Int × Int × Int) (seed_1 : Int) (R : Value → Heap → Prop) (h : Heap) : fnV C Try.f11 300 wellspringlaw11_Seed_ann [(.agg #[(.int .i64 p_0.1), (.int .i64 p_0.2.1), (.int .i64 p_0.2.2)]), (.int .u64 seed_1)] R h = wellspringlaw11_Seed_m p_0 seed_1 R h := by kernel_rfl
theorem wellspringlaw11_Seed_run (p_0 : Int × Int × Int) (seed_1 : Int) {R : Value → Heap → Prop} {h : Heap} (hm : wellspringlaw11_Seed_m p_0 seed_1 R h) : Meets Try.prog 11 #[(.agg #[(.int .i64 p_0.1), (.int .i64 p_0.2.1), (.int .i64 p_0.2.2)]), (.int .u64 seed_1)] h R :=
  fn_spec C_ok (f := 11) (fn := Try.f11) (args := [(.agg #[(.int .i64 p_0.1), (.int .i64 p_0.2.1), (.int .i64 p_0.2.2)]), (.int .u64 seed_1)]) Try.func11 (by rw [Try.ntmps11]; exact Nat.le_of_ble_eq_true rfl) (cast (wellspringlaw11_Seed_eq p_0 seed_1 R h).symm hm)
/-- wellspring/wellspringlaw27.Where -/
abbrev wellspringlaw27_Where_id : FuncId := 12
noncomputable def wellspringlaw27_Where_m (l_0 : Sl) (n_1 : Int) (R : Value → Heap → Prop) (h : Heap) : Prop :=
  RunsR Try.prog (Instr.makeSlice 26 (.int .i64 n_1) (.int .i64 n_1)) (.one (.sc .slc)) h fun v1 h1 =>
  CallM Try.prog 29 #[(.slice l_0.ptr l_0.len l_0.cap), (.int .i64 (40 : Int))] (.one (.sc .slc)) h1 fun r2 h2 =>
  LoopM (σ := Int) (fun s3 K1 h3 =>
  Br (decide (s3 < ((r2.len : Nat) : Int)))
  (∃ a4 : Addr, (l_0.ptr = some a4 ∧ 0 ≤ s3 ∧ s3 < ((l_0.len : Nat) : Int)) ∧
  ∃ x5 : Int, cellOf h3 (a4.add (s3.toNat * 1)) = some (.int .i64 x5) ∧
  ((3 : Int) ≠ 0) ∧
  CallM Try.prog 7 #[(.int .i64 (IntKind.wrap .i64 (Int.tdiv x5 (3 : Int)))), (.int .i64 n_1)] (.one (.sc (.int .i64))) h3 fun r6 h4 =>
  ∃ a7 : Addr, (v1.ptr = some a7 ∧ 0 ≤ r6 ∧ r6 < ((v1.len : Nat) : Int)) ∧
  ∃ x8 : Sl, cellOf h4 (a7.add (r6.toNat * 1)) = some (.slice x8.ptr x8.len x8.cap) ∧
  ∃ a9 : Addr, (r2.ptr = some a9 ∧ 0 ≤ s3 ∧ s3 < ((r2.len : Nat) : Int)) ∧
  ∃ x10 : Int, cellOf h4 (a9.add (s3.toNat * 1)) = some (.int .i64 x10) ∧
  RunsR Try.prog (Instr.buildSlice 28 1 #[(0, (.int .i64 x10))]) (.one (.sc .slc)) h4 fun v11 h5 =>
  (Held.ok [(a7.add (r6.toNat * 1), (.slice x8.ptr x8.len x8.cap))] h5) ∧
  RunsR Try.prog (Builtin.append_ #[28, 28] 28 #[(.slice x8.ptr x8.len x8.cap), (.slice v11.ptr v11.len v11.cap)]) (.one (.sc .slc)) h5 fun v12 h6 =>
  (Held.ok [] h6) ∧
  ∃ a13 : Addr, (v1.ptr = some a13 ∧ 0 ≤ r6 ∧ r6 < ((v1.len : Nat) : Int)) ∧
  Runs Try.prog (Instr.storeAt 28 (.pointer (some (a13.add (r6.toNat * 1)))) (.slice v12.ptr v12.len v12.cap)) h6 fun _ h7 =>
  (Held.ok [] h7) ∧
  K1 (IntKind.wrap .i64 (s3 + (1 : Int))) h7)
  (R (.slice v1.ptr v1.len v1.cap) h3)) (0 : Int) h2
noncomputable def wellspringlaw27_Where_ann : Ann := (.two .n (.two .n (.two .n (.two (.two .n (.inn (.loop [(15, (.sc (.int .i64)))] [(7, 9), (15, 39)] .n))) .n))))
theorem wellspringlaw27_Where_eq (l_0 : Sl) (n_1 : Int) (R : Value → Heap → Prop) (h : Heap) : fnV C Try.f12 300 wellspringlaw27_Where_ann [(.slice l_0.ptr l_0.len l_0.cap), (.int .i64 n_1)] R h = wellspringlaw27_Where_m l_0 n_1 R h := by kernel_rfl
theorem wellspringlaw27_Where_run (l_0 : Sl) (n_1 : Int) {R : Value → Heap → Prop} {h : Heap} (hm : wellspringlaw27_Where_m l_0 n_1 R h) : Meets Try.prog 12 #[(.slice l_0.ptr l_0.len l_0.cap), (.int .i64 n_1)] h R :=
  fn_spec C_ok (f := 12) (fn := Try.f12) (args := [(.slice l_0.ptr l_0.len l_0.cap), (.int .i64 n_1)]) Try.func12 (by rw [Try.ntmps12]; exact Nat.le_of_ble_eq_true rfl) (cast (wellspringlaw27_Where_eq l_0 n_1 R h).symm hm)
/-- wellspring/sets.All -/
abbrev sets_All_id : FuncId := 13
noncomputable def sets_All_m (n_0 : Int) (t_1 : Int) (R : Value → Heap → Prop) (h : Heap) : Prop :=
  CallM Try.prog 30 #[(.int .i64 n_0), (.int .i64 t_1)] (.one (.sc .bool)) h fun r1 h1 =>
  Br (!r1)
  (R (.tuple #[(.slice none 0 0), (.int .i64 (1 : Int))]) h1)
  (CallM Try.prog 31 #[(.int .i64 n_0), (.int .i64 t_1)] (.one (.sc (.int .i64))) h1 fun r2 h2 =>
  Br (decide (r2 > (4096 : Int)))
  (R (.tuple #[(.slice none 0 0), (.int .i64 (13 : Int))]) h2)
  (RunsR Try.prog (Instr.makeSlice 28 (.int .i64 t_1) (.int .i64 t_1)) (.one (.sc .slc)) h2 fun v3 h3 =>
  LoopM (σ := Int) (fun s4 K1 h4 =>
  Br (decide (s4 < ((v3.len : Nat) : Int)))
  (∃ a5 : Addr, (v3.ptr = some a5 ∧ 0 ≤ s4 ∧ s4 < ((v3.len : Nat) : Int)) ∧
  Runs Try.prog (Instr.storeAt 3 (.pointer (some (a5.add (s4.toNat * 1)))) (.int .i64 s4)) h4 fun _ h5 =>
  K1 (IntKind.wrap .i64 (s4 + (1 : Int))) h5)
  (CallM Try.prog 32 #[(.slice v3.ptr v3.len v3.cap)] (.one (.sc .slc)) h4 fun r6 h6 =>
  RunsR Try.prog (Instr.buildSlice 26 1 #[(0, (.slice r6.ptr r6.len r6.cap))]) (.one (.sc .slc)) h6 fun v7 h7 =>
  LoopM (σ := Sl) (fun s8 K2 h8 =>
  CallM Try.prog 33 #[(.slice v3.ptr v3.len v3.cap), (.int .i64 n_0)] (.one (.sc .bool)) h8 fun r9 h9 =>
  Br r9
  (CallM Try.prog 32 #[(.slice v3.ptr v3.len v3.cap)] (.one (.sc .slc)) h9 fun r10 h10 =>
  RunsR Try.prog (Instr.buildSlice 26 1 #[(0, (.slice r10.ptr r10.len r10.cap))]) (.one (.sc .slc)) h10 fun v11 h11 =>
  RunsR Try.prog (Builtin.append_ #[26, 26] 26 #[(.slice s8.ptr s8.len s8.cap), (.slice v11.ptr v11.len v11.cap)]) (.one (.sc .slc)) h11 fun v12 h12 =>
  K2 (⟨v12.ptr, v12.len, v12.cap⟩ : Sl) h12)
  (R (.tuple #[(.slice s8.ptr s8.len s8.cap), (.int .i64 (0 : Int))]) h9)) (⟨v7.ptr, v7.len, v7.cap⟩ : Sl) h7)) (0 : Int) h3))
noncomputable def sets_All_ann : Ann := (.two .n (.two .n (.two .n (.two (.two .n (.inn (.loop [(23, (.sc (.int .i64)))] [(7, 8), (23, 31)] .n))) (.two .n (.two (.inn (.loop [(8, (.sc .slc))] [(8, 9), (34, 42)] .n)) .n))))))
theorem sets_All_eq (n_0 : Int) (t_1 : Int) (R : Value → Heap → Prop) (h : Heap) : fnV C Try.f13 300 sets_All_ann [(.int .i64 n_0), (.int .i64 t_1)] R h = sets_All_m n_0 t_1 R h := by kernel_rfl
theorem sets_All_run (n_0 : Int) (t_1 : Int) {R : Value → Heap → Prop} {h : Heap} (hm : sets_All_m n_0 t_1 R h) : Meets Try.prog 13 #[(.int .i64 n_0), (.int .i64 t_1)] h R :=
  fn_spec C_ok (f := 13) (fn := Try.f13) (args := [(.int .i64 n_0), (.int .i64 t_1)]) Try.func13 (by rw [Try.ntmps13]; exact Nat.le_of_ble_eq_true rfl) (cast (sets_All_eq n_0 t_1 R h).symm hm)
/-- wellspring/wellspringkeep.Member[int] -/
abbrev wellspringkeep_Member_int_id : FuncId := 14
noncomputable def wellspringkeep_Member_int_m (l_0 : Sl) (x_1 : Int) (R : Value → Heap → Prop) (h : Heap) : Prop :=
  LoopM (σ := Int) (fun s1 K1 h1 =>
  Br (decide (s1 < ((l_0.len : Nat) : Int)))
  (∃ a2 : Addr, (l_0.ptr = some a2 ∧ 0 ≤ s1 ∧ s1 < ((l_0.len : Nat) : Int)) ∧
  ∃ x3 : Int, cellOf h1 (a2.add (s1.toNat * 1)) = some (.int .i64 x3) ∧
  Br (x3 == x_1)
  (R (.bool true) h1)
  (K1 (IntKind.wrap .i64 (s1 + (1 : Int))) h1))
  (R (.bool false) h1)) (0 : Int) h
noncomputable def wellspringkeep_Member_int_ann : Ann := (.two .n (.two (.two .n (.inn (.loop [(8, (.sc (.int .i64)))] [(4, 6), (8, 18)] .n))) .n))
theorem wellspringkeep_Member_int_eq (l_0 : Sl) (x_1 : Int) (R : Value → Heap → Prop) (h : Heap) : fnV C Try.f14 300 wellspringkeep_Member_int_ann [(.slice l_0.ptr l_0.len l_0.cap), (.int .i64 x_1)] R h = wellspringkeep_Member_int_m l_0 x_1 R h := by kernel_rfl
theorem wellspringkeep_Member_int_run (l_0 : Sl) (x_1 : Int) {R : Value → Heap → Prop} {h : Heap} (hm : wellspringkeep_Member_int_m l_0 x_1 R h) : Meets Try.prog 14 #[(.slice l_0.ptr l_0.len l_0.cap), (.int .i64 x_1)] h R :=
  fn_spec C_ok (f := 14) (fn := Try.f14) (args := [(.slice l_0.ptr l_0.len l_0.cap), (.int .i64 x_1)]) Try.func14 (by rw [Try.ntmps14]; exact Nat.le_of_ble_eq_true rfl) (cast (wellspringkeep_Member_int_eq l_0 x_1 R h).symm hm)
/-- wellspring/system.Full -/
abbrev system_Full_id : FuncId := 15
noncomputable def system_Full_m (p_0 : Int × Int × Int) (seed_1 : Int) (ids_2 : Sl) (R : Value → Heap → Prop) (h : Heap) : Prop :=
  RunsA Try.prog (Instr.box 24 (.agg #[(.int .i64 p_0.1), (.int .i64 p_0.2.1), (.int .i64 p_0.2.2)])) h fun a1 h1 =>
  ∃ x2 : Int × Int × Int, cellsAt h1 a1 0 [(.int .i64 x2.1), (.int .i64 x2.2.1), (.int .i64 x2.2.2)] ∧
  CallM Try.prog 19 #[(.agg #[(.int .i64 x2.1), (.int .i64 x2.2.1), (.int .i64 x2.2.2)])] (.one (.sc .bool)) h1 fun r3 h2 =>
  (Held.ok [] h2) ∧
  Br r3 (∃ x4 : Int × Int × Int, cellsAt h2 a1 0 [(.int .i64 x4.1), (.int .i64 x4.2.1), (.int .i64 x4.2.2)] ∧
  ∃ x5 : Int × Int × Int, cellsAt h2 a1 0 [(.int .i64 x5.1), (.int .i64 x5.2.1), (.int .i64 x5.2.2)] ∧
  CallM Try.prog 27 #[(.agg #[(.int .i64 x4.1), (.int .i64 x4.2.1), (.int .i64 x4.2.2)]), (.int .u32 seed_1), (.slice ids_2.ptr ids_2.len ids_2.cap)] (.one (.sc (.int .i64))) h2 fun r6 h3 =>
  (Held.ok [(a1, (.int .i64 x5.1)), (a1.add 1, (.int .i64 x5.2.1)), (a1.add 2, (.int .i64 x5.2.2))] h3) ∧
  CallM Try.prog 18 #[(.agg #[(.int .i64 x5.1), (.int .i64 x5.2.1), (.int .i64 x5.2.2)])] (.one (.sc (.int .i64))) h3 fun r7 h4 =>
  (Held.ok [] h4) ∧
  R (.bool (r6 == r7)) h4) ((Held.ok [] h2) ∧
  (Held.ok [] h2) ∧
  R (.bool false) h2)
noncomputable def system_Full_ann : Ann := .n
theorem system_Full_eq (p_0 : Int × Int × Int) (seed_1 : Int) (ids_2 : Sl) (R : Value → Heap → Prop) (h : Heap) : fnV C Try.f15 300 system_Full_ann [(.agg #[(.int .i64 p_0.1), (.int .i64 p_0.2.1), (.int .i64 p_0.2.2)]), (.int .u32 seed_1), (.slice ids_2.ptr ids_2.len ids_2.cap)] R h = system_Full_m p_0 seed_1 ids_2 R h := by kernel_rfl
theorem system_Full_run (p_0 : Int × Int × Int) (seed_1 : Int) (ids_2 : Sl) {R : Value → Heap → Prop} {h : Heap} (hm : system_Full_m p_0 seed_1 ids_2 R h) : Meets Try.prog 15 #[(.agg #[(.int .i64 p_0.1), (.int .i64 p_0.2.1), (.int .i64 p_0.2.2)]), (.int .u32 seed_1), (.slice ids_2.ptr ids_2.len ids_2.cap)] h R :=
  fn_spec C_ok (f := 15) (fn := Try.f15) (args := [(.agg #[(.int .i64 p_0.1), (.int .i64 p_0.2.1), (.int .i64 p_0.2.2)]), (.int .u32 seed_1), (.slice ids_2.ptr ids_2.len ids_2.cap)]) Try.func15 (by rw [Try.ntmps15]; exact Nat.le_of_ble_eq_true rfl) (cast (system_Full_eq p_0 seed_1 ids_2 R h).symm hm)
/-- wellspring/wellspringkeep.Same[int] -/
abbrev wellspringkeep_Same_int_id : FuncId := 16
noncomputable def wellspringkeep_Same_int_m (a_0 : Sl) (b_1 : Sl) (R : Value → Heap → Prop) (h : Heap) : Prop :=
  Br (((a_0.len : Nat) : Int) != ((b_1.len : Nat) : Int))
  (R (.bool false) h)
  (LoopM (σ := Int) (fun s1 K1 h1 =>
  Br (decide (s1 < ((a_0.len : Nat) : Int)))
  (∃ a2 : Addr, (a_0.ptr = some a2 ∧ 0 ≤ s1 ∧ s1 < ((a_0.len : Nat) : Int)) ∧
  ∃ x3 : Int, cellOf h1 (a2.add (s1.toNat * 1)) = some (.int .i64 x3) ∧
  ∃ a4 : Addr, (b_1.ptr = some a4 ∧ 0 ≤ s1 ∧ s1 < ((b_1.len : Nat) : Int)) ∧
  ∃ x5 : Int, cellOf h1 (a4.add (s1.toNat * 1)) = some (.int .i64 x5) ∧
  Br (x3 != x5)
  (R (.bool false) h1)
  (K1 (IntKind.wrap .i64 (s1 + (1 : Int))) h1))
  (R (.bool true) h1)) (0 : Int) h)
noncomputable def wellspringkeep_Same_int_ann : Ann := (.two .n (.two .n (.two (.two .n (.inn (.loop [(13, (.sc (.int .i64)))] [(4, 6), (13, 26)] .n))) .n)))
theorem wellspringkeep_Same_int_eq (a_0 : Sl) (b_1 : Sl) (R : Value → Heap → Prop) (h : Heap) : fnV C Try.f16 300 wellspringkeep_Same_int_ann [(.slice a_0.ptr a_0.len a_0.cap), (.slice b_1.ptr b_1.len b_1.cap)] R h = wellspringkeep_Same_int_m a_0 b_1 R h := by kernel_rfl
theorem wellspringkeep_Same_int_run (a_0 : Sl) (b_1 : Sl) {R : Value → Heap → Prop} {h : Heap} (hm : wellspringkeep_Same_int_m a_0 b_1 R h) : Meets Try.prog 16 #[(.slice a_0.ptr a_0.len a_0.cap), (.slice b_1.ptr b_1.len b_1.cap)] h R :=
  fn_spec C_ok (f := 16) (fn := Try.f16) (args := [(.slice a_0.ptr a_0.len a_0.cap), (.slice b_1.ptr b_1.len b_1.cap)]) Try.func16 (by rw [Try.ntmps16]; exact Nat.le_of_ble_eq_true rfl) (cast (wellspringkeep_Same_int_eq a_0 b_1 R h).symm hm)
/-- wellspring/wellspringkeep.Copies[int] -/
abbrev wellspringkeep_Copies_int_id : FuncId := 17
noncomputable def wellspringkeep_Copies_int_m (l_0 : Sl) (R : Value → Heap → Prop) (h : Heap) : Prop :=
  LoopM (σ := Sl × Int) (fun s1 K1 h1 =>
  Br (decide (s1.2 < ((l_0.len : Nat) : Int)))
  (∃ a2 : Addr, (l_0.ptr = some a2 ∧ 0 ≤ s1.2 ∧ s1.2 < ((l_0.len : Nat) : Int)) ∧
  ∃ x3 : Sl, cellOf h1 (a2.add (s1.2.toNat * 1)) = some (.slice x3.ptr x3.len x3.cap) ∧
  CallM Try.prog 34 #[(.slice x3.ptr x3.len x3.cap)] (.one (.sc .slc)) h1 fun r4 h2 =>
  RunsR Try.prog (Instr.buildSlice 26 1 #[(0, (.slice r4.ptr r4.len r4.cap))]) (.one (.sc .slc)) h2 fun v5 h3 =>
  RunsR Try.prog (Builtin.append_ #[26, 26] 26 #[(.slice s1.1.ptr s1.1.len s1.1.cap), (.slice v5.ptr v5.len v5.cap)]) (.one (.sc .slc)) h3 fun v6 h4 =>
  K1 ((⟨v6.ptr, v6.len, v6.cap⟩ : Sl), IntKind.wrap .i64 (s1.2 + (1 : Int))) h4)
  (R (.slice s1.1.ptr s1.1.len s1.1.cap) h1)) ((⟨none, 0, 0⟩ : Sl), (0 : Int)) h
noncomputable def wellspringkeep_Copies_int_ann : Ann := (.two .n (.two .n (.two (.two .n (.inn (.loop [(3, (.sc .slc)), (8, (.sc (.int .i64)))] [(3, 4), (5, 6), (8, 18)] .n))) .n)))
theorem wellspringkeep_Copies_int_eq (l_0 : Sl) (R : Value → Heap → Prop) (h : Heap) : fnV C Try.f17 300 wellspringkeep_Copies_int_ann [(.slice l_0.ptr l_0.len l_0.cap)] R h = wellspringkeep_Copies_int_m l_0 R h := by kernel_rfl
theorem wellspringkeep_Copies_int_run (l_0 : Sl) {R : Value → Heap → Prop} {h : Heap} (hm : wellspringkeep_Copies_int_m l_0 R h) : Meets Try.prog 17 #[(.slice l_0.ptr l_0.len l_0.cap)] h R :=
  fn_spec C_ok (f := 17) (fn := Try.f17) (args := [(.slice l_0.ptr l_0.len l_0.cap)]) Try.func17 (by rw [Try.ntmps17]; exact Nat.le_of_ble_eq_true rfl) (cast (wellspringkeep_Copies_int_eq l_0 R h).symm hm)
/-- wellspring/pre.Cols -/
abbrev pre_Cols_id : FuncId := 18
noncomputable def pre_Cols_m (p_0 : Int × Int × Int) (R : Value → Heap → Prop) (h : Heap) : Prop :=
  RunsA Try.prog (Instr.box 24 (.agg #[(.int .i64 p_0.1), (.int .i64 p_0.2.1), (.int .i64 p_0.2.2)])) h fun a1 h1 =>
  ∃ x2 : Int × Int × Int, cellsAt h1 a1 0 [(.int .i64 x2.1), (.int .i64 x2.2.1), (.int .i64 x2.2.2)] ∧
  CallM Try.prog 19 #[(.agg #[(.int .i64 x2.1), (.int .i64 x2.2.1), (.int .i64 x2.2.2)])] (.one (.sc .bool)) h1 fun r3 h2 =>
  Br (!r3)
  (R (.int .i64 (0 : Int)) h2)
  (∃ x4 : Int, cellOf h2 a1 = some (.int .i64 x4) ∧
  ∃ x5 : Int, cellOf h2 (a1.add 1) = some (.int .i64 x5) ∧
  R (.int .i64 (IntKind.wrap .i64 (x4 + x5))) h2)
noncomputable def pre_Cols_ann : Ann := .n
theorem pre_Cols_eq (p_0 : Int × Int × Int) (R : Value → Heap → Prop) (h : Heap) : fnV C Try.f18 300 pre_Cols_ann [(.agg #[(.int .i64 p_0.1), (.int .i64 p_0.2.1), (.int .i64 p_0.2.2)])] R h = pre_Cols_m p_0 R h := by kernel_rfl
theorem pre_Cols_run (p_0 : Int × Int × Int) {R : Value → Heap → Prop} {h : Heap} (hm : pre_Cols_m p_0 R h) : Meets Try.prog 18 #[(.agg #[(.int .i64 p_0.1), (.int .i64 p_0.2.1), (.int .i64 p_0.2.2)])] h R :=
  fn_spec C_ok (f := 18) (fn := Try.f18) (args := [(.agg #[(.int .i64 p_0.1), (.int .i64 p_0.2.1), (.int .i64 p_0.2.2)])]) Try.func18 (by rw [Try.ntmps18]; exact Nat.le_of_ble_eq_true rfl) (cast (pre_Cols_eq p_0 R h).symm hm)
/-- wellspring/pre.May -/
abbrev pre_May_id : FuncId := 19
noncomputable def pre_May_m (p_0 : Int × Int × Int) (R : Value → Heap → Prop) (h : Heap) : Prop :=
  RunsA Try.prog (Instr.box 24 (.agg #[(.int .i64 p_0.1), (.int .i64 p_0.2.1), (.int .i64 p_0.2.2)])) h fun a1 h1 =>
  ∃ x2 : Int, cellOf h1 a1 = some (.int .i64 x2) ∧
  Br (decide (x2 ≥ (1 : Int))) (∃ x3 : Int, cellOf h1 a1 = some (.int .i64 x3) ∧
  Br (decide (x3 ≤ (16 : Int))) (∃ x4 : Int, cellOf h1 (a1.add 1) = some (.int .i64 x4) ∧
  Br (decide (x4 ≥ (1 : Int))) (∃ x5 : Int, cellOf h1 (a1.add 1) = some (.int .i64 x5) ∧
  Br (decide (x5 ≤ (4 : Int))) (∃ x6 : Int, cellOf h1 (a1.add 2) = some (.int .i64 x6) ∧
  Br (decide (x6 ≥ (1 : Int))) (∃ x7 : Int, cellOf h1 (a1.add 2) = some (.int .i64 x7) ∧
  R (.bool (decide (x7 ≤ (24 : Int)))) h1) (R (.bool false) h1)) (R (.bool false) h1)) (R (.bool false) h1)) (R (.bool false) h1)) (R (.bool false) h1)
noncomputable def pre_May_ann : Ann := .n
theorem pre_May_eq (p_0 : Int × Int × Int) (R : Value → Heap → Prop) (h : Heap) : fnV C Try.f19 300 pre_May_ann [(.agg #[(.int .i64 p_0.1), (.int .i64 p_0.2.1), (.int .i64 p_0.2.2)])] R h = pre_May_m p_0 R h := by kernel_rfl
theorem pre_May_run (p_0 : Int × Int × Int) {R : Value → Heap → Prop} {h : Heap} (hm : pre_May_m p_0 R h) : Meets Try.prog 19 #[(.agg #[(.int .i64 p_0.1), (.int .i64 p_0.2.1), (.int .i64 p_0.2.2)])] h R :=
  fn_spec C_ok (f := 19) (fn := Try.f19) (args := [(.agg #[(.int .i64 p_0.1), (.int .i64 p_0.2.1), (.int .i64 p_0.2.2)])]) Try.func19 (by rw [Try.ntmps19]; exact Nat.le_of_ble_eq_true rfl) (cast (pre_May_eq p_0 R h).symm hm)
/-- wellspring/span.New -/
abbrev span_New_id : FuncId := 20
noncomputable def span_New_m (f_0 : Option Addr) (n_1 : Int) (R : Value → Heap → Prop) (h : Heap) : Prop :=
  JoinM (σ := Unit) (fun _ h1 =>
  JoinM (σ := Option Addr) (fun s3 h3 =>
  RunsA Try.prog (Instr.box 65 (.agg #[(.pointer s3), (.int .i64 n_1), (.slice none 0 0)])) h3 fun a4 h4 =>
  R (.pointer (some a4)) h4)
  (fun K2 =>
  Br (Option.isNone f_0)
  (CallM Try.prog 21 #[] (.one (.sc .ptr)) h1 fun r2 h2 =>
  K2 r2 h2)
  (K2 f_0 h1)))
  (fun K1 =>
  Br (decide (n_1 < (0 : Int))) (R (.pointer none) h) (Br (decide (n_1 > (64 : Int)))
  (R (.pointer none) h)
  (K1 () h)))
noncomputable def span_New_ann : Ann := (.two .n (.two (.join [] [(4, 11)] .n) (.two (.join [(0, (.sc .ptr))] [(0, 1), (11, 14)] .n) .n)))
theorem span_New_eq (f_0 : Option Addr) (n_1 : Int) (R : Value → Heap → Prop) (h : Heap) : fnV C Try.f20 300 span_New_ann [(.pointer f_0), (.int .i64 n_1)] R h = span_New_m f_0 n_1 R h := by kernel_rfl
theorem span_New_run (f_0 : Option Addr) (n_1 : Int) {R : Value → Heap → Prop} {h : Heap} (hm : span_New_m f_0 n_1 R h) : Meets Try.prog 20 #[(.pointer f_0), (.int .i64 n_1)] h R :=
  fn_spec C_ok (f := 20) (fn := Try.f20) (args := [(.pointer f_0), (.int .i64 n_1)]) Try.func20 (by rw [Try.ntmps20]; exact Nat.le_of_ble_eq_true rfl) (cast (span_New_eq f_0 n_1 R h).symm hm)
/-- wellspring/gf.New -/
abbrev gf_New_id : FuncId := 21
noncomputable def gf_New_m  (R : Value → Heap → Prop) (h : Heap) : Prop :=
  CallM Try.prog 35 #[] (.one (.arr (.int .u8))) h fun r1 h1 =>
  RunsA Try.prog (Instr.alloc 66 true (.tuple #[])) h1 fun a2 h2 =>
  Runs Try.prog (Instr.storeAt 66 (.pointer (some a2)) (.agg (r1.map (Sc.enc (.int .u8))).toArray)) h2 fun _ h3 =>
  ∃ x3 : List (Int), (x3.length = 255 ∧ cellsAt h3 a2 0 (x3.map (Sc.enc (.int .u8)))) ∧
  ∃ x4 : List (Int), (x4.length = 255 ∧ cellsAt h3 a2 0 (x4.map (Sc.enc (.int .u8)))) ∧
  CallM Try.prog 36 #[(.agg (x4.map (Sc.enc (.int .u8))).toArray)] (.one (.arr (.int .i64))) h3 fun r5 h4 =>
  (Held.ok (cellList a2 0 (x3.map (Sc.enc (.int .u8))) []) h4) ∧
  ∃ v6 : Value, (AlwaysV Try.prog (Instr.build 71 #[(0, (.agg (x3.map (Sc.enc (.int .u8))).toArray)), (1, (.agg (r5.map (Sc.enc (.int .i64))).toArray))]) v6) ∧
  RunsA Try.prog (Instr.box 71 v6) h4 fun a7 h5 =>
  (Held.ok (cellList a2 0 (x3.map (Sc.enc (.int .u8))) []) h5) ∧
  R (.pointer (some a7)) h5
noncomputable def gf_New_ann : Ann := .n
theorem gf_New_eq  (R : Value → Heap → Prop) (h : Heap) : fnV C Try.f21 300 gf_New_ann [] R h = gf_New_m  R h := by kernel_rfl
theorem gf_New_run  {R : Value → Heap → Prop} {h : Heap} (hm : gf_New_m  R h) : Meets Try.prog 21 #[] h R :=
  fn_spec C_ok (f := 21) (fn := Try.f21) (args := []) Try.func21 (by rw [Try.ntmps21]; exact Nat.le_of_ble_eq_true rfl) (cast (gf_New_eq  R h).symm hm)
end Go.Proofs.Ytmadbodaleaaeaa
