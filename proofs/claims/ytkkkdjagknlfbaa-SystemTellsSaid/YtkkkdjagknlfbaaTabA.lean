/- Part of the proofs that wellspringlaw10's laws answer true whatever the input reads, and leave it as it was; no condition. -/
import Derived.Test.YtkkkdjagknlfbaaHpA
import Derived.Test.YtkkkdjagknlfbaaProg
set_option linter.unusedVariables false
set_option linter.unusedSimpArgs false
namespace Go.Proofs.Ytkkkdjagknlfbaa
open Go Go.Vc Go.Proofs
set_option maxRecDepth 1000000

abbrev T_func : Nat := 1
abbrev T_int64 : Nat := 2
abbrev T_int : Nat := 3
abbrev T_bool : Nat := 4
abbrev T_uint8 : Nat := 5
abbrev T_abi_BoundsErrorCode : Nat := 6
abbrev T_runtime_boundsError : Nat := 8
abbrev T_string : Nat := 9
abbrev T_runtime_errorString : Nat := 10
abbrev T_runtime_plainError : Nat := 11
abbrev T_uintptr : Nat := 12
abbrev T_struct_msg_string_addr_uintptr : Nat := 13
abbrev T_runtime_errorAddressString : Nat := 14
abbrev T_ptr_runtime_TypeAssertionError : Nat := 15
abbrev T_ptr_runtime_PanicNilError : Nat := 16
abbrev T_ptr_abi_Type : Nat := 17
abbrev T_struct_typ_ptr_abi_Type : Nat := 18
abbrev T_maps_unhashableTypeError : Nat := 19
abbrev T_interface : Nat := 20
abbrev T_int32 : Nat := 21
abbrev T_uint : Nat := 22
abbrev T_sl_int : Nat := 23
abbrev T_struct_K_int_H_int_Size_int : Nat := 24
abbrev T_api_Params : Nat := 25
abbrev T_func_int_int_int_api_Params : Nat := 26
abbrev T_func_sl_int_int_sl_int : Nat := 27
abbrev T_func_int_int_int : Nat := 28
abbrev T_uint32 : Nat := 29
abbrev T_func_api_Params_uint32_sl_int_int : Nat := 30
abbrev T_func_api_Params_uint32_sl_int_bool : Nat := 31
abbrev T_func_bool : Nat := 32
abbrev T_func_int_int_int_uint_sl_int_int_bool : Nat := 33
abbrev T_func_api_Params_int : Nat := 34
abbrev T_func_int_int_int_uint_sl_int_bool : Nat := 35
abbrev T_sl_sl_uint8 : Nat := 36
abbrev T_func_sl_sl_uint8_sl_sl_uint8_bool : Nat := 38
abbrev T_func_api_Params_sl_sl_uint8 : Nat := 39
abbrev T_func_sl_uint8_sl_uint8_bool : Nat := 40
abbrev T_sl_uint8 : Nat := 41
abbrev T_func_api_Params_uint32_int_sl_uint8 : Nat := 42
abbrev T_func_ptr_gf_Field_sl_sl_uint8_int : Nat := 43
abbrev T_ptr_gf_Field : Nat := 44
abbrev T_func_ptr_gf_Field : Nat := 45
abbrev T_sl_api_Params : Nat := 46
abbrev T_func_api_Params_uint32_bool : Nat := 47
abbrev T_func_sl_int_sl_int_int_bool : Nat := 48
abbrev T_func_int_int_int_uint_int_bool : Nat := 50
abbrev T_func_api_Params_bool : Nat := 51
abbrev T_func_int_int_sl_uint8 : Nat := 52
abbrev T_func_int_uint8 : Nat := 53
abbrev T_func_api_Params_uint32_int_sl_int : Nat := 54
abbrev T_255_uint8 : Nat := 56
abbrev T_func_255_uint8 : Nat := 57
abbrev T_256_int : Nat := 58
abbrev T_func_255_uint8_256_int : Nat := 59
abbrev T_struct_exp_255_uint8_log_256_int : Nat := 60
abbrev T_gf_Field : Nat := 61
abbrev T_func_int_bool : Nat := 62
abbrev T_func_sl_sl_uint8_int : Nat := 63
abbrev T_func_api_Params_sl_int : Nat := 64
abbrev T_func_sl_int_sl_int_bool : Nat := 65
abbrev T_ptr_draw_Draw : Nat := 66
abbrev T_func_uint32_ptr_draw_Draw : Nat := 67
abbrev T_func_uint32 : Nat := 68
abbrev T_func_sl_int_ptr_draw_Draw_int : Nat := 69
abbrev T_func_int_sl_int : Nat := 70
abbrev T_func_ptr_draw_Draw_int_int_sl_int : Nat := 71
abbrev T_func_sl_sl_uint8_bool : Nat := 72
abbrev T_func_sl_sl_uint8_sl_sl_uint8 : Nat := 73
abbrev T_func_ptr_gf_Field_sl_sl_uint8_int_int : Nat := 74
abbrev T_func_ptr_gf_Field_ptr_gf_Field : Nat := 75
abbrev T_func_uint8_uint8_uint8 : Nat := 76
abbrev T_uint64 : Nat := 77
abbrev T_struct_at_uint64 : Nat := 78
abbrev T_draw_Draw : Nat := 79
abbrev T_func_sl_int_int_int : Nat := 80
abbrev T_func_int_int : Nat := 81
abbrev T_func_sl_int_sl_int : Nat := 82
abbrev T_func_sl_int : Nat := 83
abbrev T_func_sl_uint8_sl_uint8 : Nat := 84
abbrev T_func_sl_sl_uint8_int_int_int : Nat := 85
abbrev T_func_uint8_uint8 : Nat := 87
abbrev T_ptr_wellspringref01_Draw : Nat := 89
abbrev T_struct_S_uint64 : Nat := 90
abbrev T_wellspringref01_Draw : Nat := 91
abbrev T_func_uint8_sl_uint8_sl_uint8 : Nat := 94
abbrev T_func_uint8_sl_uint8_sl_uint8_sl_uint8 : Nat := 95
abbrev T_func_uint_int : Nat := 96
abbrev T_func_sl_int_int_int_int : Nat := 97
abbrev T_uint16 : Nat := 98
abbrev T_func_uint32_int : Nat := 99
abbrev T_func_uint64_int : Nat := 100
abbrev T_slices_sortedHint : Nat := 102
abbrev T_int_slices_sortedHint : Nat := 103
abbrev T_func_sl_int_int_int_bool : Nat := 105
abbrev T_func_int_int_bool : Nat := 106
abbrev T_func_sl_int_int_int_int_int : Nat := 107
abbrev T_int_bool : Nat := 108
abbrev T_func_sl_int_int_int_int_int_bool : Nat := 109
abbrev T_slices_xorshift : Nat := 110
abbrev T_func_int_uint : Nat := 111
abbrev T_func_uint64 : Nat := 112
abbrev T_func_sl_int_int_ptr_int_int : Nat := 113
abbrev T_ptr_int : Nat := 114
abbrev T_func_sl_int_int_int_int_ptr_int_int : Nat := 115
abbrev T_ptr_slices_xorshift : Nat := 116
abbrev T_int_int : Nat := 117
abbrev T_func_sl_int_int_int_ptr_int_int_int : Nat := 118
abbrev T_func_string : Nat := 119
abbrev T_runtime_TypeAssertionError : Nat := 121
abbrev T_0_ptr_runtime_PanicNilError : Nat := 122
abbrev T_struct_0_ptr_runtime_PanicNilError : Nat := 123
abbrev T_runtime_PanicNilError : Nat := 124
abbrev T_func_int : Nat := 125
abbrev T_abi_TFlag : Nat := 126
abbrev T_abi_Kind : Nat := 127
abbrev T_ptr_uint8 : Nat := 129
abbrev T_abi_NameOff : Nat := 130
abbrev T_abi_TypeOff : Nat := 131
abbrev T_abi_Type : Nat := 133
abbrev T_unsafe_Pointer : Nat := 134
noncomputable def tbl : Tbl := [
  ⟨.other, (.sc .any), 1, 0, [(Go.Value.tuple #[])]⟩,
  ⟨.fn, (.sc .fn), 1, 8, [Go.Value.nilFunc]⟩,
  ⟨.int .i64, (.sc (.int .i64)), 1, 8, [(Go.Value.int Go.IntKind.i64 0)]⟩,
  ⟨.int .i64, (.sc (.int .i64)), 1, 8, [(Go.Value.int Go.IntKind.i64 0)]⟩,
  ⟨.bool, (.sc .bool), 1, 1, [(Go.Value.bool Bool.false)]⟩,
  ⟨.int .u8, (.sc (.int .u8)), 1, 1, [(Go.Value.int Go.IntKind.u8 0)]⟩,
  ⟨.int .u8, (.sc (.int .u8)), 1, 1, [(Go.Value.int Go.IntKind.u8 0)]⟩,
  ⟨.struct [(0, 2), (1, 3), (2, 4), (3, 6)], (.agg [(.int .i64), (.int .i64), .bool, (.int .u8)]), 4, 24, [(Go.Value.int Go.IntKind.i64 0), (Go.Value.int Go.IntKind.i64 0), (Go.Value.bool Bool.false), (Go.Value.int Go.IntKind.u8 0)]⟩,
  ⟨.struct [(0, 2), (1, 3), (2, 4), (3, 6)], (.agg [(.int .i64), (.int .i64), .bool, (.int .u8)]), 4, 24, [(Go.Value.int Go.IntKind.i64 0), (Go.Value.int Go.IntKind.i64 0), (Go.Value.bool Bool.false), (Go.Value.int Go.IntKind.u8 0)]⟩,
  ⟨.str, (.sc .str), 1, 16, [(Go.Value.string (ByteArray.mk #[]))]⟩,
  ⟨.str, (.sc .str), 1, 16, [(Go.Value.string (ByteArray.mk #[]))]⟩,
  ⟨.str, (.sc .str), 1, 16, [(Go.Value.string (ByteArray.mk #[]))]⟩,
  ⟨.int .u64, (.sc (.int .u64)), 1, 8, [(Go.Value.int Go.IntKind.u64 0)]⟩,
  ⟨.struct [(0, 9), (1, 12)], (.agg [.str, (.int .u64)]), 2, 24, [(Go.Value.string (ByteArray.mk #[])), (Go.Value.int Go.IntKind.u64 0)]⟩,
  ⟨.struct [(0, 9), (1, 12)], (.agg [.str, (.int .u64)]), 2, 24, [(Go.Value.string (ByteArray.mk #[])), (Go.Value.int Go.IntKind.u64 0)]⟩,
  ⟨.ptr 121, (.sc .ptr), 1, 8, [(Go.Value.pointer Option.none)]⟩,
  ⟨.ptr 124, (.sc .ptr), 1, 8, [(Go.Value.pointer Option.none)]⟩,
  ⟨.ptr 133, (.sc .ptr), 1, 8, [(Go.Value.pointer Option.none)]⟩,
  ⟨.struct [(0, 17)], (.agg [.ptr]), 1, 8, [(Go.Value.pointer Option.none)]⟩,
  ⟨.struct [(0, 17)], (.agg [.ptr]), 1, 8, [(Go.Value.pointer Option.none)]⟩,
  ⟨.other, (.sc .any), 1, 16, [Go.Value.nilIface]⟩,
  ⟨.int .i32, (.sc (.int .i32)), 1, 4, [(Go.Value.int Go.IntKind.i32 0)]⟩,
  ⟨.int .u64, (.sc (.int .u64)), 1, 8, [(Go.Value.int Go.IntKind.u64 0)]⟩,
  ⟨.slice 3, (.sc .slc), 1, 24, [(Go.Value.slice Option.none 0 0)]⟩,
  ⟨.struct [(0, 3), (1, 3), (2, 3)], (.agg [(.int .i64), (.int .i64), (.int .i64)]), 3, 24, [(Go.Value.int Go.IntKind.i64 0), (Go.Value.int Go.IntKind.i64 0), (Go.Value.int Go.IntKind.i64 0)]⟩,
  ⟨.struct [(0, 3), (1, 3), (2, 3)], (.agg [(.int .i64), (.int .i64), (.int .i64)]), 3, 24, [(Go.Value.int Go.IntKind.i64 0), (Go.Value.int Go.IntKind.i64 0), (Go.Value.int Go.IntKind.i64 0)]⟩,
  ⟨.fn, (.sc .fn), 1, 8, [Go.Value.nilFunc]⟩,
  ⟨.fn, (.sc .fn), 1, 8, [Go.Value.nilFunc]⟩,
  ⟨.fn, (.sc .fn), 1, 8, [Go.Value.nilFunc]⟩,
  ⟨.int .u32, (.sc (.int .u32)), 1, 4, [(Go.Value.int Go.IntKind.u32 0)]⟩,
  ⟨.fn, (.sc .fn), 1, 8, [Go.Value.nilFunc]⟩,
  ⟨.fn, (.sc .fn), 1, 8, [Go.Value.nilFunc]⟩,
  ⟨.fn, (.sc .fn), 1, 8, [Go.Value.nilFunc]⟩,
  ⟨.fn, (.sc .fn), 1, 8, [Go.Value.nilFunc]⟩,
  ⟨.fn, (.sc .fn), 1, 8, [Go.Value.nilFunc]⟩,
  ⟨.fn, (.sc .fn), 1, 8, [Go.Value.nilFunc]⟩,
  ⟨.slice 41, (.sc .slc), 1, 24, [(Go.Value.slice Option.none 0 0)]⟩,
  ⟨.fn, (.sc .fn), 1, 8, [Go.Value.nilFunc]⟩,
  ⟨.fn, (.sc .fn), 1, 8, [Go.Value.nilFunc]⟩,
  ⟨.fn, (.sc .fn), 1, 8, [Go.Value.nilFunc]⟩,
  ⟨.fn, (.sc .fn), 1, 8, [Go.Value.nilFunc]⟩,
  ⟨.slice 5, (.sc .slc), 1, 24, [(Go.Value.slice Option.none 0 0)]⟩,
  ⟨.fn, (.sc .fn), 1, 8, [Go.Value.nilFunc]⟩,
  ⟨.fn, (.sc .fn), 1, 8, [Go.Value.nilFunc]⟩,
  ⟨.ptr 61, (.sc .ptr), 1, 8, [(Go.Value.pointer Option.none)]⟩,
  ⟨.fn, (.sc .fn), 1, 8, [Go.Value.nilFunc]⟩,
  ⟨.slice 25, (.sc .slc), 1, 24, [(Go.Value.slice Option.none 0 0)]⟩,
  ⟨.fn, (.sc .fn), 1, 8, [Go.Value.nilFunc]⟩,
  ⟨.fn, (.sc .fn), 1, 8, [Go.Value.nilFunc]⟩,
  ⟨.fn, (.sc .fn), 1, 8, [Go.Value.nilFunc]⟩,
  ⟨.fn, (.sc .fn), 1, 8, [Go.Value.nilFunc]⟩,
  ⟨.fn, (.sc .fn), 1, 8, [Go.Value.nilFunc]⟩,
  ⟨.fn, (.sc .fn), 1, 8, [Go.Value.nilFunc]⟩,
  ⟨.fn, (.sc .fn), 1, 8, [Go.Value.nilFunc]⟩,
  ⟨.fn, (.sc .fn), 1, 8, [Go.Value.nilFunc]⟩,
  ⟨.fn, (.sc .fn), 1, 8, [Go.Value.nilFunc]⟩,
  ⟨.array 255 5, (.arr (.int .u8)), 255, 255, [(Go.Value.int Go.IntKind.u8 0), (Go.Value.int Go.IntKind.u8 0), (Go.Value.int Go.IntKind.u8 0), (Go.Value.int Go.IntKind.u8 0), (Go.Value.int Go.IntKind.u8 0), (Go.Value.int Go.IntKind.u8 0), (Go.Value.int Go.IntKind.u8 0), (Go.Value.int Go.IntKind.u8 0), (Go.Value.int Go.IntKind.u8 0), (Go.Value.int Go.IntKind.u8 0), (Go.Value.int Go.IntKind.u8 0), (Go.Value.int Go.IntKind.u8 0), (Go.Value.int Go.IntKind.u8 0), (Go.Value.int Go.IntKind.u8 0), (Go.Value.int Go.IntKind.u8 0), (Go.Value.int Go.IntKind.u8 0), (Go.Value.int Go.IntKind.u8 0), (Go.Value.int Go.IntKind.u8 0), (Go.Value.int Go.IntKind.u8 0), (Go.Value.int Go.IntKind.u8 0), (Go.Value.int Go.IntKind.u8 0), (Go.Value.int Go.IntKind.u8 0), (Go.Value.int Go.IntKind.u8 0), (Go.Value.int Go.IntKind.u8 0), (Go.Value.int Go.IntKind.u8 0), (Go.Value.int Go.IntKind.u8 0), (Go.Value.int Go.IntKind.u8 0), (Go.Value.int Go.IntKind.u8 0), (Go.Value.int Go.IntKind.u8 0), (Go.Value.int Go.IntKind.u8 0), (Go.Value.int Go.IntKind.u8 0), (Go.Value.int Go.IntKind.u8 0), (Go.Value.int Go.IntKind.u8 0), (Go.Value.int Go.IntKind.u8 0), (Go.Value.int Go.IntKind.u8 0), (Go.Value.int Go.IntKind.u8 0), (Go.Value.int Go.IntKind.u8 0), (Go.Value.int Go.IntKind.u8 0), (Go.Value.int Go.IntKind.u8 0), (Go.Value.int Go.IntKind.u8 0), (Go.Value.int Go.IntKind.u8 0), (Go.Value.int Go.IntKind.u8 0), (Go.Value.int Go.IntKind.u8 0), (Go.Value.int Go.IntKind.u8 0), (Go.Value.int Go.IntKind.u8 0), (Go.Value.int Go.IntKind.u8 0), (Go.Value.int Go.IntKind.u8 0), (Go.Value.int Go.IntKind.u8 0), (Go.Value.int Go.IntKind.u8 0), (Go.Value.int Go.IntKind.u8 0), (Go.Value.int Go.IntKind.u8 0), (Go.Value.int Go.IntKind.u8 0), (Go.Value.int Go.IntKind.u8 0), (Go.Value.int Go.IntKind.u8 0), (Go.Value.int Go.IntKind.u8 0), (Go.Value.int Go.IntKind.u8 0), (Go.Value.int Go.IntKind.u8 0), (Go.Value.int Go.IntKind.u8 0), (Go.Value.int Go.IntKind.u8 0), (Go.Value.int Go.IntKind.u8 0), (Go.Value.int Go.IntKind.u8 0), (Go.Value.int Go.IntKind.u8 0), (Go.Value.int Go.IntKind.u8 0), (Go.Value.int Go.IntKind.u8 0), (Go.Value.int Go.IntKind.u8 0), (Go.Value.int Go.IntKind.u8 0), (Go.Value.int Go.IntKind.u8 0), (Go.Value.int Go.IntKind.u8 0), (Go.Value.int Go.IntKind.u8 0), (Go.Value.int Go.IntKind.u8 0), (Go.Value.int Go.IntKind.u8 0), (Go.Value.int Go.IntKind.u8 0), (Go.Value.int Go.IntKind.u8 0), (Go.Value.int Go.IntKind.u8 0), (Go.Value.int Go.IntKind.u8 0), (Go.Value.int Go.IntKind.u8 0), (Go.Value.int Go.IntKind.u8 0), (Go.Value.int Go.IntKind.u8 0), (Go.Value.int Go.IntKind.u8 0), (Go.Value.int Go.IntKind.u8 0), (Go.Value.int Go.IntKind.u8 0), (Go.Value.int Go.IntKind.u8 0), (Go.Value.int Go.IntKind.u8 0), (Go.Value.int Go.IntKind.u8 0), (Go.Value.int Go.IntKind.u8 0), (Go.Value.int Go.IntKind.u8 0), (Go.Value.int Go.IntKind.u8 0), (Go.Value.int Go.IntKind.u8 0), (Go.Value.int Go.IntKind.u8 0), (Go.Value.int Go.IntKind.u8 0), (Go.Value.int Go.IntKind.u8 0), (Go.Value.int Go.IntKind.u8 0), (Go.Value.int Go.IntKind.u8 0), (Go.Value.int Go.IntKind.u8 0), (Go.Value.int Go.IntKind.u8 0), (Go.Value.int Go.IntKind.u8 0), (Go.Value.int Go.IntKind.u8 0), (Go.Value.int Go.IntKind.u8 0), (Go.Value.int Go.IntKind.u8 0), (Go.Value.int Go.IntKind.u8 0), (Go.Value.int Go.IntKind.u8 0), (Go.Value.int Go.IntKind.u8 0), (Go.Value.int Go.IntKind.u8 0), (Go.Value.int Go.IntKind.u8 0), (Go.Value.int Go.IntKind.u8 0), (Go.Value.int Go.IntKind.u8 0), (Go.Value.int Go.IntKind.u8 0), (Go.Value.int Go.IntKind.u8 0), (Go.Value.int Go.IntKind.u8 0), (Go.Value.int Go.IntKind.u8 0), (Go.Value.int Go.IntKind.u8 0), (Go.Value.int Go.IntKind.u8 0), (Go.Value.int Go.IntKind.u8 0), (Go.Value.int Go.IntKind.u8 0), (Go.Value.int Go.IntKind.u8 0), (Go.Value.int Go.IntKind.u8 0), (Go.Value.int Go.IntKind.u8 0), (Go.Value.int Go.IntKind.u8 0), (Go.Value.int Go.IntKind.u8 0), (Go.Value.int Go.IntKind.u8 0), (Go.Value.int Go.IntKind.u8 0), (Go.Value.int Go.IntKind.u8 0), (Go.Value.int Go.IntKind.u8 0), (Go.Value.int Go.IntKind.u8 0), (Go.Value.int Go.IntKind.u8 0), (Go.Value.int Go.IntKind.u8 0), (Go.Value.int Go.IntKind.u8 0), (Go.Value.int Go.IntKind.u8 0), (Go.Value.int Go.IntKind.u8 0), (Go.Value.int Go.IntKind.u8 0), (Go.Value.int Go.IntKind.u8 0), (Go.Value.int Go.IntKind.u8 0), (Go.Value.int Go.IntKind.u8 0), (Go.Value.int Go.IntKind.u8 0), (Go.Value.int Go.IntKind.u8 0), (Go.Value.int Go.IntKind.u8 0), (Go.Value.int Go.IntKind.u8 0), (Go.Value.int Go.IntKind.u8 0), (Go.Value.int Go.IntKind.u8 0), (Go.Value.int Go.IntKind.u8 0), (Go.Value.int Go.IntKind.u8 0), (Go.Value.int Go.IntKind.u8 0), (Go.Value.int Go.IntKind.u8 0), (Go.Value.int Go.IntKind.u8 0), (Go.Value.int Go.IntKind.u8 0), (Go.Value.int Go.IntKind.u8 0), (Go.Value.int Go.IntKind.u8 0), (Go.Value.int Go.IntKind.u8 0), (Go.Value.int Go.IntKind.u8 0), (Go.Value.int Go.IntKind.u8 0), (Go.Value.int Go.IntKind.u8 0), (Go.Value.int Go.IntKind.u8 0), (Go.Value.int Go.IntKind.u8 0), (Go.Value.int Go.IntKind.u8 0), (Go.Value.int Go.IntKind.u8 0), (Go.Value.int Go.IntKind.u8 0), (Go.Value.int Go.IntKind.u8 0), (Go.Value.int Go.IntKind.u8 0), (Go.Value.int Go.IntKind.u8 0), (Go.Value.int Go.IntKind.u8 0), (Go.Value.int Go.IntKind.u8 0), (Go.Value.int Go.IntKind.u8 0), (Go.Value.int Go.IntKind.u8 0), (Go.Value.int Go.IntKind.u8 0), (Go.Value.int Go.IntKind.u8 0), (Go.Value.int Go.IntKind.u8 0), (Go.Value.int Go.IntKind.u8 0), (Go.Value.int Go.IntKind.u8 0), (Go.Value.int Go.IntKind.u8 0), (Go.Value.int Go.IntKind.u8 0), (Go.Value.int Go.IntKind.u8 0), (Go.Value.int Go.IntKind.u8 0), (Go.Value.int Go.IntKind.u8 0), (Go.Value.int Go.IntKind.u8 0), (Go.Value.int Go.IntKind.u8 0), (Go.Value.int Go.IntKind.u8 0), (Go.Value.int Go.IntKind.u8 0), (Go.Value.int Go.IntKind.u8 0), (Go.Value.int Go.IntKind.u8 0), (Go.Value.int Go.IntKind.u8 0), (Go.Value.int Go.IntKind.u8 0), (Go.Value.int Go.IntKind.u8 0), (Go.Value.int Go.IntKind.u8 0), (Go.Value.int Go.IntKind.u8 0), (Go.Value.int Go.IntKind.u8 0), (Go.Value.int Go.IntKind.u8 0), (Go.Value.int Go.IntKind.u8 0), (Go.Value.int Go.IntKind.u8 0), (Go.Value.int Go.IntKind.u8 0), (Go.Value.int Go.IntKind.u8 0), (Go.Value.int Go.IntKind.u8 0), (Go.Value.int Go.IntKind.u8 0), (Go.Value.int Go.IntKind.u8 0), (Go.Value.int Go.IntKind.u8 0), (Go.Value.int Go.IntKind.u8 0), (Go.Value.int Go.IntKind.u8 0), (Go.Value.int Go.IntKind.u8 0), (Go.Value.int Go.IntKind.u8 0), (Go.Value.int Go.IntKind.u8 0), (Go.Value.int Go.IntKind.u8 0), (Go.Value.int Go.IntKind.u8 0), (Go.Value.int Go.IntKind.u8 0), (Go.Value.int Go.IntKind.u8 0), (Go.Value.int Go.IntKind.u8 0), (Go.Value.int Go.IntKind.u8 0), (Go.Value.int Go.IntKind.u8 0), (Go.Value.int Go.IntKind.u8 0), (Go.Value.int Go.IntKind.u8 0), (Go.Value.int Go.IntKind.u8 0), (Go.Value.int Go.IntKind.u8 0), (Go.Value.int Go.IntKind.u8 0), (Go.Value.int Go.IntKind.u8 0), (Go.Value.int Go.IntKind.u8 0), (Go.Value.int Go.IntKind.u8 0), (Go.Value.int Go.IntKind.u8 0), (Go.Value.int Go.IntKind.u8 0), (Go.Value.int Go.IntKind.u8 0), (Go.Value.int Go.IntKind.u8 0), (Go.Value.int Go.IntKind.u8 0), (Go.Value.int Go.IntKind.u8 0), (Go.Value.int Go.IntKind.u8 0), (Go.Value.int Go.IntKind.u8 0), (Go.Value.int Go.IntKind.u8 0), (Go.Value.int Go.IntKind.u8 0), (Go.Value.int Go.IntKind.u8 0), (Go.Value.int Go.IntKind.u8 0), (Go.Value.int Go.IntKind.u8 0), (Go.Value.int Go.IntKind.u8 0), (Go.Value.int Go.IntKind.u8 0), (Go.Value.int Go.IntKind.u8 0), (Go.Value.int Go.IntKind.u8 0), (Go.Value.int Go.IntKind.u8 0), (Go.Value.int Go.IntKind.u8 0), (Go.Value.int Go.IntKind.u8 0), (Go.Value.int Go.IntKind.u8 0), (Go.Value.int Go.IntKind.u8 0), (Go.Value.int Go.IntKind.u8 0), (Go.Value.int Go.IntKind.u8 0), (Go.Value.int Go.IntKind.u8 0), (Go.Value.int Go.IntKind.u8 0), (Go.Value.int Go.IntKind.u8 0), (Go.Value.int Go.IntKind.u8 0), (Go.Value.int Go.IntKind.u8 0), (Go.Value.int Go.IntKind.u8 0), (Go.Value.int Go.IntKind.u8 0), (Go.Value.int Go.IntKind.u8 0), (Go.Value.int Go.IntKind.u8 0), (Go.Value.int Go.IntKind.u8 0), (Go.Value.int Go.IntKind.u8 0), (Go.Value.int Go.IntKind.u8 0), (Go.Value.int Go.IntKind.u8 0), (Go.Value.int Go.IntKind.u8 0), (Go.Value.int Go.IntKind.u8 0), (Go.Value.int Go.IntKind.u8 0), (Go.Value.int Go.IntKind.u8 0)]⟩,
  ⟨.fn, (.sc .fn), 1, 8, [Go.Value.nilFunc]⟩,
  ⟨.array 256 3, (.arr (.int .i64)), 256, 2048, [(Go.Value.int Go.IntKind.i64 0), (Go.Value.int Go.IntKind.i64 0), (Go.Value.int Go.IntKind.i64 0), (Go.Value.int Go.IntKind.i64 0), (Go.Value.int Go.IntKind.i64 0), (Go.Value.int Go.IntKind.i64 0), (Go.Value.int Go.IntKind.i64 0), (Go.Value.int Go.IntKind.i64 0), (Go.Value.int Go.IntKind.i64 0), (Go.Value.int Go.IntKind.i64 0), (Go.Value.int Go.IntKind.i64 0), (Go.Value.int Go.IntKind.i64 0), (Go.Value.int Go.IntKind.i64 0), (Go.Value.int Go.IntKind.i64 0), (Go.Value.int Go.IntKind.i64 0), (Go.Value.int Go.IntKind.i64 0), (Go.Value.int Go.IntKind.i64 0), (Go.Value.int Go.IntKind.i64 0), (Go.Value.int Go.IntKind.i64 0), (Go.Value.int Go.IntKind.i64 0), (Go.Value.int Go.IntKind.i64 0), (Go.Value.int Go.IntKind.i64 0), (Go.Value.int Go.IntKind.i64 0), (Go.Value.int Go.IntKind.i64 0), (Go.Value.int Go.IntKind.i64 0), (Go.Value.int Go.IntKind.i64 0), (Go.Value.int Go.IntKind.i64 0), (Go.Value.int Go.IntKind.i64 0), (Go.Value.int Go.IntKind.i64 0), (Go.Value.int Go.IntKind.i64 0), (Go.Value.int Go.IntKind.i64 0), (Go.Value.int Go.IntKind.i64 0), (Go.Value.int Go.IntKind.i64 0), (Go.Value.int Go.IntKind.i64 0), (Go.Value.int Go.IntKind.i64 0), (Go.Value.int Go.IntKind.i64 0), (Go.Value.int Go.IntKind.i64 0), (Go.Value.int Go.IntKind.i64 0), (Go.Value.int Go.IntKind.i64 0), (Go.Value.int Go.IntKind.i64 0), (Go.Value.int Go.IntKind.i64 0), (Go.Value.int Go.IntKind.i64 0), (Go.Value.int Go.IntKind.i64 0), (Go.Value.int Go.IntKind.i64 0), (Go.Value.int Go.IntKind.i64 0), (Go.Value.int Go.IntKind.i64 0), (Go.Value.int Go.IntKind.i64 0), (Go.Value.int Go.IntKind.i64 0), (Go.Value.int Go.IntKind.i64 0), (Go.Value.int Go.IntKind.i64 0), (Go.Value.int Go.IntKind.i64 0), (Go.Value.int Go.IntKind.i64 0), (Go.Value.int Go.IntKind.i64 0), (Go.Value.int Go.IntKind.i64 0), (Go.Value.int Go.IntKind.i64 0), (Go.Value.int Go.IntKind.i64 0), (Go.Value.int Go.IntKind.i64 0), (Go.Value.int Go.IntKind.i64 0), (Go.Value.int Go.IntKind.i64 0), (Go.Value.int Go.IntKind.i64 0), (Go.Value.int Go.IntKind.i64 0), (Go.Value.int Go.IntKind.i64 0), (Go.Value.int Go.IntKind.i64 0), (Go.Value.int Go.IntKind.i64 0), (Go.Value.int Go.IntKind.i64 0), (Go.Value.int Go.IntKind.i64 0), (Go.Value.int Go.IntKind.i64 0), (Go.Value.int Go.IntKind.i64 0), (Go.Value.int Go.IntKind.i64 0), (Go.Value.int Go.IntKind.i64 0), (Go.Value.int Go.IntKind.i64 0), (Go.Value.int Go.IntKind.i64 0), (Go.Value.int Go.IntKind.i64 0), (Go.Value.int Go.IntKind.i64 0), (Go.Value.int Go.IntKind.i64 0), (Go.Value.int Go.IntKind.i64 0), (Go.Value.int Go.IntKind.i64 0), (Go.Value.int Go.IntKind.i64 0), (Go.Value.int Go.IntKind.i64 0), (Go.Value.int Go.IntKind.i64 0), (Go.Value.int Go.IntKind.i64 0), (Go.Value.int Go.IntKind.i64 0), (Go.Value.int Go.IntKind.i64 0), (Go.Value.int Go.IntKind.i64 0), (Go.Value.int Go.IntKind.i64 0), (Go.Value.int Go.IntKind.i64 0), (Go.Value.int Go.IntKind.i64 0), (Go.Value.int Go.IntKind.i64 0), (Go.Value.int Go.IntKind.i64 0), (Go.Value.int Go.IntKind.i64 0), (Go.Value.int Go.IntKind.i64 0), (Go.Value.int Go.IntKind.i64 0), (Go.Value.int Go.IntKind.i64 0), (Go.Value.int Go.IntKind.i64 0), (Go.Value.int Go.IntKind.i64 0), (Go.Value.int Go.IntKind.i64 0), (Go.Value.int Go.IntKind.i64 0), (Go.Value.int Go.IntKind.i64 0), (Go.Value.int Go.IntKind.i64 0), (Go.Value.int Go.IntKind.i64 0), (Go.Value.int Go.IntKind.i64 0), (Go.Value.int Go.IntKind.i64 0), (Go.Value.int Go.IntKind.i64 0), (Go.Value.int Go.IntKind.i64 0), (Go.Value.int Go.IntKind.i64 0), (Go.Value.int Go.IntKind.i64 0), (Go.Value.int Go.IntKind.i64 0), (Go.Value.int Go.IntKind.i64 0), (Go.Value.int Go.IntKind.i64 0), (Go.Value.int Go.IntKind.i64 0), (Go.Value.int Go.IntKind.i64 0), (Go.Value.int Go.IntKind.i64 0), (Go.Value.int Go.IntKind.i64 0), (Go.Value.int Go.IntKind.i64 0), (Go.Value.int Go.IntKind.i64 0), (Go.Value.int Go.IntKind.i64 0), (Go.Value.int Go.IntKind.i64 0), (Go.Value.int Go.IntKind.i64 0), (Go.Value.int Go.IntKind.i64 0), (Go.Value.int Go.IntKind.i64 0), (Go.Value.int Go.IntKind.i64 0), (Go.Value.int Go.IntKind.i64 0), (Go.Value.int Go.IntKind.i64 0), (Go.Value.int Go.IntKind.i64 0), (Go.Value.int Go.IntKind.i64 0), (Go.Value.int Go.IntKind.i64 0), (Go.Value.int Go.IntKind.i64 0), (Go.Value.int Go.IntKind.i64 0), (Go.Value.int Go.IntKind.i64 0), (Go.Value.int Go.IntKind.i64 0), (Go.Value.int Go.IntKind.i64 0), (Go.Value.int Go.IntKind.i64 0), (Go.Value.int Go.IntKind.i64 0), (Go.Value.int Go.IntKind.i64 0), (Go.Value.int Go.IntKind.i64 0), (Go.Value.int Go.IntKind.i64 0), (Go.Value.int Go.IntKind.i64 0), (Go.Value.int Go.IntKind.i64 0), (Go.Value.int Go.IntKind.i64 0), (Go.Value.int Go.IntKind.i64 0), (Go.Value.int Go.IntKind.i64 0), (Go.Value.int Go.IntKind.i64 0), (Go.Value.int Go.IntKind.i64 0), (Go.Value.int Go.IntKind.i64 0), (Go.Value.int Go.IntKind.i64 0), (Go.Value.int Go.IntKind.i64 0), (Go.Value.int Go.IntKind.i64 0), (Go.Value.int Go.IntKind.i64 0), (Go.Value.int Go.IntKind.i64 0), (Go.Value.int Go.IntKind.i64 0), (Go.Value.int Go.IntKind.i64 0), (Go.Value.int Go.IntKind.i64 0), (Go.Value.int Go.IntKind.i64 0), (Go.Value.int Go.IntKind.i64 0), (Go.Value.int Go.IntKind.i64 0), (Go.Value.int Go.IntKind.i64 0), (Go.Value.int Go.IntKind.i64 0), (Go.Value.int Go.IntKind.i64 0), (Go.Value.int Go.IntKind.i64 0), (Go.Value.int Go.IntKind.i64 0), (Go.Value.int Go.IntKind.i64 0), (Go.Value.int Go.IntKind.i64 0), (Go.Value.int Go.IntKind.i64 0), (Go.Value.int Go.IntKind.i64 0), (Go.Value.int Go.IntKind.i64 0), (Go.Value.int Go.IntKind.i64 0), (Go.Value.int Go.IntKind.i64 0), (Go.Value.int Go.IntKind.i64 0), (Go.Value.int Go.IntKind.i64 0), (Go.Value.int Go.IntKind.i64 0), (Go.Value.int Go.IntKind.i64 0), (Go.Value.int Go.IntKind.i64 0), (Go.Value.int Go.IntKind.i64 0), (Go.Value.int Go.IntKind.i64 0), (Go.Value.int Go.IntKind.i64 0), (Go.Value.int Go.IntKind.i64 0), (Go.Value.int Go.IntKind.i64 0), (Go.Value.int Go.IntKind.i64 0), (Go.Value.int Go.IntKind.i64 0), (Go.Value.int Go.IntKind.i64 0), (Go.Value.int Go.IntKind.i64 0), (Go.Value.int Go.IntKind.i64 0), (Go.Value.int Go.IntKind.i64 0), (Go.Value.int Go.IntKind.i64 0), (Go.Value.int Go.IntKind.i64 0), (Go.Value.int Go.IntKind.i64 0), (Go.Value.int Go.IntKind.i64 0), (Go.Value.int Go.IntKind.i64 0), (Go.Value.int Go.IntKind.i64 0), (Go.Value.int Go.IntKind.i64 0), (Go.Value.int Go.IntKind.i64 0), (Go.Value.int Go.IntKind.i64 0), (Go.Value.int Go.IntKind.i64 0), (Go.Value.int Go.IntKind.i64 0), (Go.Value.int Go.IntKind.i64 0), (Go.Value.int Go.IntKind.i64 0), (Go.Value.int Go.IntKind.i64 0), (Go.Value.int Go.IntKind.i64 0), (Go.Value.int Go.IntKind.i64 0), (Go.Value.int Go.IntKind.i64 0), (Go.Value.int Go.IntKind.i64 0), (Go.Value.int Go.IntKind.i64 0), (Go.Value.int Go.IntKind.i64 0), (Go.Value.int Go.IntKind.i64 0), (Go.Value.int Go.IntKind.i64 0), (Go.Value.int Go.IntKind.i64 0), (Go.Value.int Go.IntKind.i64 0), (Go.Value.int Go.IntKind.i64 0), (Go.Value.int Go.IntKind.i64 0), (Go.Value.int Go.IntKind.i64 0), (Go.Value.int Go.IntKind.i64 0), (Go.Value.int Go.IntKind.i64 0), (Go.Value.int Go.IntKind.i64 0), (Go.Value.int Go.IntKind.i64 0), (Go.Value.int Go.IntKind.i64 0), (Go.Value.int Go.IntKind.i64 0), (Go.Value.int Go.IntKind.i64 0), (Go.Value.int Go.IntKind.i64 0), (Go.Value.int Go.IntKind.i64 0), (Go.Value.int Go.IntKind.i64 0), (Go.Value.int Go.IntKind.i64 0), (Go.Value.int Go.IntKind.i64 0), (Go.Value.int Go.IntKind.i64 0), (Go.Value.int Go.IntKind.i64 0), (Go.Value.int Go.IntKind.i64 0), (Go.Value.int Go.IntKind.i64 0), (Go.Value.int Go.IntKind.i64 0), (Go.Value.int Go.IntKind.i64 0), (Go.Value.int Go.IntKind.i64 0), (Go.Value.int Go.IntKind.i64 0), (Go.Value.int Go.IntKind.i64 0), (Go.Value.int Go.IntKind.i64 0), (Go.Value.int Go.IntKind.i64 0), (Go.Value.int Go.IntKind.i64 0), (Go.Value.int Go.IntKind.i64 0), (Go.Value.int Go.IntKind.i64 0), (Go.Value.int Go.IntKind.i64 0), (Go.Value.int Go.IntKind.i64 0), (Go.Value.int Go.IntKind.i64 0), (Go.Value.int Go.IntKind.i64 0), (Go.Value.int Go.IntKind.i64 0), (Go.Value.int Go.IntKind.i64 0), (Go.Value.int Go.IntKind.i64 0), (Go.Value.int Go.IntKind.i64 0), (Go.Value.int Go.IntKind.i64 0), (Go.Value.int Go.IntKind.i64 0), (Go.Value.int Go.IntKind.i64 0), (Go.Value.int Go.IntKind.i64 0), (Go.Value.int Go.IntKind.i64 0), (Go.Value.int Go.IntKind.i64 0), (Go.Value.int Go.IntKind.i64 0), (Go.Value.int Go.IntKind.i64 0), (Go.Value.int Go.IntKind.i64 0), (Go.Value.int Go.IntKind.i64 0), (Go.Value.int Go.IntKind.i64 0), (Go.Value.int Go.IntKind.i64 0)]⟩,
  ⟨.fn, (.sc .fn), 1, 8, [Go.Value.nilFunc]⟩,
  ⟨.struct [(0, 56), (255, 58)], (.arr .any), 511, 2304, [(Go.Value.int Go.IntKind.u8 0), (Go.Value.int Go.IntKind.u8 0), (Go.Value.int Go.IntKind.u8 0), (Go.Value.int Go.IntKind.u8 0), (Go.Value.int Go.IntKind.u8 0), (Go.Value.int Go.IntKind.u8 0), (Go.Value.int Go.IntKind.u8 0), (Go.Value.int Go.IntKind.u8 0), (Go.Value.int Go.IntKind.u8 0), (Go.Value.int Go.IntKind.u8 0), (Go.Value.int Go.IntKind.u8 0), (Go.Value.int Go.IntKind.u8 0), (Go.Value.int Go.IntKind.u8 0), (Go.Value.int Go.IntKind.u8 0), (Go.Value.int Go.IntKind.u8 0), (Go.Value.int Go.IntKind.u8 0), (Go.Value.int Go.IntKind.u8 0), (Go.Value.int Go.IntKind.u8 0), (Go.Value.int Go.IntKind.u8 0), (Go.Value.int Go.IntKind.u8 0), (Go.Value.int Go.IntKind.u8 0), (Go.Value.int Go.IntKind.u8 0), (Go.Value.int Go.IntKind.u8 0), (Go.Value.int Go.IntKind.u8 0), (Go.Value.int Go.IntKind.u8 0), (Go.Value.int Go.IntKind.u8 0), (Go.Value.int Go.IntKind.u8 0), (Go.Value.int Go.IntKind.u8 0), (Go.Value.int Go.IntKind.u8 0), (Go.Value.int Go.IntKind.u8 0), (Go.Value.int Go.IntKind.u8 0), (Go.Value.int Go.IntKind.u8 0), (Go.Value.int Go.IntKind.u8 0), (Go.Value.int Go.IntKind.u8 0), (Go.Value.int Go.IntKind.u8 0), (Go.Value.int Go.IntKind.u8 0), (Go.Value.int Go.IntKind.u8 0), (Go.Value.int Go.IntKind.u8 0), (Go.Value.int Go.IntKind.u8 0), (Go.Value.int Go.IntKind.u8 0), (Go.Value.int Go.IntKind.u8 0), (Go.Value.int Go.IntKind.u8 0), (Go.Value.int Go.IntKind.u8 0), (Go.Value.int Go.IntKind.u8 0), (Go.Value.int Go.IntKind.u8 0), (Go.Value.int Go.IntKind.u8 0), (Go.Value.int Go.IntKind.u8 0), (Go.Value.int Go.IntKind.u8 0), (Go.Value.int Go.IntKind.u8 0), (Go.Value.int Go.IntKind.u8 0), (Go.Value.int Go.IntKind.u8 0), (Go.Value.int Go.IntKind.u8 0), (Go.Value.int Go.IntKind.u8 0), (Go.Value.int Go.IntKind.u8 0), (Go.Value.int Go.IntKind.u8 0), (Go.Value.int Go.IntKind.u8 0), (Go.Value.int Go.IntKind.u8 0), (Go.Value.int Go.IntKind.u8 0), (Go.Value.int Go.IntKind.u8 0), (Go.Value.int Go.IntKind.u8 0), (Go.Value.int Go.IntKind.u8 0), (Go.Value.int Go.IntKind.u8 0), (Go.Value.int Go.IntKind.u8 0), (Go.Value.int Go.IntKind.u8 0), (Go.Value.int Go.IntKind.u8 0), (Go.Value.int Go.IntKind.u8 0), (Go.Value.int Go.IntKind.u8 0), (Go.Value.int Go.IntKind.u8 0), (Go.Value.int Go.IntKind.u8 0), (Go.Value.int Go.IntKind.u8 0), (Go.Value.int Go.IntKind.u8 0), (Go.Value.int Go.IntKind.u8 0), (Go.Value.int Go.IntKind.u8 0), (Go.Value.int Go.IntKind.u8 0), (Go.Value.int Go.IntKind.u8 0), (Go.Value.int Go.IntKind.u8 0), (Go.Value.int Go.IntKind.u8 0), (Go.Value.int Go.IntKind.u8 0), (Go.Value.int Go.IntKind.u8 0), (Go.Value.int Go.IntKind.u8 0), (Go.Value.int Go.IntKind.u8 0), (Go.Value.int Go.IntKind.u8 0), (Go.Value.int Go.IntKind.u8 0), (Go.Value.int Go.IntKind.u8 0), (Go.Value.int Go.IntKind.u8 0), (Go.Value.int Go.IntKind.u8 0), (Go.Value.int Go.IntKind.u8 0), (Go.Value.int Go.IntKind.u8 0), (Go.Value.int Go.IntKind.u8 0), (Go.Value.int Go.IntKind.u8 0), (Go.Value.int Go.IntKind.u8 0), (Go.Value.int Go.IntKind.u8 0), (Go.Value.int Go.IntKind.u8 0), (Go.Value.int Go.IntKind.u8 0), (Go.Value.int Go.IntKind.u8 0), (Go.Value.int Go.IntKind.u8 0), (Go.Value.int Go.IntKind.u8 0), (Go.Value.int Go.IntKind.u8 0), (Go.Value.int Go.IntKind.u8 0), (Go.Value.int Go.IntKind.u8 0), (Go.Value.int Go.IntKind.u8 0), (Go.Value.int Go.IntKind.u8 0), (Go.Value.int Go.IntKind.u8 0), (Go.Value.int Go.IntKind.u8 0), (Go.Value.int Go.IntKind.u8 0), (Go.Value.int Go.IntKind.u8 0), (Go.Value.int Go.IntKind.u8 0), (Go.Value.int Go.IntKind.u8 0), (Go.Value.int Go.IntKind.u8 0), (Go.Value.int Go.IntKind.u8 0), (Go.Value.int Go.IntKind.u8 0), (Go.Value.int Go.IntKind.u8 0), (Go.Value.int Go.IntKind.u8 0), (Go.Value.int Go.IntKind.u8 0), (Go.Value.int Go.IntKind.u8 0), (Go.Value.int Go.IntKind.u8 0), (Go.Value.int Go.IntKind.u8 0), (Go.Value.int Go.IntKind.u8 0), (Go.Value.int Go.IntKind.u8 0), (Go.Value.int Go.IntKind.u8 0), (Go.Value.int Go.IntKind.u8 0), (Go.Value.int Go.IntKind.u8 0), (Go.Value.int Go.IntKind.u8 0), (Go.Value.int Go.IntKind.u8 0), (Go.Value.int Go.IntKind.u8 0), (Go.Value.int Go.IntKind.u8 0), (Go.Value.int Go.IntKind.u8 0), (Go.Value.int Go.IntKind.u8 0), (Go.Value.int Go.IntKind.u8 0), (Go.Value.int Go.IntKind.u8 0), (Go.Value.int Go.IntKind.u8 0), (Go.Value.int Go.IntKind.u8 0), (Go.Value.int Go.IntKind.u8 0), (Go.Value.int Go.IntKind.u8 0), (Go.Value.int Go.IntKind.u8 0), (Go.Value.int Go.IntKind.u8 0), (Go.Value.int Go.IntKind.u8 0), (Go.Value.int Go.IntKind.u8 0), (Go.Value.int Go.IntKind.u8 0), (Go.Value.int Go.IntKind.u8 0), (Go.Value.int Go.IntKind.u8 0), (Go.Value.int Go.IntKind.u8 0), (Go.Value.int Go.IntKind.u8 0), (Go.Value.int Go.IntKind.u8 0), (Go.Value.int Go.IntKind.u8 0), (Go.Value.int Go.IntKind.u8 0), (Go.Value.int Go.IntKind.u8 0), (Go.Value.int Go.IntKind.u8 0), (Go.Value.int Go.IntKind.u8 0), (Go.Value.int Go.IntKind.u8 0), (Go.Value.int Go.IntKind.u8 0), (Go.Value.int Go.IntKind.u8 0), (Go.Value.int Go.IntKind.u8 0), (Go.Value.int Go.IntKind.u8 0), (Go.Value.int Go.IntKind.u8 0), (Go.Value.int Go.IntKind.u8 0), (Go.Value.int Go.IntKind.u8 0), (Go.Value.int Go.IntKind.u8 0), (Go.Value.int Go.IntKind.u8 0), (Go.Value.int Go.IntKind.u8 0), (Go.Value.int Go.IntKind.u8 0), (Go.Value.int Go.IntKind.u8 0), (Go.Value.int Go.IntKind.u8 0), (Go.Value.int Go.IntKind.u8 0), (Go.Value.int Go.IntKind.u8 0), (Go.Value.int Go.IntKind.u8 0), (Go.Value.int Go.IntKind.u8 0), (Go.Value.int Go.IntKind.u8 0), (Go.Value.int Go.IntKind.u8 0), (Go.Value.int Go.IntKind.u8 0), (Go.Value.int Go.IntKind.u8 0), (Go.Value.int Go.IntKind.u8 0), (Go.Value.int Go.IntKind.u8 0), (Go.Value.int Go.IntKind.u8 0), (Go.Value.int Go.IntKind.u8 0), (Go.Value.int Go.IntKind.u8 0), (Go.Value.int Go.IntKind.u8 0), (Go.Value.int Go.IntKind.u8 0), (Go.Value.int Go.IntKind.u8 0), (Go.Value.int Go.IntKind.u8 0), (Go.Value.int Go.IntKind.u8 0), (Go.Value.int Go.IntKind.u8 0), (Go.Value.int Go.IntKind.u8 0), (Go.Value.int Go.IntKind.u8 0), (Go.Value.int Go.IntKind.u8 0), (Go.Value.int Go.IntKind.u8 0), (Go.Value.int Go.IntKind.u8 0), (Go.Value.int Go.IntKind.u8 0), (Go.Value.int Go.IntKind.u8 0), (Go.Value.int Go.IntKind.u8 0), (Go.Value.int Go.IntKind.u8 0), (Go.Value.int Go.IntKind.u8 0), (Go.Value.int Go.IntKind.u8 0), (Go.Value.int Go.IntKind.u8 0), (Go.Value.int Go.IntKind.u8 0), (Go.Value.int Go.IntKind.u8 0), (Go.Value.int Go.IntKind.u8 0), (Go.Value.int Go.IntKind.u8 0), (Go.Value.int Go.IntKind.u8 0), (Go.Value.int Go.IntKind.u8 0), (Go.Value.int Go.IntKind.u8 0), (Go.Value.int Go.IntKind.u8 0), (Go.Value.int Go.IntKind.u8 0), (Go.Value.int Go.IntKind.u8 0), (Go.Value.int Go.IntKind.u8 0), (Go.Value.int Go.IntKind.u8 0), (Go.Value.int Go.IntKind.u8 0), (Go.Value.int Go.IntKind.u8 0), (Go.Value.int Go.IntKind.u8 0), (Go.Value.int Go.IntKind.u8 0), (Go.Value.int Go.IntKind.u8 0), (Go.Value.int Go.IntKind.u8 0), (Go.Value.int Go.IntKind.u8 0), (Go.Value.int Go.IntKind.u8 0), (Go.Value.int Go.IntKind.u8 0), (Go.Value.int Go.IntKind.u8 0), (Go.Value.int Go.IntKind.u8 0), (Go.Value.int Go.IntKind.u8 0), (Go.Value.int Go.IntKind.u8 0), (Go.Value.int Go.IntKind.u8 0), (Go.Value.int Go.IntKind.u8 0), (Go.Value.int Go.IntKind.u8 0), (Go.Value.int Go.IntKind.u8 0), (Go.Value.int Go.IntKind.u8 0), (Go.Value.int Go.IntKind.u8 0), (Go.Value.int Go.IntKind.u8 0), (Go.Value.int Go.IntKind.u8 0), (Go.Value.int Go.IntKind.u8 0), (Go.Value.int Go.IntKind.u8 0), (Go.Value.int Go.IntKind.u8 0), (Go.Value.int Go.IntKind.u8 0), (Go.Value.int Go.IntKind.u8 0), (Go.Value.int Go.IntKind.u8 0), (Go.Value.int Go.IntKind.u8 0), (Go.Value.int Go.IntKind.u8 0), (Go.Value.int Go.IntKind.u8 0), (Go.Value.int Go.IntKind.u8 0), (Go.Value.int Go.IntKind.u8 0), (Go.Value.int Go.IntKind.u8 0), (Go.Value.int Go.IntKind.u8 0), (Go.Value.int Go.IntKind.u8 0), (Go.Value.int Go.IntKind.u8 0), (Go.Value.int Go.IntKind.u8 0), (Go.Value.int Go.IntKind.u8 0), (Go.Value.int Go.IntKind.u8 0), (Go.Value.int Go.IntKind.u8 0), (Go.Value.int Go.IntKind.u8 0), (Go.Value.int Go.IntKind.u8 0), (Go.Value.int Go.IntKind.u8 0), (Go.Value.int Go.IntKind.u8 0), (Go.Value.int Go.IntKind.u8 0), (Go.Value.int Go.IntKind.u8 0), (Go.Value.int Go.IntKind.u8 0), (Go.Value.int Go.IntKind.u8 0), (Go.Value.int Go.IntKind.u8 0), (Go.Value.int Go.IntKind.i64 0), (Go.Value.int Go.IntKind.i64 0), (Go.Value.int Go.IntKind.i64 0), (Go.Value.int Go.IntKind.i64 0), (Go.Value.int Go.IntKind.i64 0), (Go.Value.int Go.IntKind.i64 0), (Go.Value.int Go.IntKind.i64 0), (Go.Value.int Go.IntKind.i64 0), (Go.Value.int Go.IntKind.i64 0), (Go.Value.int Go.IntKind.i64 0), (Go.Value.int Go.IntKind.i64 0), (Go.Value.int Go.IntKind.i64 0), (Go.Value.int Go.IntKind.i64 0), (Go.Value.int Go.IntKind.i64 0), (Go.Value.int Go.IntKind.i64 0), (Go.Value.int Go.IntKind.i64 0), (Go.Value.int Go.IntKind.i64 0), (Go.Value.int Go.IntKind.i64 0), (Go.Value.int Go.IntKind.i64 0), (Go.Value.int Go.IntKind.i64 0), (Go.Value.int Go.IntKind.i64 0), (Go.Value.int Go.IntKind.i64 0), (Go.Value.int Go.IntKind.i64 0), (Go.Value.int Go.IntKind.i64 0), (Go.Value.int Go.IntKind.i64 0), (Go.Value.int Go.IntKind.i64 0), (Go.Value.int Go.IntKind.i64 0), (Go.Value.int Go.IntKind.i64 0), (Go.Value.int Go.IntKind.i64 0), (Go.Value.int Go.IntKind.i64 0), (Go.Value.int Go.IntKind.i64 0), (Go.Value.int Go.IntKind.i64 0), (Go.Value.int Go.IntKind.i64 0), (Go.Value.int Go.IntKind.i64 0), (Go.Value.int Go.IntKind.i64 0), (Go.Value.int Go.IntKind.i64 0), (Go.Value.int Go.IntKind.i64 0), (Go.Value.int Go.IntKind.i64 0), (Go.Value.int Go.IntKind.i64 0), (Go.Value.int Go.IntKind.i64 0), (Go.Value.int Go.IntKind.i64 0), (Go.Value.int Go.IntKind.i64 0), (Go.Value.int Go.IntKind.i64 0), (Go.Value.int Go.IntKind.i64 0), (Go.Value.int Go.IntKind.i64 0), (Go.Value.int Go.IntKind.i64 0), (Go.Value.int Go.IntKind.i64 0), (Go.Value.int Go.IntKind.i64 0), (Go.Value.int Go.IntKind.i64 0), (Go.Value.int Go.IntKind.i64 0), (Go.Value.int Go.IntKind.i64 0), (Go.Value.int Go.IntKind.i64 0), (Go.Value.int Go.IntKind.i64 0), (Go.Value.int Go.IntKind.i64 0), (Go.Value.int Go.IntKind.i64 0), (Go.Value.int Go.IntKind.i64 0), (Go.Value.int Go.IntKind.i64 0), (Go.Value.int Go.IntKind.i64 0), (Go.Value.int Go.IntKind.i64 0), (Go.Value.int Go.IntKind.i64 0), (Go.Value.int Go.IntKind.i64 0), (Go.Value.int Go.IntKind.i64 0), (Go.Value.int Go.IntKind.i64 0), (Go.Value.int Go.IntKind.i64 0), (Go.Value.int Go.IntKind.i64 0), (Go.Value.int Go.IntKind.i64 0), (Go.Value.int Go.IntKind.i64 0), (Go.Value.int Go.IntKind.i64 0), (Go.Value.int Go.IntKind.i64 0), (Go.Value.int Go.IntKind.i64 0), (Go.Value.int Go.IntKind.i64 0), (Go.Value.int Go.IntKind.i64 0), (Go.Value.int Go.IntKind.i64 0), (Go.Value.int Go.IntKind.i64 0), (Go.Value.int Go.IntKind.i64 0), (Go.Value.int Go.IntKind.i64 0), (Go.Value.int Go.IntKind.i64 0), (Go.Value.int Go.IntKind.i64 0), (Go.Value.int Go.IntKind.i64 0), (Go.Value.int Go.IntKind.i64 0), (Go.Value.int Go.IntKind.i64 0), (Go.Value.int Go.IntKind.i64 0), (Go.Value.int Go.IntKind.i64 0), (Go.Value.int Go.IntKind.i64 0), (Go.Value.int Go.IntKind.i64 0), (Go.Value.int Go.IntKind.i64 0), (Go.Value.int Go.IntKind.i64 0), (Go.Value.int Go.IntKind.i64 0), (Go.Value.int Go.IntKind.i64 0), (Go.Value.int Go.IntKind.i64 0), (Go.Value.int Go.IntKind.i64 0), (Go.Value.int Go.IntKind.i64 0), (Go.Value.int Go.IntKind.i64 0), (Go.Value.int Go.IntKind.i64 0), (Go.Value.int Go.IntKind.i64 0), (Go.Value.int Go.IntKind.i64 0), (Go.Value.int Go.IntKind.i64 0), (Go.Value.int Go.IntKind.i64 0), (Go.Value.int Go.IntKind.i64 0), (Go.Value.int Go.IntKind.i64 0), (Go.Value.int Go.IntKind.i64 0), (Go.Value.int Go.IntKind.i64 0), (Go.Value.int Go.IntKind.i64 0), (Go.Value.int Go.IntKind.i64 0), (Go.Value.int Go.IntKind.i64 0), (Go.Value.int Go.IntKind.i64 0), (Go.Value.int Go.IntKind.i64 0), (Go.Value.int Go.IntKind.i64 0), (Go.Value.int Go.IntKind.i64 0), (Go.Value.int Go.IntKind.i64 0), (Go.Value.int Go.IntKind.i64 0), (Go.Value.int Go.IntKind.i64 0), (Go.Value.int Go.IntKind.i64 0), (Go.Value.int Go.IntKind.i64 0), (Go.Value.int Go.IntKind.i64 0), (Go.Value.int Go.IntKind.i64 0), (Go.Value.int Go.IntKind.i64 0), (Go.Value.int Go.IntKind.i64 0), (Go.Value.int Go.IntKind.i64 0), (Go.Value.int Go.IntKind.i64 0), (Go.Value.int Go.IntKind.i64 0), (Go.Value.int Go.IntKind.i64 0), (Go.Value.int Go.IntKind.i64 0), (Go.Value.int Go.IntKind.i64 0), (Go.Value.int Go.IntKind.i64 0), (Go.Value.int Go.IntKind.i64 0), (Go.Value.int Go.IntKind.i64 0), (Go.Value.int Go.IntKind.i64 0), (Go.Value.int Go.IntKind.i64 0), (Go.Value.int Go.IntKind.i64 0), (Go.Value.int Go.IntKind.i64 0), (Go.Value.int Go.IntKind.i64 0), (Go.Value.int Go.IntKind.i64 0), (Go.Value.int Go.IntKind.i64 0), (Go.Value.int Go.IntKind.i64 0), (Go.Value.int Go.IntKind.i64 0), (Go.Value.int Go.IntKind.i64 0), (Go.Value.int Go.IntKind.i64 0), (Go.Value.int Go.IntKind.i64 0), (Go.Value.int Go.IntKind.i64 0), (Go.Value.int Go.IntKind.i64 0), (Go.Value.int Go.IntKind.i64 0), (Go.Value.int Go.IntKind.i64 0), (Go.Value.int Go.IntKind.i64 0), (Go.Value.int Go.IntKind.i64 0), (Go.Value.int Go.IntKind.i64 0), (Go.Value.int Go.IntKind.i64 0), (Go.Value.int Go.IntKind.i64 0), (Go.Value.int Go.IntKind.i64 0), (Go.Value.int Go.IntKind.i64 0), (Go.Value.int Go.IntKind.i64 0), (Go.Value.int Go.IntKind.i64 0), (Go.Value.int Go.IntKind.i64 0), (Go.Value.int Go.IntKind.i64 0), (Go.Value.int Go.IntKind.i64 0), (Go.Value.int Go.IntKind.i64 0), (Go.Value.int Go.IntKind.i64 0), (Go.Value.int Go.IntKind.i64 0), (Go.Value.int Go.IntKind.i64 0), (Go.Value.int Go.IntKind.i64 0), (Go.Value.int Go.IntKind.i64 0), (Go.Value.int Go.IntKind.i64 0), (Go.Value.int Go.IntKind.i64 0), (Go.Value.int Go.IntKind.i64 0), (Go.Value.int Go.IntKind.i64 0), (Go.Value.int Go.IntKind.i64 0), (Go.Value.int Go.IntKind.i64 0), (Go.Value.int Go.IntKind.i64 0), (Go.Value.int Go.IntKind.i64 0), (Go.Value.int Go.IntKind.i64 0), (Go.Value.int Go.IntKind.i64 0), (Go.Value.int Go.IntKind.i64 0), (Go.Value.int Go.IntKind.i64 0), (Go.Value.int Go.IntKind.i64 0), (Go.Value.int Go.IntKind.i64 0), (Go.Value.int Go.IntKind.i64 0), (Go.Value.int Go.IntKind.i64 0), (Go.Value.int Go.IntKind.i64 0), (Go.Value.int Go.IntKind.i64 0), (Go.Value.int Go.IntKind.i64 0), (Go.Value.int Go.IntKind.i64 0), (Go.Value.int Go.IntKind.i64 0), (Go.Value.int Go.IntKind.i64 0), (Go.Value.int Go.IntKind.i64 0), (Go.Value.int Go.IntKind.i64 0), (Go.Value.int Go.IntKind.i64 0), (Go.Value.int Go.IntKind.i64 0), (Go.Value.int Go.IntKind.i64 0), (Go.Value.int Go.IntKind.i64 0), (Go.Value.int Go.IntKind.i64 0), (Go.Value.int Go.IntKind.i64 0), (Go.Value.int Go.IntKind.i64 0), (Go.Value.int Go.IntKind.i64 0), (Go.Value.int Go.IntKind.i64 0), (Go.Value.int Go.IntKind.i64 0), (Go.Value.int Go.IntKind.i64 0), (Go.Value.int Go.IntKind.i64 0), (Go.Value.int Go.IntKind.i64 0), (Go.Value.int Go.IntKind.i64 0), (Go.Value.int Go.IntKind.i64 0), (Go.Value.int Go.IntKind.i64 0), (Go.Value.int Go.IntKind.i64 0), (Go.Value.int Go.IntKind.i64 0), (Go.Value.int Go.IntKind.i64 0), (Go.Value.int Go.IntKind.i64 0), (Go.Value.int Go.IntKind.i64 0), (Go.Value.int Go.IntKind.i64 0), (Go.Value.int Go.IntKind.i64 0), (Go.Value.int Go.IntKind.i64 0), (Go.Value.int Go.IntKind.i64 0), (Go.Value.int Go.IntKind.i64 0), (Go.Value.int Go.IntKind.i64 0), (Go.Value.int Go.IntKind.i64 0), (Go.Value.int Go.IntKind.i64 0), (Go.Value.int Go.IntKind.i64 0), (Go.Value.int Go.IntKind.i64 0), (Go.Value.int Go.IntKind.i64 0), (Go.Value.int Go.IntKind.i64 0), (Go.Value.int Go.IntKind.i64 0), (Go.Value.int Go.IntKind.i64 0), (Go.Value.int Go.IntKind.i64 0), (Go.Value.int Go.IntKind.i64 0), (Go.Value.int Go.IntKind.i64 0), (Go.Value.int Go.IntKind.i64 0), (Go.Value.int Go.IntKind.i64 0), (Go.Value.int Go.IntKind.i64 0), (Go.Value.int Go.IntKind.i64 0), (Go.Value.int Go.IntKind.i64 0), (Go.Value.int Go.IntKind.i64 0), (Go.Value.int Go.IntKind.i64 0), (Go.Value.int Go.IntKind.i64 0), (Go.Value.int Go.IntKind.i64 0), (Go.Value.int Go.IntKind.i64 0), (Go.Value.int Go.IntKind.i64 0), (Go.Value.int Go.IntKind.i64 0), (Go.Value.int Go.IntKind.i64 0), (Go.Value.int Go.IntKind.i64 0), (Go.Value.int Go.IntKind.i64 0), (Go.Value.int Go.IntKind.i64 0), (Go.Value.int Go.IntKind.i64 0), (Go.Value.int Go.IntKind.i64 0), (Go.Value.int Go.IntKind.i64 0), (Go.Value.int Go.IntKind.i64 0), (Go.Value.int Go.IntKind.i64 0), (Go.Value.int Go.IntKind.i64 0), (Go.Value.int Go.IntKind.i64 0), (Go.Value.int Go.IntKind.i64 0), (Go.Value.int Go.IntKind.i64 0), (Go.Value.int Go.IntKind.i64 0), (Go.Value.int Go.IntKind.i64 0), (Go.Value.int Go.IntKind.i64 0), (Go.Value.int Go.IntKind.i64 0), (Go.Value.int Go.IntKind.i64 0), (Go.Value.int Go.IntKind.i64 0), (Go.Value.int Go.IntKind.i64 0), (Go.Value.int Go.IntKind.i64 0)]⟩,
  ⟨.struct [(0, 56), (255, 58)], (.arr .any), 511, 2304, [(Go.Value.int Go.IntKind.u8 0), (Go.Value.int Go.IntKind.u8 0), (Go.Value.int Go.IntKind.u8 0), (Go.Value.int Go.IntKind.u8 0), (Go.Value.int Go.IntKind.u8 0), (Go.Value.int Go.IntKind.u8 0), (Go.Value.int Go.IntKind.u8 0), (Go.Value.int Go.IntKind.u8 0), (Go.Value.int Go.IntKind.u8 0), (Go.Value.int Go.IntKind.u8 0), (Go.Value.int Go.IntKind.u8 0), (Go.Value.int Go.IntKind.u8 0), (Go.Value.int Go.IntKind.u8 0), (Go.Value.int Go.IntKind.u8 0), (Go.Value.int Go.IntKind.u8 0), (Go.Value.int Go.IntKind.u8 0), (Go.Value.int Go.IntKind.u8 0), (Go.Value.int Go.IntKind.u8 0), (Go.Value.int Go.IntKind.u8 0), (Go.Value.int Go.IntKind.u8 0), (Go.Value.int Go.IntKind.u8 0), (Go.Value.int Go.IntKind.u8 0), (Go.Value.int Go.IntKind.u8 0), (Go.Value.int Go.IntKind.u8 0), (Go.Value.int Go.IntKind.u8 0), (Go.Value.int Go.IntKind.u8 0), (Go.Value.int Go.IntKind.u8 0), (Go.Value.int Go.IntKind.u8 0), (Go.Value.int Go.IntKind.u8 0), (Go.Value.int Go.IntKind.u8 0), (Go.Value.int Go.IntKind.u8 0), (Go.Value.int Go.IntKind.u8 0), (Go.Value.int Go.IntKind.u8 0), (Go.Value.int Go.IntKind.u8 0), (Go.Value.int Go.IntKind.u8 0), (Go.Value.int Go.IntKind.u8 0), (Go.Value.int Go.IntKind.u8 0), (Go.Value.int Go.IntKind.u8 0), (Go.Value.int Go.IntKind.u8 0), (Go.Value.int Go.IntKind.u8 0), (Go.Value.int Go.IntKind.u8 0), (Go.Value.int Go.IntKind.u8 0), (Go.Value.int Go.IntKind.u8 0), (Go.Value.int Go.IntKind.u8 0), (Go.Value.int Go.IntKind.u8 0), (Go.Value.int Go.IntKind.u8 0), (Go.Value.int Go.IntKind.u8 0), (Go.Value.int Go.IntKind.u8 0), (Go.Value.int Go.IntKind.u8 0), (Go.Value.int Go.IntKind.u8 0), (Go.Value.int Go.IntKind.u8 0), (Go.Value.int Go.IntKind.u8 0), (Go.Value.int Go.IntKind.u8 0), (Go.Value.int Go.IntKind.u8 0), (Go.Value.int Go.IntKind.u8 0), (Go.Value.int Go.IntKind.u8 0), (Go.Value.int Go.IntKind.u8 0), (Go.Value.int Go.IntKind.u8 0), (Go.Value.int Go.IntKind.u8 0), (Go.Value.int Go.IntKind.u8 0), (Go.Value.int Go.IntKind.u8 0), (Go.Value.int Go.IntKind.u8 0), (Go.Value.int Go.IntKind.u8 0), (Go.Value.int Go.IntKind.u8 0), (Go.Value.int Go.IntKind.u8 0), (Go.Value.int Go.IntKind.u8 0), (Go.Value.int Go.IntKind.u8 0), (Go.Value.int Go.IntKind.u8 0), (Go.Value.int Go.IntKind.u8 0), (Go.Value.int Go.IntKind.u8 0), (Go.Value.int Go.IntKind.u8 0), (Go.Value.int Go.IntKind.u8 0), (Go.Value.int Go.IntKind.u8 0), (Go.Value.int Go.IntKind.u8 0), (Go.Value.int Go.IntKind.u8 0), (Go.Value.int Go.IntKind.u8 0), (Go.Value.int Go.IntKind.u8 0), (Go.Value.int Go.IntKind.u8 0), (Go.Value.int Go.IntKind.u8 0), (Go.Value.int Go.IntKind.u8 0), (Go.Value.int Go.IntKind.u8 0), (Go.Value.int Go.IntKind.u8 0), (Go.Value.int Go.IntKind.u8 0), (Go.Value.int Go.IntKind.u8 0), (Go.Value.int Go.IntKind.u8 0), (Go.Value.int Go.IntKind.u8 0), (Go.Value.int Go.IntKind.u8 0), (Go.Value.int Go.IntKind.u8 0), (Go.Value.int Go.IntKind.u8 0), (Go.Value.int Go.IntKind.u8 0), (Go.Value.int Go.IntKind.u8 0), (Go.Value.int Go.IntKind.u8 0), (Go.Value.int Go.IntKind.u8 0), (Go.Value.int Go.IntKind.u8 0), (Go.Value.int Go.IntKind.u8 0), (Go.Value.int Go.IntKind.u8 0), (Go.Value.int Go.IntKind.u8 0), (Go.Value.int Go.IntKind.u8 0), (Go.Value.int Go.IntKind.u8 0), (Go.Value.int Go.IntKind.u8 0), (Go.Value.int Go.IntKind.u8 0), (Go.Value.int Go.IntKind.u8 0), (Go.Value.int Go.IntKind.u8 0), (Go.Value.int Go.IntKind.u8 0), (Go.Value.int Go.IntKind.u8 0), (Go.Value.int Go.IntKind.u8 0), (Go.Value.int Go.IntKind.u8 0), (Go.Value.int Go.IntKind.u8 0), (Go.Value.int Go.IntKind.u8 0), (Go.Value.int Go.IntKind.u8 0), (Go.Value.int Go.IntKind.u8 0), (Go.Value.int Go.IntKind.u8 0), (Go.Value.int Go.IntKind.u8 0), (Go.Value.int Go.IntKind.u8 0), (Go.Value.int Go.IntKind.u8 0), (Go.Value.int Go.IntKind.u8 0), (Go.Value.int Go.IntKind.u8 0), (Go.Value.int Go.IntKind.u8 0), (Go.Value.int Go.IntKind.u8 0), (Go.Value.int Go.IntKind.u8 0), (Go.Value.int Go.IntKind.u8 0), (Go.Value.int Go.IntKind.u8 0), (Go.Value.int Go.IntKind.u8 0), (Go.Value.int Go.IntKind.u8 0), (Go.Value.int Go.IntKind.u8 0), (Go.Value.int Go.IntKind.u8 0), (Go.Value.int Go.IntKind.u8 0), (Go.Value.int Go.IntKind.u8 0), (Go.Value.int Go.IntKind.u8 0), (Go.Value.int Go.IntKind.u8 0), (Go.Value.int Go.IntKind.u8 0), (Go.Value.int Go.IntKind.u8 0), (Go.Value.int Go.IntKind.u8 0), (Go.Value.int Go.IntKind.u8 0), (Go.Value.int Go.IntKind.u8 0), (Go.Value.int Go.IntKind.u8 0), (Go.Value.int Go.IntKind.u8 0), (Go.Value.int Go.IntKind.u8 0), (Go.Value.int Go.IntKind.u8 0), (Go.Value.int Go.IntKind.u8 0), (Go.Value.int Go.IntKind.u8 0), (Go.Value.int Go.IntKind.u8 0), (Go.Value.int Go.IntKind.u8 0), (Go.Value.int Go.IntKind.u8 0), (Go.Value.int Go.IntKind.u8 0), (Go.Value.int Go.IntKind.u8 0), (Go.Value.int Go.IntKind.u8 0), (Go.Value.int Go.IntKind.u8 0), (Go.Value.int Go.IntKind.u8 0), (Go.Value.int Go.IntKind.u8 0), (Go.Value.int Go.IntKind.u8 0), (Go.Value.int Go.IntKind.u8 0), (Go.Value.int Go.IntKind.u8 0), (Go.Value.int Go.IntKind.u8 0), (Go.Value.int Go.IntKind.u8 0), (Go.Value.int Go.IntKind.u8 0), (Go.Value.int Go.IntKind.u8 0), (Go.Value.int Go.IntKind.u8 0), (Go.Value.int Go.IntKind.u8 0), (Go.Value.int Go.IntKind.u8 0), (Go.Value.int Go.IntKind.u8 0), (Go.Value.int Go.IntKind.u8 0), (Go.Value.int Go.IntKind.u8 0), (Go.Value.int Go.IntKind.u8 0), (Go.Value.int Go.IntKind.u8 0), (Go.Value.int Go.IntKind.u8 0), (Go.Value.int Go.IntKind.u8 0), (Go.Value.int Go.IntKind.u8 0), (Go.Value.int Go.IntKind.u8 0), (Go.Value.int Go.IntKind.u8 0), (Go.Value.int Go.IntKind.u8 0), (Go.Value.int Go.IntKind.u8 0), (Go.Value.int Go.IntKind.u8 0), (Go.Value.int Go.IntKind.u8 0), (Go.Value.int Go.IntKind.u8 0), (Go.Value.int Go.IntKind.u8 0), (Go.Value.int Go.IntKind.u8 0), (Go.Value.int Go.IntKind.u8 0), (Go.Value.int Go.IntKind.u8 0), (Go.Value.int Go.IntKind.u8 0), (Go.Value.int Go.IntKind.u8 0), (Go.Value.int Go.IntKind.u8 0), (Go.Value.int Go.IntKind.u8 0), (Go.Value.int Go.IntKind.u8 0), (Go.Value.int Go.IntKind.u8 0), (Go.Value.int Go.IntKind.u8 0), (Go.Value.int Go.IntKind.u8 0), (Go.Value.int Go.IntKind.u8 0), (Go.Value.int Go.IntKind.u8 0), (Go.Value.int Go.IntKind.u8 0), (Go.Value.int Go.IntKind.u8 0), (Go.Value.int Go.IntKind.u8 0), (Go.Value.int Go.IntKind.u8 0), (Go.Value.int Go.IntKind.u8 0), (Go.Value.int Go.IntKind.u8 0), (Go.Value.int Go.IntKind.u8 0), (Go.Value.int Go.IntKind.u8 0), (Go.Value.int Go.IntKind.u8 0), (Go.Value.int Go.IntKind.u8 0), (Go.Value.int Go.IntKind.u8 0), (Go.Value.int Go.IntKind.u8 0), (Go.Value.int Go.IntKind.u8 0), (Go.Value.int Go.IntKind.u8 0), (Go.Value.int Go.IntKind.u8 0), (Go.Value.int Go.IntKind.u8 0), (Go.Value.int Go.IntKind.u8 0), (Go.Value.int Go.IntKind.u8 0), (Go.Value.int Go.IntKind.u8 0), (Go.Value.int Go.IntKind.u8 0), (Go.Value.int Go.IntKind.u8 0), (Go.Value.int Go.IntKind.u8 0), (Go.Value.int Go.IntKind.u8 0), (Go.Value.int Go.IntKind.u8 0), (Go.Value.int Go.IntKind.u8 0), (Go.Value.int Go.IntKind.u8 0), (Go.Value.int Go.IntKind.u8 0), (Go.Value.int Go.IntKind.u8 0), (Go.Value.int Go.IntKind.u8 0), (Go.Value.int Go.IntKind.u8 0), (Go.Value.int Go.IntKind.u8 0), (Go.Value.int Go.IntKind.u8 0), (Go.Value.int Go.IntKind.u8 0), (Go.Value.int Go.IntKind.u8 0), (Go.Value.int Go.IntKind.u8 0), (Go.Value.int Go.IntKind.u8 0), (Go.Value.int Go.IntKind.u8 0), (Go.Value.int Go.IntKind.u8 0), (Go.Value.int Go.IntKind.u8 0), (Go.Value.int Go.IntKind.u8 0), (Go.Value.int Go.IntKind.u8 0), (Go.Value.int Go.IntKind.u8 0), (Go.Value.int Go.IntKind.u8 0), (Go.Value.int Go.IntKind.u8 0), (Go.Value.int Go.IntKind.u8 0), (Go.Value.int Go.IntKind.u8 0), (Go.Value.int Go.IntKind.u8 0), (Go.Value.int Go.IntKind.u8 0), (Go.Value.int Go.IntKind.u8 0), (Go.Value.int Go.IntKind.u8 0), (Go.Value.int Go.IntKind.u8 0), (Go.Value.int Go.IntKind.u8 0), (Go.Value.int Go.IntKind.u8 0), (Go.Value.int Go.IntKind.u8 0), (Go.Value.int Go.IntKind.u8 0), (Go.Value.int Go.IntKind.u8 0), (Go.Value.int Go.IntKind.u8 0), (Go.Value.int Go.IntKind.u8 0), (Go.Value.int Go.IntKind.u8 0), (Go.Value.int Go.IntKind.u8 0), (Go.Value.int Go.IntKind.u8 0), (Go.Value.int Go.IntKind.u8 0), (Go.Value.int Go.IntKind.u8 0), (Go.Value.int Go.IntKind.u8 0), (Go.Value.int Go.IntKind.u8 0), (Go.Value.int Go.IntKind.u8 0), (Go.Value.int Go.IntKind.i64 0), (Go.Value.int Go.IntKind.i64 0), (Go.Value.int Go.IntKind.i64 0), (Go.Value.int Go.IntKind.i64 0), (Go.Value.int Go.IntKind.i64 0), (Go.Value.int Go.IntKind.i64 0), (Go.Value.int Go.IntKind.i64 0), (Go.Value.int Go.IntKind.i64 0), (Go.Value.int Go.IntKind.i64 0), (Go.Value.int Go.IntKind.i64 0), (Go.Value.int Go.IntKind.i64 0), (Go.Value.int Go.IntKind.i64 0), (Go.Value.int Go.IntKind.i64 0), (Go.Value.int Go.IntKind.i64 0), (Go.Value.int Go.IntKind.i64 0), (Go.Value.int Go.IntKind.i64 0), (Go.Value.int Go.IntKind.i64 0), (Go.Value.int Go.IntKind.i64 0), (Go.Value.int Go.IntKind.i64 0), (Go.Value.int Go.IntKind.i64 0), (Go.Value.int Go.IntKind.i64 0), (Go.Value.int Go.IntKind.i64 0), (Go.Value.int Go.IntKind.i64 0), (Go.Value.int Go.IntKind.i64 0), (Go.Value.int Go.IntKind.i64 0), (Go.Value.int Go.IntKind.i64 0), (Go.Value.int Go.IntKind.i64 0), (Go.Value.int Go.IntKind.i64 0), (Go.Value.int Go.IntKind.i64 0), (Go.Value.int Go.IntKind.i64 0), (Go.Value.int Go.IntKind.i64 0), (Go.Value.int Go.IntKind.i64 0), (Go.Value.int Go.IntKind.i64 0), (Go.Value.int Go.IntKind.i64 0), (Go.Value.int Go.IntKind.i64 0), (Go.Value.int Go.IntKind.i64 0), (Go.Value.int Go.IntKind.i64 0), (Go.Value.int Go.IntKind.i64 0), (Go.Value.int Go.IntKind.i64 0), (Go.Value.int Go.IntKind.i64 0), (Go.Value.int Go.IntKind.i64 0), (Go.Value.int Go.IntKind.i64 0), (Go.Value.int Go.IntKind.i64 0), (Go.Value.int Go.IntKind.i64 0), (Go.Value.int Go.IntKind.i64 0), (Go.Value.int Go.IntKind.i64 0), (Go.Value.int Go.IntKind.i64 0), (Go.Value.int Go.IntKind.i64 0), (Go.Value.int Go.IntKind.i64 0), (Go.Value.int Go.IntKind.i64 0), (Go.Value.int Go.IntKind.i64 0), (Go.Value.int Go.IntKind.i64 0), (Go.Value.int Go.IntKind.i64 0), (Go.Value.int Go.IntKind.i64 0), (Go.Value.int Go.IntKind.i64 0), (Go.Value.int Go.IntKind.i64 0), (Go.Value.int Go.IntKind.i64 0), (Go.Value.int Go.IntKind.i64 0), (Go.Value.int Go.IntKind.i64 0), (Go.Value.int Go.IntKind.i64 0), (Go.Value.int Go.IntKind.i64 0), (Go.Value.int Go.IntKind.i64 0), (Go.Value.int Go.IntKind.i64 0), (Go.Value.int Go.IntKind.i64 0), (Go.Value.int Go.IntKind.i64 0), (Go.Value.int Go.IntKind.i64 0), (Go.Value.int Go.IntKind.i64 0), (Go.Value.int Go.IntKind.i64 0), (Go.Value.int Go.IntKind.i64 0), (Go.Value.int Go.IntKind.i64 0), (Go.Value.int Go.IntKind.i64 0), (Go.Value.int Go.IntKind.i64 0), (Go.Value.int Go.IntKind.i64 0), (Go.Value.int Go.IntKind.i64 0), (Go.Value.int Go.IntKind.i64 0), (Go.Value.int Go.IntKind.i64 0), (Go.Value.int Go.IntKind.i64 0), (Go.Value.int Go.IntKind.i64 0), (Go.Value.int Go.IntKind.i64 0), (Go.Value.int Go.IntKind.i64 0), (Go.Value.int Go.IntKind.i64 0), (Go.Value.int Go.IntKind.i64 0), (Go.Value.int Go.IntKind.i64 0), (Go.Value.int Go.IntKind.i64 0), (Go.Value.int Go.IntKind.i64 0), (Go.Value.int Go.IntKind.i64 0), (Go.Value.int Go.IntKind.i64 0), (Go.Value.int Go.IntKind.i64 0), (Go.Value.int Go.IntKind.i64 0), (Go.Value.int Go.IntKind.i64 0), (Go.Value.int Go.IntKind.i64 0), (Go.Value.int Go.IntKind.i64 0), (Go.Value.int Go.IntKind.i64 0), (Go.Value.int Go.IntKind.i64 0), (Go.Value.int Go.IntKind.i64 0), (Go.Value.int Go.IntKind.i64 0), (Go.Value.int Go.IntKind.i64 0), (Go.Value.int Go.IntKind.i64 0), (Go.Value.int Go.IntKind.i64 0), (Go.Value.int Go.IntKind.i64 0), (Go.Value.int Go.IntKind.i64 0), (Go.Value.int Go.IntKind.i64 0), (Go.Value.int Go.IntKind.i64 0), (Go.Value.int Go.IntKind.i64 0), (Go.Value.int Go.IntKind.i64 0), (Go.Value.int Go.IntKind.i64 0), (Go.Value.int Go.IntKind.i64 0), (Go.Value.int Go.IntKind.i64 0), (Go.Value.int Go.IntKind.i64 0), (Go.Value.int Go.IntKind.i64 0), (Go.Value.int Go.IntKind.i64 0), (Go.Value.int Go.IntKind.i64 0), (Go.Value.int Go.IntKind.i64 0), (Go.Value.int Go.IntKind.i64 0), (Go.Value.int Go.IntKind.i64 0), (Go.Value.int Go.IntKind.i64 0), (Go.Value.int Go.IntKind.i64 0), (Go.Value.int Go.IntKind.i64 0), (Go.Value.int Go.IntKind.i64 0), (Go.Value.int Go.IntKind.i64 0), (Go.Value.int Go.IntKind.i64 0), (Go.Value.int Go.IntKind.i64 0), (Go.Value.int Go.IntKind.i64 0), (Go.Value.int Go.IntKind.i64 0), (Go.Value.int Go.IntKind.i64 0), (Go.Value.int Go.IntKind.i64 0), (Go.Value.int Go.IntKind.i64 0), (Go.Value.int Go.IntKind.i64 0), (Go.Value.int Go.IntKind.i64 0), (Go.Value.int Go.IntKind.i64 0), (Go.Value.int Go.IntKind.i64 0), (Go.Value.int Go.IntKind.i64 0), (Go.Value.int Go.IntKind.i64 0), (Go.Value.int Go.IntKind.i64 0), (Go.Value.int Go.IntKind.i64 0), (Go.Value.int Go.IntKind.i64 0), (Go.Value.int Go.IntKind.i64 0), (Go.Value.int Go.IntKind.i64 0), (Go.Value.int Go.IntKind.i64 0), (Go.Value.int Go.IntKind.i64 0), (Go.Value.int Go.IntKind.i64 0), (Go.Value.int Go.IntKind.i64 0), (Go.Value.int Go.IntKind.i64 0), (Go.Value.int Go.IntKind.i64 0), (Go.Value.int Go.IntKind.i64 0), (Go.Value.int Go.IntKind.i64 0), (Go.Value.int Go.IntKind.i64 0), (Go.Value.int Go.IntKind.i64 0), (Go.Value.int Go.IntKind.i64 0), (Go.Value.int Go.IntKind.i64 0), (Go.Value.int Go.IntKind.i64 0), (Go.Value.int Go.IntKind.i64 0), (Go.Value.int Go.IntKind.i64 0), (Go.Value.int Go.IntKind.i64 0), (Go.Value.int Go.IntKind.i64 0), (Go.Value.int Go.IntKind.i64 0), (Go.Value.int Go.IntKind.i64 0), (Go.Value.int Go.IntKind.i64 0), (Go.Value.int Go.IntKind.i64 0), (Go.Value.int Go.IntKind.i64 0), (Go.Value.int Go.IntKind.i64 0), (Go.Value.int Go.IntKind.i64 0), (Go.Value.int Go.IntKind.i64 0), (Go.Value.int Go.IntKind.i64 0), (Go.Value.int Go.IntKind.i64 0), (Go.Value.int Go.IntKind.i64 0), (Go.Value.int Go.IntKind.i64 0), (Go.Value.int Go.IntKind.i64 0), (Go.Value.int Go.IntKind.i64 0), (Go.Value.int Go.IntKind.i64 0), (Go.Value.int Go.IntKind.i64 0), (Go.Value.int Go.IntKind.i64 0), (Go.Value.int Go.IntKind.i64 0), (Go.Value.int Go.IntKind.i64 0), (Go.Value.int Go.IntKind.i64 0), (Go.Value.int Go.IntKind.i64 0), (Go.Value.int Go.IntKind.i64 0), (Go.Value.int Go.IntKind.i64 0), (Go.Value.int Go.IntKind.i64 0), (Go.Value.int Go.IntKind.i64 0), (Go.Value.int Go.IntKind.i64 0), (Go.Value.int Go.IntKind.i64 0), (Go.Value.int Go.IntKind.i64 0), (Go.Value.int Go.IntKind.i64 0), (Go.Value.int Go.IntKind.i64 0), (Go.Value.int Go.IntKind.i64 0), (Go.Value.int Go.IntKind.i64 0), (Go.Value.int Go.IntKind.i64 0), (Go.Value.int Go.IntKind.i64 0), (Go.Value.int Go.IntKind.i64 0), (Go.Value.int Go.IntKind.i64 0), (Go.Value.int Go.IntKind.i64 0), (Go.Value.int Go.IntKind.i64 0), (Go.Value.int Go.IntKind.i64 0), (Go.Value.int Go.IntKind.i64 0), (Go.Value.int Go.IntKind.i64 0), (Go.Value.int Go.IntKind.i64 0), (Go.Value.int Go.IntKind.i64 0), (Go.Value.int Go.IntKind.i64 0), (Go.Value.int Go.IntKind.i64 0), (Go.Value.int Go.IntKind.i64 0), (Go.Value.int Go.IntKind.i64 0), (Go.Value.int Go.IntKind.i64 0), (Go.Value.int Go.IntKind.i64 0), (Go.Value.int Go.IntKind.i64 0), (Go.Value.int Go.IntKind.i64 0), (Go.Value.int Go.IntKind.i64 0), (Go.Value.int Go.IntKind.i64 0), (Go.Value.int Go.IntKind.i64 0), (Go.Value.int Go.IntKind.i64 0), (Go.Value.int Go.IntKind.i64 0), (Go.Value.int Go.IntKind.i64 0), (Go.Value.int Go.IntKind.i64 0), (Go.Value.int Go.IntKind.i64 0), (Go.Value.int Go.IntKind.i64 0), (Go.Value.int Go.IntKind.i64 0), (Go.Value.int Go.IntKind.i64 0), (Go.Value.int Go.IntKind.i64 0), (Go.Value.int Go.IntKind.i64 0), (Go.Value.int Go.IntKind.i64 0), (Go.Value.int Go.IntKind.i64 0), (Go.Value.int Go.IntKind.i64 0), (Go.Value.int Go.IntKind.i64 0), (Go.Value.int Go.IntKind.i64 0), (Go.Value.int Go.IntKind.i64 0), (Go.Value.int Go.IntKind.i64 0), (Go.Value.int Go.IntKind.i64 0), (Go.Value.int Go.IntKind.i64 0), (Go.Value.int Go.IntKind.i64 0), (Go.Value.int Go.IntKind.i64 0), (Go.Value.int Go.IntKind.i64 0), (Go.Value.int Go.IntKind.i64 0), (Go.Value.int Go.IntKind.i64 0), (Go.Value.int Go.IntKind.i64 0), (Go.Value.int Go.IntKind.i64 0), (Go.Value.int Go.IntKind.i64 0), (Go.Value.int Go.IntKind.i64 0), (Go.Value.int Go.IntKind.i64 0), (Go.Value.int Go.IntKind.i64 0), (Go.Value.int Go.IntKind.i64 0), (Go.Value.int Go.IntKind.i64 0), (Go.Value.int Go.IntKind.i64 0), (Go.Value.int Go.IntKind.i64 0), (Go.Value.int Go.IntKind.i64 0), (Go.Value.int Go.IntKind.i64 0), (Go.Value.int Go.IntKind.i64 0), (Go.Value.int Go.IntKind.i64 0), (Go.Value.int Go.IntKind.i64 0), (Go.Value.int Go.IntKind.i64 0), (Go.Value.int Go.IntKind.i64 0), (Go.Value.int Go.IntKind.i64 0), (Go.Value.int Go.IntKind.i64 0), (Go.Value.int Go.IntKind.i64 0), (Go.Value.int Go.IntKind.i64 0), (Go.Value.int Go.IntKind.i64 0), (Go.Value.int Go.IntKind.i64 0)]⟩,
  ⟨.fn, (.sc .fn), 1, 8, [Go.Value.nilFunc]⟩,
  ⟨.fn, (.sc .fn), 1, 8, [Go.Value.nilFunc]⟩,
  ⟨.fn, (.sc .fn), 1, 8, [Go.Value.nilFunc]⟩,
  ⟨.fn, (.sc .fn), 1, 8, [Go.Value.nilFunc]⟩,
  ⟨.ptr 79, (.sc .ptr), 1, 8, [(Go.Value.pointer Option.none)]⟩,
  ⟨.fn, (.sc .fn), 1, 8, [Go.Value.nilFunc]⟩,
  ⟨.fn, (.sc .fn), 1, 8, [Go.Value.nilFunc]⟩,
  ⟨.fn, (.sc .fn), 1, 8, [Go.Value.nilFunc]⟩,
  ⟨.fn, (.sc .fn), 1, 8, [Go.Value.nilFunc]⟩,
  ⟨.fn, (.sc .fn), 1, 8, [Go.Value.nilFunc]⟩,
  ⟨.fn, (.sc .fn), 1, 8, [Go.Value.nilFunc]⟩,
  ⟨.fn, (.sc .fn), 1, 8, [Go.Value.nilFunc]⟩,
  ⟨.fn, (.sc .fn), 1, 8, [Go.Value.nilFunc]⟩,
  ⟨.fn, (.sc .fn), 1, 8, [Go.Value.nilFunc]⟩,
  ⟨.fn, (.sc .fn), 1, 8, [Go.Value.nilFunc]⟩,
  ⟨.int .u64, (.sc (.int .u64)), 1, 8, [(Go.Value.int Go.IntKind.u64 0)]⟩,
  ⟨.struct [(0, 77)], (.agg [(.int .u64)]), 1, 8, [(Go.Value.int Go.IntKind.u64 0)]⟩,
  ⟨.struct [(0, 77)], (.agg [(.int .u64)]), 1, 8, [(Go.Value.int Go.IntKind.u64 0)]⟩,
  ⟨.fn, (.sc .fn), 1, 8, [Go.Value.nilFunc]⟩,
  ⟨.fn, (.sc .fn), 1, 8, [Go.Value.nilFunc]⟩,
  ⟨.fn, (.sc .fn), 1, 8, [Go.Value.nilFunc]⟩,
  ⟨.fn, (.sc .fn), 1, 8, [Go.Value.nilFunc]⟩,
  ⟨.fn, (.sc .fn), 1, 8, [Go.Value.nilFunc]⟩,
  ⟨.fn, (.sc .fn), 1, 8, [Go.Value.nilFunc]⟩,
  ⟨.fn, (.sc .fn), 1, 8, [Go.Value.nilFunc]⟩,
  ⟨.fn, (.sc .fn), 1, 8, [Go.Value.nilFunc]⟩,
  ⟨.fn, (.sc .fn), 1, 8, [Go.Value.nilFunc]⟩,
  ⟨.ptr 91, (.sc .ptr), 1, 8, [(Go.Value.pointer Option.none)]⟩,
  ⟨.struct [(0, 77)], (.agg [(.int .u64)]), 1, 8, [(Go.Value.int Go.IntKind.u64 0)]⟩,
  ⟨.struct [(0, 77)], (.agg [(.int .u64)]), 1, 8, [(Go.Value.int Go.IntKind.u64 0)]⟩,
  ⟨.fn, (.sc .fn), 1, 8, [Go.Value.nilFunc]⟩,
  ⟨.fn, (.sc .fn), 1, 8, [Go.Value.nilFunc]⟩,
  ⟨.fn, (.sc .fn), 1, 8, [Go.Value.nilFunc]⟩,
  ⟨.fn, (.sc .fn), 1, 8, [Go.Value.nilFunc]⟩,
  ⟨.fn, (.sc .fn), 1, 8, [Go.Value.nilFunc]⟩,
  ⟨.fn, (.sc .fn), 1, 8, [Go.Value.nilFunc]⟩,
  ⟨.int .u16, (.sc (.int .u16)), 1, 2, [(Go.Value.int Go.IntKind.u16 0)]⟩,
  ⟨.fn, (.sc .fn), 1, 8, [Go.Value.nilFunc]⟩,
  ⟨.fn, (.sc .fn), 1, 8, [Go.Value.nilFunc]⟩,
  ⟨.fn, (.sc .fn), 1, 8, [Go.Value.nilFunc]⟩,
  ⟨.int .i64, (.sc (.int .i64)), 1, 8, [(Go.Value.int Go.IntKind.i64 0)]⟩,
  ⟨.other, (.sc .any), 1, 0, [(Go.Value.tuple #[(Go.Value.int Go.IntKind.i64 0), (Go.Value.int Go.IntKind.i64 0)])]⟩,
  ⟨.fn, (.sc .fn), 1, 8, [Go.Value.nilFunc]⟩,
  ⟨.fn, (.sc .fn), 1, 8, [Go.Value.nilFunc]⟩,
  ⟨.fn, (.sc .fn), 1, 8, [Go.Value.nilFunc]⟩,
  ⟨.fn, (.sc .fn), 1, 8, [Go.Value.nilFunc]⟩,
  ⟨.other, (.sc .any), 1, 0, [(Go.Value.tuple #[(Go.Value.int Go.IntKind.i64 0), (Go.Value.bool Bool.false)])]⟩,
  ⟨.fn, (.sc .fn), 1, 8, [Go.Value.nilFunc]⟩,
  ⟨.int .u64, (.sc (.int .u64)), 1, 8, [(Go.Value.int Go.IntKind.u64 0)]⟩,
  ⟨.fn, (.sc .fn), 1, 8, [Go.Value.nilFunc]⟩,
  ⟨.fn, (.sc .fn), 1, 8, [Go.Value.nilFunc]⟩,
  ⟨.fn, (.sc .fn), 1, 8, [Go.Value.nilFunc]⟩,
  ⟨.ptr 3, (.sc .ptr), 1, 8, [(Go.Value.pointer Option.none)]⟩,
  ⟨.fn, (.sc .fn), 1, 8, [Go.Value.nilFunc]⟩,
  ⟨.ptr 110, (.sc .ptr), 1, 8, [(Go.Value.pointer Option.none)]⟩,
  ⟨.other, (.sc .any), 1, 0, [(Go.Value.tuple #[(Go.Value.int Go.IntKind.i64 0), (Go.Value.int Go.IntKind.i64 0)])]⟩,
  ⟨.fn, (.sc .fn), 1, 8, [Go.Value.nilFunc]⟩,
  ⟨.fn, (.sc .fn), 1, 8, [Go.Value.nilFunc]⟩,
  ⟨.struct [(0, 17), (1, 17), (2, 17), (3, 9)], (.agg [.ptr, .ptr, .ptr, .str]), 4, 40, [(Go.Value.pointer Option.none), (Go.Value.pointer Option.none), (Go.Value.pointer Option.none), (Go.Value.string (ByteArray.mk #[]))]⟩,
  ⟨.struct [(0, 17), (1, 17), (2, 17), (3, 9)], (.agg [.ptr, .ptr, .ptr, .str]), 4, 40, [(Go.Value.pointer Option.none), (Go.Value.pointer Option.none), (Go.Value.pointer Option.none), (Go.Value.string (ByteArray.mk #[]))]⟩,
  ⟨.array 0 16, (.arr .ptr), 0, 0, []⟩,
  ⟨.struct [(0, 122)], (.agg []), 0, 0, []⟩,
  ⟨.struct [(0, 122)], (.agg []), 0, 0, []⟩,
  ⟨.fn, (.sc .fn), 1, 8, [Go.Value.nilFunc]⟩,
  ⟨.int .u8, (.sc (.int .u8)), 1, 1, [(Go.Value.int Go.IntKind.u8 0)]⟩,
  ⟨.int .u8, (.sc (.int .u8)), 1, 1, [(Go.Value.int Go.IntKind.u8 0)]⟩,
  ⟨.fn, (.sc .fn), 1, 8, [Go.Value.nilFunc]⟩,
  ⟨.ptr 5, (.sc .ptr), 1, 8, [(Go.Value.pointer Option.none)]⟩,
  ⟨.int .i32, (.sc (.int .i32)), 1, 4, [(Go.Value.int Go.IntKind.i32 0)]⟩,
  ⟨.int .i32, (.sc (.int .i32)), 1, 4, [(Go.Value.int Go.IntKind.i32 0)]⟩,
  ⟨.struct [(0, 12), (1, 12), (2, 29), (3, 126), (4, 5), (5, 5), (6, 127), (7, 128), (8, 129), (9, 130), (10, 131)], (.agg [(.int .u64), (.int .u64), (.int .u32), (.int .u8), (.int .u8), (.int .u8), (.int .u8), .fn, .ptr, (.int .i32), (.int .i32)]), 11, 48, [(Go.Value.int Go.IntKind.u64 0), (Go.Value.int Go.IntKind.u64 0), (Go.Value.int Go.IntKind.u32 0), (Go.Value.int Go.IntKind.u8 0), (Go.Value.int Go.IntKind.u8 0), (Go.Value.int Go.IntKind.u8 0), (Go.Value.int Go.IntKind.u8 0), Go.Value.nilFunc, (Go.Value.pointer Option.none), (Go.Value.int Go.IntKind.i32 0), (Go.Value.int Go.IntKind.i32 0)]⟩,
  ⟨.struct [(0, 12), (1, 12), (2, 29), (3, 126), (4, 5), (5, 5), (6, 127), (7, 128), (8, 129), (9, 130), (10, 131)], (.agg [(.int .u64), (.int .u64), (.int .u32), (.int .u8), (.int .u8), (.int .u8), (.int .u8), .fn, .ptr, (.int .i32), (.int .i32)]), 11, 48, [(Go.Value.int Go.IntKind.u64 0), (Go.Value.int Go.IntKind.u64 0), (Go.Value.int Go.IntKind.u32 0), (Go.Value.int Go.IntKind.u8 0), (Go.Value.int Go.IntKind.u8 0), (Go.Value.int Go.IntKind.u8 0), (Go.Value.int Go.IntKind.u8 0), Go.Value.nilFunc, (Go.Value.pointer Option.none), (Go.Value.int Go.IntKind.i32 0), (Go.Value.int Go.IntKind.i32 0)]⟩,
  ⟨.other, (.sc .any), 1, 8, [(Go.Value.pointer Option.none)]⟩]
noncomputable def C : Ctx := { P := Try.prog, T := tbl, tup := [(0, []), (103, [(.sc (.int .i64)), (.sc (.int .i64))]), (108, [(.sc (.int .i64)), (.sc .bool)]), (117, [(.sc (.int .i64)), (.sc (.int .i64))])], fns := [false, false, true, true, true, true, true, true, true, true, true, true, true, true, true, true, true, true, true, true, true, true, true, true, true, true, true, true, true, true, true, true, true, true, true, true, true, true, true, true, true, true, true, true, true, true, true, true, true, true, true, true, true, true, true, true, true, true, true, true, true, true, true, true, true, true, true, true, true, true, true, true, true, true, true, true, true, true, true, true, true, true, true, true, true, true, true, true, true, true, true, true, true, true, true, true, true, true, true, true, true, true, true, false, false, false, false, false, false, false, false, false, false, false, false, false, false, false, false] }
theorem C_tbl : (List.range C.T.length).map (Tbl.seen C.P) = C.T.map Tbl.told := by kernel_rfl
theorem C_mixed : C.P.follows .mixedOrders = true := by kernel_rfl
theorem C_fns : (C.P.funcs.toList.map fun f => !(f.name == "runtime.NumGoroutine") && f.body.isSome) = C.fns := by kernel_rfl
theorem C_ok : C.Ok := { tbl := C_tbl, mixed := C_mixed, fns := C_fns }
/-- wellspring/wellspringlaw10.SystemOrder -/
abbrev wellspringlaw10_SystemOrder_id : FuncId := 3
noncomputable def wellspringlaw10_SystemOrder_m (a_0 : Int) (b_1 : Int) (c_2 : Int) (seed_3 : Int) (l_4 : Sl) (turn_5 : Int) (R : Value → Heap → Prop) (h : Heap) : Prop :=
  CallM Try.prog 8 #[(.int .i64 a_0), (.int .i64 b_1), (.int .i64 c_2)] (.one (.agg [(.int .i64), (.int .i64), (.int .i64)])) h fun r1 h1 =>
  RunsA Try.prog (Instr.alloc 25 true (.tuple #[])) h1 fun a2 h2 =>
  Runs Try.prog (Instr.storeAt 25 (.pointer (some a2)) (.agg #[(.int .i64 r1.1), (.int .i64 r1.2.1), (.int .i64 r1.2.2)])) h2 fun _ h3 =>
  CallM Try.prog 9 #[(.slice l_4.ptr l_4.len l_4.cap), (.int .i64 (24 : Int))] (.one (.sc .slc)) h3 fun r3 h4 =>
  CallM Try.prog 10 #[(.int .i64 turn_5), (.int .i64 (IntKind.wrap .i64 (((r3.len : Nat) : Int) + (1 : Int))))] (.one (.sc (.int .i64))) h4 fun r4 h5 =>
  (0 ≤ r4 ∧ r4 ≤ ((r3.len : Nat) : Int)) ∧
  RunsR Try.prog (Builtin.append_ #[23, 23] 23 #[(.slice none 0 0), (.slice (if r3.cap = r4.toNat then r3.ptr else r3.ptr.map (·.add (r4.toNat * 1))) (r3.len - r4.toNat) (r3.cap - r4.toNat))]) (.one (.sc .slc)) h5 fun v5 h6 =>
  RunsR Try.prog (Builtin.append_ #[23, 23] 23 #[(.slice v5.ptr v5.len v5.cap), (.slice r3.ptr r3.len r3.cap)]) (.one (.sc .slc)) h6 fun v6 h7 =>
  LoopM (σ := Sl × Int) (fun s7 K1 h8 =>
  Br (decide (s7.2 < ((v6.len : Nat) : Int)))
  (∃ a8 : Addr, (v6.ptr = some a8 ∧ 0 ≤ s7.2 ∧ s7.2 < ((v6.len : Nat) : Int)) ∧
  ∃ x9 : Int, cellOf h8 (a8.add (s7.2.toNat * 1)) = some (.int .i64 x9) ∧
  Br (decide (x9 ≥ (0 : Int))) (Br (decide (x9 ≤ (65535 : Int)))
  (RunsR Try.prog (Instr.buildSlice 23 2 #[(0, (.int .i64 x9)), (1, (.int .i64 (-1 : Int)))]) (.one (.sc .slc)) h8 fun v10 h9 =>
  RunsR Try.prog (Builtin.append_ #[23, 23] 23 #[(.slice s7.1.ptr s7.1.len s7.1.cap), (.slice v10.ptr v10.len v10.cap)]) (.one (.sc .slc)) h9 fun v11 h10 =>
  K1 ((⟨v11.ptr, v11.len, v11.cap⟩ : Sl), IntKind.wrap .i64 (s7.2 + (1 : Int))) h10)
  (K1 ((⟨s7.1.ptr, s7.1.len, s7.1.cap⟩ : Sl), IntKind.wrap .i64 (s7.2 + (1 : Int))) h8)) (K1 ((⟨s7.1.ptr, s7.1.len, s7.1.cap⟩ : Sl), IntKind.wrap .i64 (s7.2 + (1 : Int))) h8))
  (∃ x12 : Int × Int × Int, cellsAt h8 a2 0 [(.int .i64 x12.1), (.int .i64 x12.2.1), (.int .i64 x12.2.2)] ∧
  ∃ x13 : Int × Int × Int, cellsAt h8 a2 0 [(.int .i64 x13.1), (.int .i64 x13.2.1), (.int .i64 x13.2.2)] ∧
  CallM Try.prog 11 #[(.agg #[(.int .i64 x12.1), (.int .i64 x12.2.1), (.int .i64 x12.2.2)]), (.int .u32 (IntKind.wrap .u32 seed_3)), (.slice s7.1.ptr s7.1.len s7.1.cap)] (.one (.sc (.int .i64))) h8 fun r14 h11 =>
  (Held.ok [(a2, (.int .i64 x13.1)), (a2.add 1, (.int .i64 x13.2.1)), (a2.add 2, (.int .i64 x13.2.2))] h11) ∧
  CallM Try.prog 11 #[(.agg #[(.int .i64 x13.1), (.int .i64 x13.2.1), (.int .i64 x13.2.2)]), (.int .u32 (IntKind.wrap .u32 seed_3)), (.slice r3.ptr r3.len r3.cap)] (.one (.sc (.int .i64))) h11 fun r15 h12 =>
  (Held.ok [] h12) ∧
  Br (r14 == r15) (∃ x16 : Int × Int × Int, cellsAt h12 a2 0 [(.int .i64 x16.1), (.int .i64 x16.2.1), (.int .i64 x16.2.2)] ∧
  ∃ x17 : Int × Int × Int, cellsAt h12 a2 0 [(.int .i64 x17.1), (.int .i64 x17.2.1), (.int .i64 x17.2.2)] ∧
  CallM Try.prog 12 #[(.agg #[(.int .i64 x16.1), (.int .i64 x16.2.1), (.int .i64 x16.2.2)]), (.int .u32 (IntKind.wrap .u32 seed_3)), (.slice s7.1.ptr s7.1.len s7.1.cap)] (.one (.sc .bool)) h12 fun r18 h13 =>
  (Held.ok [(a2, (.int .i64 x17.1)), (a2.add 1, (.int .i64 x17.2.1)), (a2.add 2, (.int .i64 x17.2.2))] h13) ∧
  CallM Try.prog 12 #[(.agg #[(.int .i64 x17.1), (.int .i64 x17.2.1), (.int .i64 x17.2.2)]), (.int .u32 (IntKind.wrap .u32 seed_3)), (.slice r3.ptr r3.len r3.cap)] (.one (.sc .bool)) h13 fun r19 h14 =>
  (Held.ok [] h14) ∧
  Br (r18 == r19) (CallM Try.prog 13 #[] (.one (.sc .bool)) h14 fun r20 h15 =>
  (Held.ok [] h15) ∧
  R (.bool r20) h15) ((Held.ok [] h14) ∧
  R (.bool false) h14)) ((Held.ok [] h12) ∧
  (Held.ok [] h12) ∧
  (Held.ok [] h12) ∧
  R (.bool false) h12))) ((⟨none, 0, 0⟩ : Sl), (0 : Int)) h7
noncomputable def wellspringlaw10_SystemOrder_ann : Ann := (.two .n (.two .n (.two .n (.two .n (.two .n (.two (.two .n (.inn (.loop [(16, (.sc .slc)), (38, (.sc (.int .i64)))] [(16, 17), (18, 19), (38, 53)] .n))) .n))))))
theorem wellspringlaw10_SystemOrder_eq (a_0 : Int) (b_1 : Int) (c_2 : Int) (seed_3 : Int) (l_4 : Sl) (turn_5 : Int) (R : Value → Heap → Prop) (h : Heap) : fnV C Try.f3 300 wellspringlaw10_SystemOrder_ann [(.int .i64 a_0), (.int .i64 b_1), (.int .i64 c_2), (.int .u64 seed_3), (.slice l_4.ptr l_4.len l_4.cap), (.int .i64 turn_5)] R h = wellspringlaw10_SystemOrder_m a_0 b_1 c_2 seed_3 l_4 turn_5 R h := by kernel_rfl
theorem wellspringlaw10_SystemOrder_run (a_0 : Int) (b_1 : Int) (c_2 : Int) (seed_3 : Int) (l_4 : Sl) (turn_5 : Int) {R : Value → Heap → Prop} {h : Heap} (hm : wellspringlaw10_SystemOrder_m a_0 b_1 c_2 seed_3 l_4 turn_5 R h) : Meets Try.prog 3 #[(.int .i64 a_0), (.int .i64 b_1), (.int .i64 c_2), (.int .u64 seed_3), (.slice l_4.ptr l_4.len l_4.cap), (.int .i64 turn_5)] h R :=
  fn_spec C_ok (f := 3) (fn := Try.f3) (args := [(.int .i64 a_0), (.int .i64 b_1), (.int .i64 c_2), (.int .u64 seed_3), (.slice l_4.ptr l_4.len l_4.cap), (.int .i64 turn_5)]) Try.func3 (by rw [Try.ntmps3]; exact Nat.le_of_ble_eq_true rfl) (cast (wellspringlaw10_SystemOrder_eq a_0 b_1 c_2 seed_3 l_4 turn_5 R h).symm hm)
/-- wellspring/wellspringlaw10.SystemGrows -/
abbrev wellspringlaw10_SystemGrows_id : FuncId := 4
noncomputable def wellspringlaw10_SystemGrows_m (a_0 : Int) (b_1 : Int) (c_2 : Int) (seed_3 : Int) (l_4 : Sl) (R : Value → Heap → Prop) (h : Heap) : Prop :=
  CallM Try.prog 8 #[(.int .i64 a_0), (.int .i64 b_1), (.int .i64 c_2)] (.one (.agg [(.int .i64), (.int .i64), (.int .i64)])) h fun r1 h1 =>
  RunsA Try.prog (Instr.alloc 25 true (.tuple #[])) h1 fun a2 h2 =>
  Runs Try.prog (Instr.storeAt 25 (.pointer (some a2)) (.agg #[(.int .i64 r1.1), (.int .i64 r1.2.1), (.int .i64 r1.2.2)])) h2 fun _ h3 =>
  ∃ x3 : Int × Int × Int, cellsAt h3 a2 0 [(.int .i64 x3.1), (.int .i64 x3.2.1), (.int .i64 x3.2.2)] ∧
  CallM Try.prog 11 #[(.agg #[(.int .i64 x3.1), (.int .i64 x3.2.1), (.int .i64 x3.2.2)]), (.int .u32 (IntKind.wrap .u32 seed_3)), (.slice none 0 0)] (.one (.sc (.int .i64))) h3 fun r4 h4 =>
  ∃ x5 : Int, cellOf h4 (a2.add 1) = some (.int .i64 x5) ∧
  Br (r4 != x5)
  (R (.bool false) h4)
  (CallM Try.prog 9 #[(.slice l_4.ptr l_4.len l_4.cap), (.int .i64 (20 : Int))] (.one (.sc .slc)) h4 fun r6 h5 =>
  LoopM (σ := Int × Int) (fun s7 K1 h6 =>
  Br (decide (s7.2 < ((r6.len : Nat) : Int)))
  (∃ x8 : Int × Int × Int, cellsAt h6 a2 0 [(.int .i64 x8.1), (.int .i64 x8.2.1), (.int .i64 x8.2.2)] ∧
  (0 ≤ (IntKind.wrap .i64 (s7.2 + (1 : Int))) ∧ (IntKind.wrap .i64 (s7.2 + (1 : Int))) ≤ ((r6.cap : Nat) : Int)) ∧
  CallM Try.prog 11 #[(.agg #[(.int .i64 x8.1), (.int .i64 x8.2.1), (.int .i64 x8.2.2)]), (.int .u32 (IntKind.wrap .u32 seed_3)), (.slice r6.ptr ((IntKind.wrap .i64 (s7.2 + (1 : Int))).toNat) r6.cap)] (.one (.sc (.int .i64))) h6 fun r9 h7 =>
  (Held.ok [] h7) ∧
  Br (decide (r9 < s7.1)) ((Held.ok [] h7) ∧
  (Held.ok [] h7) ∧
  (Held.ok [] h7) ∧
  R (.bool false) h7) (Br (decide (r9 > (IntKind.wrap .i64 (s7.1 + (1 : Int))))) ((Held.ok [] h7) ∧
  (Held.ok [] h7) ∧
  (Held.ok [] h7) ∧
  R (.bool false) h7) (∃ x10 : Int × Int × Int, cellsAt h7 a2 0 [(.int .i64 x10.1), (.int .i64 x10.2.1), (.int .i64 x10.2.2)] ∧
  CallM Try.prog 14 #[(.agg #[(.int .i64 x10.1), (.int .i64 x10.2.1), (.int .i64 x10.2.2)])] (.one (.sc (.int .i64))) h7 fun r11 h8 =>
  (Held.ok [] h8) ∧
  Br (decide (r9 > r11)) ((Held.ok [] h8) ∧
  (Held.ok [] h8) ∧
  R (.bool false) h8) (∃ x12 : Int × Int × Int, cellsAt h8 a2 0 [(.int .i64 x12.1), (.int .i64 x12.2.1), (.int .i64 x12.2.2)] ∧
  (0 ≤ (IntKind.wrap .i64 (s7.2 + (1 : Int))) ∧ (IntKind.wrap .i64 (s7.2 + (1 : Int))) ≤ ((r6.cap : Nat) : Int)) ∧
  ∃ x13 : Int × Int × Int, cellsAt h8 a2 0 [(.int .i64 x13.1), (.int .i64 x13.2.1), (.int .i64 x13.2.2)] ∧
  CallM Try.prog 12 #[(.agg #[(.int .i64 x12.1), (.int .i64 x12.2.1), (.int .i64 x12.2.2)]), (.int .u32 (IntKind.wrap .u32 seed_3)), (.slice r6.ptr ((IntKind.wrap .i64 (s7.2 + (1 : Int))).toNat) r6.cap)] (.one (.sc .bool)) h8 fun r14 h9 =>
  (Held.ok [(a2, (.int .i64 x13.1)), (a2.add 1, (.int .i64 x13.2.1)), (a2.add 2, (.int .i64 x13.2.2))] h9) ∧
  CallM Try.prog 14 #[(.agg #[(.int .i64 x13.1), (.int .i64 x13.2.1), (.int .i64 x13.2.2)])] (.one (.sc (.int .i64))) h9 fun r15 h10 =>
  (Held.ok [] h10) ∧
  Br (!(r14 == (r9 == r15)))
  (R (.bool false) h10)
  (K1 (r9, IntKind.wrap .i64 (s7.2 + (1 : Int))) h10)))))
  (CallM Try.prog 13 #[] (.one (.sc .bool)) h6 fun r16 h11 =>
  R (.bool r16) h11)) (r4, (0 : Int)) h5)
noncomputable def wellspringlaw10_SystemGrows_ann : Ann := (.two .n (.two .n (.two .n (.two .n (.two .n (.two .n (.two (.two .n (.inn (.loop [(13, (.sc (.int .i64))), (34, (.sc (.int .i64)))] [(10, 11), (13, 14), (15, 17), (34, 75)] .n))) .n)))))))
theorem wellspringlaw10_SystemGrows_eq (a_0 : Int) (b_1 : Int) (c_2 : Int) (seed_3 : Int) (l_4 : Sl) (R : Value → Heap → Prop) (h : Heap) : fnV C Try.f4 300 wellspringlaw10_SystemGrows_ann [(.int .i64 a_0), (.int .i64 b_1), (.int .i64 c_2), (.int .u64 seed_3), (.slice l_4.ptr l_4.len l_4.cap)] R h = wellspringlaw10_SystemGrows_m a_0 b_1 c_2 seed_3 l_4 R h := by kernel_rfl
theorem wellspringlaw10_SystemGrows_run (a_0 : Int) (b_1 : Int) (c_2 : Int) (seed_3 : Int) (l_4 : Sl) {R : Value → Heap → Prop} {h : Heap} (hm : wellspringlaw10_SystemGrows_m a_0 b_1 c_2 seed_3 l_4 R h) : Meets Try.prog 4 #[(.int .i64 a_0), (.int .i64 b_1), (.int .i64 c_2), (.int .u64 seed_3), (.slice l_4.ptr l_4.len l_4.cap)] h R :=
  fn_spec C_ok (f := 4) (fn := Try.f4) (args := [(.int .i64 a_0), (.int .i64 b_1), (.int .i64 c_2), (.int .u64 seed_3), (.slice l_4.ptr l_4.len l_4.cap)]) Try.func4 (by rw [Try.ntmps4]; exact Nat.le_of_ble_eq_true rfl) (cast (wellspringlaw10_SystemGrows_eq a_0 b_1 c_2 seed_3 l_4 R h).symm hm)
/-- wellspring/wellspringlaw10.SystemRows -/
abbrev wellspringlaw10_SystemRows_id : FuncId := 5
noncomputable def wellspringlaw10_SystemRows_m (a_0 : Int) (b_1 : Int) (c_2 : Int) (seed_3 : Int) (l_4 : Sl) (R : Value → Heap → Prop) (h : Heap) : Prop :=
  CallM Try.prog 8 #[(.int .i64 a_0), (.int .i64 b_1), (.int .i64 c_2)] (.one (.agg [(.int .i64), (.int .i64), (.int .i64)])) h fun r1 h1 =>
  RunsA Try.prog (Instr.alloc 25 true (.tuple #[])) h1 fun a2 h2 =>
  Runs Try.prog (Instr.storeAt 25 (.pointer (some a2)) (.agg #[(.int .i64 r1.1), (.int .i64 r1.2.1), (.int .i64 r1.2.2)])) h2 fun _ h3 =>
  JoinM (σ := Sl) (fun s10 h9 =>
  ∃ x11 : Int × Int × Int, cellsAt h9 a2 0 [(.int .i64 x11.1), (.int .i64 x11.2.1), (.int .i64 x11.2.2)] ∧
  CallM Try.prog 15 #[(.agg #[(.int .i64 x11.1), (.int .i64 x11.2.1), (.int .i64 x11.2.2)]), (.int .u32 (IntKind.wrap .u32 seed_3)), (.slice s10.ptr s10.len s10.cap)] (.one (.sc .slc)) h9 fun r12 h10 =>
  JoinM (σ := Unit) (fun _ h13 =>
  LoopM (σ := Int) (fun s19 K5 h14 =>
  Br (decide (s19 < ((s10.len : Nat) : Int)))
  (∃ a20 : Addr, (s10.ptr = some a20 ∧ 0 ≤ s19 ∧ s19 < ((s10.len : Nat) : Int)) ∧
  ∃ x21 : Int, cellOf h14 (a20.add (s19.toNat * 1)) = some (.int .i64 x21) ∧
  ∃ x22 : Int, cellOf h14 (a2.add 1) = some (.int .i64 x22) ∧
  ∃ a23 : Addr, (r12.ptr = some a23 ∧ 0 ≤ (IntKind.wrap .i64 (x22 + s19)) ∧ (IntKind.wrap .i64 (x22 + s19)) < ((r12.len : Nat) : Int)) ∧
  ∃ x24 : Sl, cellOf h14 (a23.add ((IntKind.wrap .i64 (x22 + s19)).toNat * 1)) = some (.slice x24.ptr x24.len x24.cap) ∧
  ∃ x25 : Int × Int × Int, cellsAt h14 a2 0 [(.int .i64 x25.1), (.int .i64 x25.2.1), (.int .i64 x25.2.2)] ∧
  CallM Try.prog 19 #[(.agg #[(.int .i64 x25.1), (.int .i64 x25.2.1), (.int .i64 x25.2.2)]), (.int .u32 (IntKind.wrap .u32 seed_3)), (.int .i64 x21)] (.one (.sc .slc)) h14 fun r26 h15 =>
  (Held.ok [(a23.add ((IntKind.wrap .i64 (x22 + s19)).toNat * 1), (.slice x24.ptr x24.len x24.cap)), (a2.add 1, (.int .i64 x22))] h15) ∧
  CallM Try.prog 18 #[(.slice x24.ptr x24.len x24.cap), (.slice r26.ptr r26.len r26.cap)] (.one (.sc .bool)) h15 fun r27 h16 =>
  (Held.ok [(a2.add 1, (.int .i64 x22))] h16) ∧
  Br (!r27)
  (R (.bool false) h16)
  (K5 (IntKind.wrap .i64 (s19 + (1 : Int))) h16))
  (∃ x28 : Int × Int × Int, cellsAt h14 a2 0 [(.int .i64 x28.1), (.int .i64 x28.2.1), (.int .i64 x28.2.2)] ∧
  CallM Try.prog 21 #[] (.one (.sc .ptr)) h14 fun r29 h17 =>
  (Held.ok [(a2, (.int .i64 x28.1)), (a2.add 1, (.int .i64 x28.2.1)), (a2.add 2, (.int .i64 x28.2.2))] h17) ∧
  CallM Try.prog 20 #[(.pointer r29), (.slice r12.ptr r12.len r12.cap)] (.one (.sc (.int .i64))) h17 fun r30 h18 =>
  (Held.ok [(a2, (.int .i64 x28.1)), (a2.add 1, (.int .i64 x28.2.1)), (a2.add 2, (.int .i64 x28.2.2))] h18) ∧
  CallM Try.prog 11 #[(.agg #[(.int .i64 x28.1), (.int .i64 x28.2.1), (.int .i64 x28.2.2)]), (.int .u32 (IntKind.wrap .u32 seed_3)), (.slice s10.ptr s10.len s10.cap)] (.one (.sc (.int .i64))) h18 fun r31 h19 =>
  (Held.ok [] h19) ∧
  Br (r30 == r31) (CallM Try.prog 13 #[] (.one (.sc .bool)) h19 fun r32 h20 =>
  (Held.ok [] h20) ∧
  R (.bool r32) h20) ((Held.ok [] h19) ∧
  R (.bool false) h19))) (0 : Int) h13)
  (fun K4 =>
  ∃ x13 : Int, cellOf h10 (a2.add 1) = some (.int .i64 x13) ∧
  Br (((r12.len : Nat) : Int) != (IntKind.wrap .i64 (x13 + ((s10.len : Nat) : Int)))) ((Held.ok [(a2.add 1, (.int .i64 x13))] h10) ∧
  (Held.ok [(a2.add 1, (.int .i64 x13))] h10) ∧
  R (.bool false) h10) (∃ x14 : Int, cellOf h10 (a2.add 1) = some (.int .i64 x14) ∧
  (0 ≤ x14 ∧ x14 ≤ ((r12.cap : Nat) : Int)) ∧
  ∃ x15 : Int × Int × Int, cellsAt h10 a2 0 [(.int .i64 x15.1), (.int .i64 x15.2.1), (.int .i64 x15.2.2)] ∧
  CallM Try.prog 17 #[(.agg #[(.int .i64 x15.1), (.int .i64 x15.2.1), (.int .i64 x15.2.2)])] (.one (.sc .slc)) h10 fun r16 h11 =>
  (Held.ok [(a2.add 1, (.int .i64 x14)), (a2.add 1, (.int .i64 x13))] h11) ∧
  CallM Try.prog 16 #[(.slice r12.ptr x14.toNat r12.cap), (.slice r16.ptr r16.len r16.cap)] (.one (.sc .bool)) h11 fun r17 h12 =>
  (Held.ok [(a2.add 1, (.int .i64 x14)), (a2.add 1, (.int .i64 x13))] h12) ∧
  Br (!r17)
  (R (.bool false) h12)
  (K4 () h12))))
  (fun K1 =>
  LoopM (σ := Sl × Int) (fun s3 K2 h4 =>
  JoinM (σ := Unit) (fun _ h5 =>
  ∃ a5 : Addr, (l_4.ptr = some a5 ∧ 0 ≤ s3.2 ∧ s3.2 < ((l_4.len : Nat) : Int)) ∧
  ∃ x6 : Int, cellOf h5 (a5.add (s3.2.toNat * 1)) = some (.int .i64 x6) ∧
  CallM Try.prog 10 #[(.int .i64 x6), (.int .i64 (60 : Int))] (.one (.sc (.int .i64))) h5 fun r7 h6 =>
  RunsR Try.prog (Instr.buildSlice 23 1 #[(0, (.int .i64 r7))]) (.one (.sc .slc)) h6 fun v8 h7 =>
  RunsR Try.prog (Builtin.append_ #[23, 23] 23 #[(.slice s3.1.ptr s3.1.len s3.1.cap), (.slice v8.ptr v8.len v8.cap)]) (.one (.sc .slc)) h7 fun v9 h8 =>
  K2 ((⟨v9.ptr, v9.len, v9.cap⟩ : Sl), IntKind.wrap .i64 (s3.2 + (1 : Int))) h8)
  (fun K3 =>
  Br (decide (s3.2 < ((l_4.len : Nat) : Int))) (Br (decide (s3.2 < (20 : Int)))
  (K3 () h4)
  (K1 (⟨s3.1.ptr, s3.1.len, s3.1.cap⟩ : Sl) h4)) (K1 (⟨s3.1.ptr, s3.1.len, s3.1.cap⟩ : Sl) h4))) ((⟨none, 0, 0⟩ : Sl), (0 : Int)) h3)
noncomputable def wellspringlaw10_SystemRows_ann : Ann := (.two .n (.two .n (.two .n (.two .n (.two (.join [(13, (.sc .slc))] [(13, 15), (24, 42)] (.two .n (.inn (.loop [(13, (.sc .slc)), (14, (.sc (.int .i64)))] [(13, 15), (24, 42)] (.two (.join [] [(24, 32)] .n) .n))))) (.two .n (.two (.join [] [(10, 11), (46, 64)] .n) (.two (.two .n (.inn (.loop [(66, (.sc (.int .i64)))] [(10, 11), (16, 18), (66, 85)] .n))) .n))))))))
theorem wellspringlaw10_SystemRows_eq (a_0 : Int) (b_1 : Int) (c_2 : Int) (seed_3 : Int) (l_4 : Sl) (R : Value → Heap → Prop) (h : Heap) : fnV C Try.f5 300 wellspringlaw10_SystemRows_ann [(.int .i64 a_0), (.int .i64 b_1), (.int .i64 c_2), (.int .u64 seed_3), (.slice l_4.ptr l_4.len l_4.cap)] R h = wellspringlaw10_SystemRows_m a_0 b_1 c_2 seed_3 l_4 R h := by kernel_rfl
theorem wellspringlaw10_SystemRows_run (a_0 : Int) (b_1 : Int) (c_2 : Int) (seed_3 : Int) (l_4 : Sl) {R : Value → Heap → Prop} {h : Heap} (hm : wellspringlaw10_SystemRows_m a_0 b_1 c_2 seed_3 l_4 R h) : Meets Try.prog 5 #[(.int .i64 a_0), (.int .i64 b_1), (.int .i64 c_2), (.int .u64 seed_3), (.slice l_4.ptr l_4.len l_4.cap)] h R :=
  fn_spec C_ok (f := 5) (fn := Try.f5) (args := [(.int .i64 a_0), (.int .i64 b_1), (.int .i64 c_2), (.int .u64 seed_3), (.slice l_4.ptr l_4.len l_4.cap)]) Try.func5 (by rw [Try.ntmps5]; exact Nat.le_of_ble_eq_true rfl) (cast (wellspringlaw10_SystemRows_eq a_0 b_1 c_2 seed_3 l_4 R h).symm hm)
/-- wellspring/wellspringlaw10.SystemTells -/
abbrev wellspringlaw10_SystemTells_id : FuncId := 6
noncomputable def wellspringlaw10_SystemTells_m (p_0 : Int × Int × Int) (a_1 : Int) (b_2 : Int) (c_3 : Int) (seed_4 : Int) (l_5 : Sl) (R : Value → Heap → Prop) (h : Heap) : Prop :=
  RunsA Try.prog (Instr.box 25 (.agg #[(.int .i64 p_0.1), (.int .i64 p_0.2.1), (.int .i64 p_0.2.2)])) h fun a1 h1 =>
  CallM Try.prog 9 #[(.slice l_5.ptr l_5.len l_5.cap), (.int .i64 (30 : Int))] (.one (.sc .slc)) h1 fun r2 h2 =>
  JoinM (σ := Unit) (fun _ h20 =>
  CallM Try.prog 13 #[] (.one (.sc .bool)) h20 fun r31 h21 =>
  R (.bool r31) h21)
  (fun K1 =>
  JoinM (σ := Sl × Int × Int) (fun s6 h5 =>
  LoopM (σ := Int) (fun s7 K3 h6 =>
  Br (decide (s7 < s6.2.1))
  (∃ a8 : Addr, (s6.1.ptr = some a8 ∧ 0 ≤ s7 ∧ s7 < ((s6.1.len : Nat) : Int)) ∧
  ∃ x9 : Int × Int × Int, cellsAt h6 (a8.add (s7.toNat * 3)) 0 [(.int .i64 x9.1), (.int .i64 x9.2.1), (.int .i64 x9.2.2)] ∧
  RunsA Try.prog (Instr.alloc 25 true (.tuple #[])) h6 fun a10 h7 =>
  Runs Try.prog (Instr.storeAt 25 (.pointer (some a10)) (.agg #[(.int .i64 x9.1), (.int .i64 x9.2.1), (.int .i64 x9.2.2)])) h7 fun _ h8 =>
  CallM Try.prog 22 #[(.slice r2.ptr r2.len r2.cap), (.int .i64 (71 : Int))] (.one (.sc .slc)) h8 fun r11 h9 =>
  ∃ x12 : Int × Int × Int, cellsAt h9 a10 0 [(.int .i64 x12.1), (.int .i64 x12.2.1), (.int .i64 x12.2.2)] ∧
  ∃ x13 : Int × Int × Int, cellsAt h9 a10 0 [(.int .i64 x13.1), (.int .i64 x13.2.1), (.int .i64 x13.2.2)] ∧
  CallM Try.prog 15 #[(.agg #[(.int .i64 x12.1), (.int .i64 x12.2.1), (.int .i64 x12.2.2)]), (.int .u32 (IntKind.wrap .u32 seed_4)), (.slice r11.ptr r11.len r11.cap)] (.one (.sc .slc)) h9 fun r14 h10 =>
  (Held.ok [(a10, (.int .i64 x13.1)), (a10.add 1, (.int .i64 x13.2.1)), (a10.add 2, (.int .i64 x13.2.2))] h10) ∧
  CallM Try.prog 23 #[(.agg #[(.int .i64 x13.1), (.int .i64 x13.2.1), (.int .i64 x13.2.2)]), (.int .u32 (IntKind.wrap .u32 seed_4)), (.slice r2.ptr r2.len r2.cap)] (.one (.sc .slc)) h10 fun r15 h11 =>
  (Held.ok [] h11) ∧
  CallM Try.prog 16 #[(.slice r14.ptr r14.len r14.cap), (.slice r15.ptr r15.len r15.cap)] (.one (.sc .bool)) h11 fun r16 h12 =>
  (Held.ok [] h12) ∧
  Br (!r16) ((Held.ok [] h12) ∧
  (Held.ok [] h12) ∧
  (Held.ok [] h12) ∧
  (Held.ok [] h12) ∧
  (Held.ok [] h12) ∧
  (Held.ok [] h12) ∧
  (Held.ok [] h12) ∧
  R (.bool false) h12) (∃ x17 : Int × Int × Int, cellsAt h12 a10 0 [(.int .i64 x17.1), (.int .i64 x17.2.1), (.int .i64 x17.2.2)] ∧
  ∃ x18 : Int × Int × Int, cellsAt h12 a10 0 [(.int .i64 x18.1), (.int .i64 x18.2.1), (.int .i64 x18.2.2)] ∧
  CallM Try.prog 11 #[(.agg #[(.int .i64 x17.1), (.int .i64 x17.2.1), (.int .i64 x17.2.2)]), (.int .u32 (IntKind.wrap .u32 seed_4)), (.slice r11.ptr r11.len r11.cap)] (.one (.sc (.int .i64))) h12 fun r19 h13 =>
  (Held.ok [(a10, (.int .i64 x18.1)), (a10.add 1, (.int .i64 x18.2.1)), (a10.add 2, (.int .i64 x18.2.2))] h13) ∧
  CallM Try.prog 24 #[(.agg #[(.int .i64 x18.1), (.int .i64 x18.2.1), (.int .i64 x18.2.2)]), (.int .u32 (IntKind.wrap .u32 seed_4)), (.slice r2.ptr r2.len r2.cap)] (.one (.sc (.int .i64))) h13 fun r20 h14 =>
  (Held.ok [] h14) ∧
  Br (r19 != r20) ((Held.ok [] h14) ∧
  (Held.ok [] h14) ∧
  (Held.ok [] h14) ∧
  (Held.ok [] h14) ∧
  (Held.ok [] h14) ∧
  R (.bool false) h14) (∃ x21 : Int × Int × Int, cellsAt h14 a10 0 [(.int .i64 x21.1), (.int .i64 x21.2.1), (.int .i64 x21.2.2)] ∧
  ∃ x22 : Int × Int × Int, cellsAt h14 a10 0 [(.int .i64 x22.1), (.int .i64 x22.2.1), (.int .i64 x22.2.2)] ∧
  CallM Try.prog 12 #[(.agg #[(.int .i64 x21.1), (.int .i64 x21.2.1), (.int .i64 x21.2.2)]), (.int .u32 (IntKind.wrap .u32 seed_4)), (.slice r11.ptr r11.len r11.cap)] (.one (.sc .bool)) h14 fun r23 h15 =>
  (Held.ok [(a10, (.int .i64 x22.1)), (a10.add 1, (.int .i64 x22.2.1)), (a10.add 2, (.int .i64 x22.2.2))] h15) ∧
  CallM Try.prog 25 #[(.agg #[(.int .i64 x22.1), (.int .i64 x22.2.1), (.int .i64 x22.2.2)]), (.int .u32 (IntKind.wrap .u32 seed_4)), (.slice r2.ptr r2.len r2.cap)] (.one (.sc .bool)) h15 fun r24 h16 =>
  (Held.ok [] h16) ∧
  Br (!(r23 == r24)) ((Held.ok [] h16) ∧
  (Held.ok [] h16) ∧
  (Held.ok [] h16) ∧
  R (.bool false) h16) (∃ x25 : Int × Int × Int, cellsAt h16 a10 0 [(.int .i64 x25.1), (.int .i64 x25.2.1), (.int .i64 x25.2.2)] ∧
  ∃ x26 : Int × Int × Int, cellsAt h16 a10 0 [(.int .i64 x26.1), (.int .i64 x26.2.1), (.int .i64 x26.2.2)] ∧
  CallM Try.prog 26 #[(.agg #[(.int .i64 x25.1), (.int .i64 x25.2.1), (.int .i64 x25.2.2)]), (.int .u32 (IntKind.wrap .u32 seed_4))] (.one (.sc .bool)) h16 fun r27 h17 =>
  (Held.ok [(a10, (.int .i64 x26.1)), (a10.add 1, (.int .i64 x26.2.1)), (a10.add 2, (.int .i64 x26.2.2))] h17) ∧
  CallM Try.prog 27 #[(.agg #[(.int .i64 x26.1), (.int .i64 x26.2.1), (.int .i64 x26.2.2)]), (.int .u32 (IntKind.wrap .u32 seed_4))] (.one (.sc .bool)) h17 fun r28 h18 =>
  (Held.ok [] h18) ∧
  Br (!(r27 == r28)) ((Held.ok [] h18) ∧
  R (.bool false) h18) (CallM Try.prog 28 #[(.slice r11.ptr r11.len r11.cap), (.slice r2.ptr r2.len r2.cap), (.int .i64 (71 : Int))] (.one (.sc .bool)) h18 fun r29 h19 =>
  (Held.ok [] h19) ∧
  Br (!r29)
  (R (.bool false) h19)
  (K3 (IntKind.wrap .i64 (s7 + (1 : Int))) h19))))))
  (K1 () h6)) s6.2.2 h5)
  (fun K2 =>
  ∃ x3 : Int × Int × Int, cellsAt h2 a1 0 [(.int .i64 x3.1), (.int .i64 x3.2.1), (.int .i64 x3.2.2)] ∧
  CallM Try.prog 8 #[(.int .i64 a_1), (.int .i64 b_2), (.int .i64 c_3)] (.one (.agg [(.int .i64), (.int .i64), (.int .i64)])) h2 fun r4 h3 =>
  (Held.ok [(a1, (.int .i64 x3.1)), (a1.add 1, (.int .i64 x3.2.1)), (a1.add 2, (.int .i64 x3.2.2))] h3) ∧
  RunsR Try.prog (Instr.buildSlice 46 2 #[(0, (.agg #[(.int .i64 x3.1), (.int .i64 x3.2.1), (.int .i64 x3.2.2)])), (1, (.agg #[(.int .i64 r4.1), (.int .i64 r4.2.1), (.int .i64 r4.2.2)]))]) (.one (.sc .slc)) h3 fun v5 h4 =>
  (Held.ok [] h4) ∧
  K2 ((⟨v5.ptr, v5.len, v5.cap⟩ : Sl), ((v5.len : Nat) : Int), (0 : Int)) h4))
noncomputable def wellspringlaw10_SystemTells_ann : Ann := (.two .n (.two .n (.two .n (.two (.join [] [(12, 13), (16, 18), (22, 83)] (.two (.join [(27, (.sc .slc)), (28, (.sc (.int .i64))), (29, (.sc (.int .i64)))] [(22, 30)] .n) (.inn (.loop [(29, (.sc (.int .i64)))] [(12, 13), (16, 18), (29, 83)] .n)))) .n))))
theorem wellspringlaw10_SystemTells_eq (p_0 : Int × Int × Int) (a_1 : Int) (b_2 : Int) (c_3 : Int) (seed_4 : Int) (l_5 : Sl) (R : Value → Heap → Prop) (h : Heap) : fnV C Try.f6 300 wellspringlaw10_SystemTells_ann [(.agg #[(.int .i64 p_0.1), (.int .i64 p_0.2.1), (.int .i64 p_0.2.2)]), (.int .i64 a_1), (.int .i64 b_2), (.int .i64 c_3), (.int .u64 seed_4), (.slice l_5.ptr l_5.len l_5.cap)] R h = wellspringlaw10_SystemTells_m p_0 a_1 b_2 c_3 seed_4 l_5 R h := by kernel_rfl
theorem wellspringlaw10_SystemTells_run (p_0 : Int × Int × Int) (a_1 : Int) (b_2 : Int) (c_3 : Int) (seed_4 : Int) (l_5 : Sl) {R : Value → Heap → Prop} {h : Heap} (hm : wellspringlaw10_SystemTells_m p_0 a_1 b_2 c_3 seed_4 l_5 R h) : Meets Try.prog 6 #[(.agg #[(.int .i64 p_0.1), (.int .i64 p_0.2.1), (.int .i64 p_0.2.2)]), (.int .i64 a_1), (.int .i64 b_2), (.int .i64 c_3), (.int .u64 seed_4), (.slice l_5.ptr l_5.len l_5.cap)] h R :=
  fn_spec C_ok (f := 6) (fn := Try.f6) (args := [(.agg #[(.int .i64 p_0.1), (.int .i64 p_0.2.1), (.int .i64 p_0.2.2)]), (.int .i64 a_1), (.int .i64 b_2), (.int .i64 c_3), (.int .u64 seed_4), (.slice l_5.ptr l_5.len l_5.cap)]) Try.func6 (by rw [Try.ntmps6]; exact Nat.le_of_ble_eq_true rfl) (cast (wellspringlaw10_SystemTells_eq p_0 a_1 b_2 c_3 seed_4 l_5 R h).symm hm)
/-- wellspring/wellspringlaw10.SystemRight -/
abbrev wellspringlaw10_SystemRight_id : FuncId := 7
noncomputable def wellspringlaw10_SystemRight_m (a_0 : Int) (b_1 : Int) (c_2 : Int) (seed_3 : Int) (gone_4 : Int) (R : Value → Heap → Prop) (h : Heap) : Prop :=
  CallM Try.prog 8 #[(.int .i64 a_0), (.int .i64 b_1), (.int .i64 c_2)] (.one (.agg [(.int .i64), (.int .i64), (.int .i64)])) h fun r1 h1 =>
  RunsA Try.prog (Instr.alloc 25 true (.tuple #[])) h1 fun a2 h2 =>
  Runs Try.prog (Instr.storeAt 25 (.pointer (some a2)) (.agg #[(.int .i64 r1.1), (.int .i64 r1.2.1), (.int .i64 r1.2.2)])) h2 fun _ h3 =>
  ∃ x3 : Int, cellOf h3 a2 = some (.int .i64 x3) ∧
  CallM Try.prog 10 #[(.int .i64 gone_4), (.int .i64 x3)] (.one (.sc (.int .i64))) h3 fun r4 h4 =>
  LoopM (σ := Sl × Sl × Int) (fun s5 K1 h5 =>
  ∃ x6 : Int, cellOf h5 a2 = some (.int .i64 x6) ∧
  Br (decide (s5.2.2 < x6))
  (RunsR Try.prog (Instr.buildSlice 23 1 #[(0, (.int .i64 s5.2.2))]) (.one (.sc .slc)) h5 fun v7 h6 =>
  RunsR Try.prog (Builtin.append_ #[23, 23] 23 #[(.slice s5.1.ptr s5.1.len s5.1.cap), (.slice v7.ptr v7.len v7.cap)]) (.one (.sc .slc)) h6 fun v8 h7 =>
  Br (s5.2.2 != r4)
  (RunsR Try.prog (Instr.buildSlice 23 1 #[(0, (.int .i64 s5.2.2))]) (.one (.sc .slc)) h7 fun v9 h8 =>
  RunsR Try.prog (Builtin.append_ #[23, 23] 23 #[(.slice s5.2.1.ptr s5.2.1.len s5.2.1.cap), (.slice v9.ptr v9.len v9.cap)]) (.one (.sc .slc)) h8 fun v10 h9 =>
  K1 ((⟨v8.ptr, v8.len, v8.cap⟩ : Sl), (⟨v10.ptr, v10.len, v10.cap⟩ : Sl), IntKind.wrap .i64 (s5.2.2 + (1 : Int))) h9)
  (K1 ((⟨v8.ptr, v8.len, v8.cap⟩ : Sl), (⟨s5.2.1.ptr, s5.2.1.len, s5.2.1.cap⟩ : Sl), IntKind.wrap .i64 (s5.2.2 + (1 : Int))) h7))
  (∃ x11 : Int × Int × Int, cellsAt h5 a2 0 [(.int .i64 x11.1), (.int .i64 x11.2.1), (.int .i64 x11.2.2)] ∧
  ∃ x12 : Int × Int × Int, cellsAt h5 a2 0 [(.int .i64 x12.1), (.int .i64 x12.2.1), (.int .i64 x12.2.2)] ∧
  CallM Try.prog 26 #[(.agg #[(.int .i64 x11.1), (.int .i64 x11.2.1), (.int .i64 x11.2.2)]), (.int .u32 (IntKind.wrap .u32 seed_3))] (.one (.sc .bool)) h5 fun r13 h10 =>
  (Held.ok [(a2, (.int .i64 x12.1)), (a2.add 1, (.int .i64 x12.2.1)), (a2.add 2, (.int .i64 x12.2.2))] h10) ∧
  CallM Try.prog 12 #[(.agg #[(.int .i64 x12.1), (.int .i64 x12.2.1), (.int .i64 x12.2.2)]), (.int .u32 (IntKind.wrap .u32 seed_3)), (.slice s5.1.ptr s5.1.len s5.1.cap)] (.one (.sc .bool)) h10 fun r14 h11 =>
  (Held.ok [] h11) ∧
  Br (r13 == r14) (∃ x15 : Int × Int × Int, cellsAt h11 a2 0 [(.int .i64 x15.1), (.int .i64 x15.2.1), (.int .i64 x15.2.2)] ∧
  CallM Try.prog 12 #[(.agg #[(.int .i64 x15.1), (.int .i64 x15.2.1), (.int .i64 x15.2.2)]), (.int .u32 (IntKind.wrap .u32 seed_3)), (.slice s5.2.1.ptr s5.2.1.len s5.2.1.cap)] (.one (.sc .bool)) h11 fun r16 h12 =>
  (Held.ok [] h12) ∧
  Br (!r16) (∃ x17 : Int, cellOf h12 a2 = some (.int .i64 x17) ∧
  CallM Try.prog 26 #[(.agg #[(.int .i64 x17), (.int .i64 (0 : Int)), (.int .i64 (1 : Int))]), (.int .u32 (IntKind.wrap .u32 seed_3))] (.one (.sc .bool)) h12 fun r18 h13 =>
  (Held.ok [(a2, (.int .i64 x17))] h13) ∧
  Br (!r18) (CallM Try.prog 13 #[] (.one (.sc .bool)) h13 fun r19 h14 =>
  (Held.ok [(a2, (.int .i64 x17))] h14) ∧
  R (.bool r19) h14) ((Held.ok [(a2, (.int .i64 x17))] h13) ∧
  R (.bool false) h13)) ((Held.ok [] h12) ∧
  (Held.ok [] h12) ∧
  R (.bool false) h12)) ((Held.ok [] h11) ∧
  (Held.ok [] h11) ∧
  (Held.ok [] h11) ∧
  R (.bool false) h11))) ((⟨none, 0, 0⟩ : Sl), (⟨none, 0, 0⟩ : Sl), (0 : Int)) h4
noncomputable def wellspringlaw10_SystemRight_ann : Ann := (.two .n (.two .n (.two .n (.two .n (.two .n (.two (.two .n (.inn (.loop [(13, (.sc .slc)), (14, (.sc .slc)), (16, (.sc (.int .i64)))] [(13, 15), (16, 17), (27, 44)] .n))) .n))))))
theorem wellspringlaw10_SystemRight_eq (a_0 : Int) (b_1 : Int) (c_2 : Int) (seed_3 : Int) (gone_4 : Int) (R : Value → Heap → Prop) (h : Heap) : fnV C Try.f7 300 wellspringlaw10_SystemRight_ann [(.int .i64 a_0), (.int .i64 b_1), (.int .i64 c_2), (.int .u64 seed_3), (.int .i64 gone_4)] R h = wellspringlaw10_SystemRight_m a_0 b_1 c_2 seed_3 gone_4 R h := by kernel_rfl
theorem wellspringlaw10_SystemRight_run (a_0 : Int) (b_1 : Int) (c_2 : Int) (seed_3 : Int) (gone_4 : Int) {R : Value → Heap → Prop} {h : Heap} (hm : wellspringlaw10_SystemRight_m a_0 b_1 c_2 seed_3 gone_4 R h) : Meets Try.prog 7 #[(.int .i64 a_0), (.int .i64 b_1), (.int .i64 c_2), (.int .u64 seed_3), (.int .i64 gone_4)] h R :=
  fn_spec C_ok (f := 7) (fn := Try.f7) (args := [(.int .i64 a_0), (.int .i64 b_1), (.int .i64 c_2), (.int .u64 seed_3), (.int .i64 gone_4)]) Try.func7 (by rw [Try.ntmps7]; exact Nat.le_of_ble_eq_true rfl) (cast (wellspringlaw10_SystemRight_eq a_0 b_1 c_2 seed_3 gone_4 R h).symm hm)
/-- wellspring/wellspringplay.Params -/
abbrev wellspringplay_Params_id : FuncId := 8
noncomputable def wellspringplay_Params_m (a_0 : Int) (b_1 : Int) (c_2 : Int) (R : Value → Heap → Prop) (h : Heap) : Prop :=
  RunsA Try.prog (Instr.alloc 25 true (.tuple #[])) h fun a1 h1 =>
  CallM Try.prog 10 #[(.int .i64 a_0), (.int .i64 (16 : Int))] (.one (.sc (.int .i64))) h1 fun r2 h2 =>
  CallM Try.prog 10 #[(.int .i64 b_1), (.int .i64 (4 : Int))] (.one (.sc (.int .i64))) h2 fun r3 h3 =>
  CallM Try.prog 10 #[(.int .i64 c_2), (.int .i64 (24 : Int))] (.one (.sc (.int .i64))) h3 fun r4 h4 =>
  Runs Try.prog (Instr.storeAt 25 (.pointer (some a1)) (.agg #[(.int .i64 (IntKind.wrap .i64 ((1 : Int) + r2))), (.int .i64 (IntKind.wrap .i64 ((1 : Int) + r3))), (.int .i64 (IntKind.wrap .i64 ((1 : Int) + r4)))])) h4 fun _ h5 =>
  ∃ res5 : Int × Int × Int, cellsAt h5 a1 0 [(.int .i64 res5.1), (.int .i64 res5.2.1), (.int .i64 res5.2.2)] ∧
  R (.agg #[(.int .i64 res5.1), (.int .i64 res5.2.1), (.int .i64 res5.2.2)]) h5
noncomputable def wellspringplay_Params_ann : Ann := .n
theorem wellspringplay_Params_eq (a_0 : Int) (b_1 : Int) (c_2 : Int) (R : Value → Heap → Prop) (h : Heap) : fnV C Try.f8 300 wellspringplay_Params_ann [(.int .i64 a_0), (.int .i64 b_1), (.int .i64 c_2)] R h = wellspringplay_Params_m a_0 b_1 c_2 R h := by kernel_rfl
theorem wellspringplay_Params_run (a_0 : Int) (b_1 : Int) (c_2 : Int) {R : Value → Heap → Prop} {h : Heap} (hm : wellspringplay_Params_m a_0 b_1 c_2 R h) : Meets Try.prog 8 #[(.int .i64 a_0), (.int .i64 b_1), (.int .i64 c_2)] h R :=
  fn_spec C_ok (f := 8) (fn := Try.f8) (args := [(.int .i64 a_0), (.int .i64 b_1), (.int .i64 c_2)]) Try.func8 (by rw [Try.ntmps8]; exact Nat.le_of_ble_eq_true rfl) (cast (wellspringplay_Params_eq a_0 b_1 c_2 R h).symm hm)
/-- wellspring/wellspringlaw10.IDs -/
abbrev wellspringlaw10_IDs_id : FuncId := 9
noncomputable def wellspringlaw10_IDs_m (l_0 : Sl) (most_1 : Int) (R : Value → Heap → Prop) (h : Heap) : Prop :=
  JoinM (σ := Sl) (fun s19 h11 =>
  R (.slice s19.ptr s19.len s19.cap) h11)
  (fun K1 =>
  LoopM (σ := Sl × Int) (fun s1 K2 h1 =>
  JoinM (σ := Unit) (fun _ h2 =>
  ∃ a3 : Addr, (l_0.ptr = some a3 ∧ 0 ≤ s1.2 ∧ s1.2 < ((l_0.len : Nat) : Int)) ∧
  ∃ x4 : Int, cellOf h2 (a3.add (s1.2.toNat * 1)) = some (.int .i64 x4) ∧
  ((7 : Int) ≠ 0) ∧
  Br ((Int.tmod x4 (7 : Int)) == (5 : Int))
  (∃ a5 : Addr, (l_0.ptr = some a5 ∧ 0 ≤ s1.2 ∧ s1.2 < ((l_0.len : Nat) : Int)) ∧
  ∃ x6 : Int, cellOf h2 (a5.add (s1.2.toNat * 1)) = some (.int .i64 x6) ∧
  ((7 : Int) ≠ 0) ∧
  CallM Try.prog 10 #[(.int .i64 (IntKind.wrap .i64 (Int.tdiv x6 (7 : Int)))), (.int .i64 (65536 : Int))] (.one (.sc (.int .i64))) h2 fun r7 h3 =>
  RunsR Try.prog (Instr.buildSlice 23 1 #[(0, (.int .i64 r7))]) (.one (.sc .slc)) h3 fun v8 h4 =>
  RunsR Try.prog (Builtin.append_ #[23, 23] 23 #[(.slice s1.1.ptr s1.1.len s1.1.cap), (.slice v8.ptr v8.len v8.cap)]) (.one (.sc .slc)) h4 fun v9 h5 =>
  K2 ((⟨v9.ptr, v9.len, v9.cap⟩ : Sl), IntKind.wrap .i64 (s1.2 + (1 : Int))) h5)
  (Br ((Int.tmod x4 (7 : Int)) == (6 : Int))
  (∃ a10 : Addr, (l_0.ptr = some a10 ∧ 0 ≤ s1.2 ∧ s1.2 < ((l_0.len : Nat) : Int)) ∧
  ∃ x11 : Int, cellOf h2 (a10.add (s1.2.toNat * 1)) = some (.int .i64 x11) ∧
  RunsR Try.prog (Instr.buildSlice 23 1 #[(0, (.int .i64 x11))]) (.one (.sc .slc)) h2 fun v12 h6 =>
  RunsR Try.prog (Builtin.append_ #[23, 23] 23 #[(.slice s1.1.ptr s1.1.len s1.1.cap), (.slice v12.ptr v12.len v12.cap)]) (.one (.sc .slc)) h6 fun v13 h7 =>
  K2 ((⟨v13.ptr, v13.len, v13.cap⟩ : Sl), IntKind.wrap .i64 (s1.2 + (1 : Int))) h7)
  (∃ a14 : Addr, (l_0.ptr = some a14 ∧ 0 ≤ s1.2 ∧ s1.2 < ((l_0.len : Nat) : Int)) ∧
  ∃ x15 : Int, cellOf h2 (a14.add (s1.2.toNat * 1)) = some (.int .i64 x15) ∧
  ((7 : Int) ≠ 0) ∧
  CallM Try.prog 10 #[(.int .i64 (IntKind.wrap .i64 (Int.tdiv x15 (7 : Int)))), (.int .i64 (40 : Int))] (.one (.sc (.int .i64))) h2 fun r16 h8 =>
  RunsR Try.prog (Instr.buildSlice 23 1 #[(0, (.int .i64 r16))]) (.one (.sc .slc)) h8 fun v17 h9 =>
  RunsR Try.prog (Builtin.append_ #[23, 23] 23 #[(.slice s1.1.ptr s1.1.len s1.1.cap), (.slice v17.ptr v17.len v17.cap)]) (.one (.sc .slc)) h9 fun v18 h10 =>
  K2 ((⟨v18.ptr, v18.len, v18.cap⟩ : Sl), IntKind.wrap .i64 (s1.2 + (1 : Int))) h10)))
  (fun K3 =>
  Br (decide (s1.2 < ((l_0.len : Nat) : Int))) (Br (decide (s1.2 < most_1))
  (K3 () h1)
  (K1 (⟨s1.1.ptr, s1.1.len, s1.1.cap⟩ : Sl) h1)) (K1 (⟨s1.1.ptr, s1.1.len, s1.1.cap⟩ : Sl) h1))) ((⟨none, 0, 0⟩ : Sl), (0 : Int)) h)
noncomputable def wellspringlaw10_IDs_ann : Ann := (.two .n (.two .n (.two (.join [(5, (.sc .slc))] [(5, 52)] (.two .n (.inn (.loop [(5, (.sc .slc)), (6, (.sc (.int .i64)))] [(5, 52)] (.two (.join [] [(7, 16)] .n) .n))))) .n)))
theorem wellspringlaw10_IDs_eq (l_0 : Sl) (most_1 : Int) (R : Value → Heap → Prop) (h : Heap) : fnV C Try.f9 300 wellspringlaw10_IDs_ann [(.slice l_0.ptr l_0.len l_0.cap), (.int .i64 most_1)] R h = wellspringlaw10_IDs_m l_0 most_1 R h := by kernel_rfl
theorem wellspringlaw10_IDs_run (l_0 : Sl) (most_1 : Int) {R : Value → Heap → Prop} {h : Heap} (hm : wellspringlaw10_IDs_m l_0 most_1 R h) : Meets Try.prog 9 #[(.slice l_0.ptr l_0.len l_0.cap), (.int .i64 most_1)] h R :=
  fn_spec C_ok (f := 9) (fn := Try.f9) (args := [(.slice l_0.ptr l_0.len l_0.cap), (.int .i64 most_1)]) Try.func9 (by rw [Try.ntmps9]; exact Nat.le_of_ble_eq_true rfl) (cast (wellspringlaw10_IDs_eq l_0 most_1 R h).symm hm)
/-- wellspring/wellspringkeep.Within -/
abbrev wellspringkeep_Within_id : FuncId := 10
noncomputable def wellspringkeep_Within_m (x_0 : Int) (n_1 : Int) (R : Value → Heap → Prop) (h : Heap) : Prop :=
  (n_1 ≠ 0) ∧
  JoinM (σ := Int) (fun s1 h1 =>
  R (.int .i64 s1) h1)
  (fun K1 =>
  Br (decide ((Int.tmod x_0 n_1) < (0 : Int)))
  (K1 (IntKind.wrap .i64 ((Int.tmod x_0 n_1) + n_1)) h)
  (K1 (Int.tmod x_0 n_1) h))
noncomputable def wellspringkeep_Within_ann : Ann := (.two .n (.two .n (.two (.join [(0, (.sc (.int .i64)))] [(0, 1), (8, 13)] .n) .n)))
theorem wellspringkeep_Within_eq (x_0 : Int) (n_1 : Int) (R : Value → Heap → Prop) (h : Heap) : fnV C Try.f10 300 wellspringkeep_Within_ann [(.int .i64 x_0), (.int .i64 n_1)] R h = wellspringkeep_Within_m x_0 n_1 R h := by kernel_rfl
theorem wellspringkeep_Within_run (x_0 : Int) (n_1 : Int) {R : Value → Heap → Prop} {h : Heap} (hm : wellspringkeep_Within_m x_0 n_1 R h) : Meets Try.prog 10 #[(.int .i64 x_0), (.int .i64 n_1)] h R :=
  fn_spec C_ok (f := 10) (fn := Try.f10) (args := [(.int .i64 x_0), (.int .i64 n_1)]) Try.func10 (by rw [Try.ntmps10]; exact Nat.le_of_ble_eq_true rfl) (cast (wellspringkeep_Within_eq x_0 n_1 R h).symm hm)
/-- wellspring/system.Rank -/
abbrev system_Rank_id : FuncId := 11
noncomputable def system_Rank_m (p_0 : Int × Int × Int) (seed_1 : Int) (ids_2 : Sl) (R : Value → Heap → Prop) (h : Heap) : Prop :=
  RunsA Try.prog (Instr.box 25 (.agg #[(.int .i64 p_0.1), (.int .i64 p_0.2.1), (.int .i64 p_0.2.2)])) h fun a1 h1 =>
  ∃ x2 : Int × Int × Int, cellsAt h1 a1 0 [(.int .i64 x2.1), (.int .i64 x2.2.1), (.int .i64 x2.2.2)] ∧
  CallM Try.prog 21 #[] (.one (.sc .ptr)) h1 fun r3 h2 =>
  (Held.ok [(a1, (.int .i64 x2.1)), (a1.add 1, (.int .i64 x2.2.1)), (a1.add 2, (.int .i64 x2.2.2))] h2) ∧
  CallM Try.prog 15 #[(.agg #[(.int .i64 x2.1), (.int .i64 x2.2.1), (.int .i64 x2.2.2)]), (.int .u32 seed_1), (.slice ids_2.ptr ids_2.len ids_2.cap)] (.one (.sc .slc)) h2 fun r4 h3 =>
  (Held.ok [] h3) ∧
  CallM Try.prog 20 #[(.pointer r3), (.slice r4.ptr r4.len r4.cap)] (.one (.sc (.int .i64))) h3 fun r5 h4 =>
  (Held.ok [] h4) ∧
  R (.int .i64 r5) h4
noncomputable def system_Rank_ann : Ann := .n
theorem system_Rank_eq (p_0 : Int × Int × Int) (seed_1 : Int) (ids_2 : Sl) (R : Value → Heap → Prop) (h : Heap) : fnV C Try.f11 300 system_Rank_ann [(.agg #[(.int .i64 p_0.1), (.int .i64 p_0.2.1), (.int .i64 p_0.2.2)]), (.int .u32 seed_1), (.slice ids_2.ptr ids_2.len ids_2.cap)] R h = system_Rank_m p_0 seed_1 ids_2 R h := by kernel_rfl
theorem system_Rank_run (p_0 : Int × Int × Int) (seed_1 : Int) (ids_2 : Sl) {R : Value → Heap → Prop} {h : Heap} (hm : system_Rank_m p_0 seed_1 ids_2 R h) : Meets Try.prog 11 #[(.agg #[(.int .i64 p_0.1), (.int .i64 p_0.2.1), (.int .i64 p_0.2.2)]), (.int .u32 seed_1), (.slice ids_2.ptr ids_2.len ids_2.cap)] h R :=
  fn_spec C_ok (f := 11) (fn := Try.f11) (args := [(.agg #[(.int .i64 p_0.1), (.int .i64 p_0.2.1), (.int .i64 p_0.2.2)]), (.int .u32 seed_1), (.slice ids_2.ptr ids_2.len ids_2.cap)]) Try.func11 (by rw [Try.ntmps11]; exact Nat.le_of_ble_eq_true rfl) (cast (system_Rank_eq p_0 seed_1 ids_2 R h).symm hm)
/-- wellspring/system.Full -/
abbrev system_Full_id : FuncId := 12
noncomputable def system_Full_m (p_0 : Int × Int × Int) (seed_1 : Int) (ids_2 : Sl) (R : Value → Heap → Prop) (h : Heap) : Prop :=
  RunsA Try.prog (Instr.box 25 (.agg #[(.int .i64 p_0.1), (.int .i64 p_0.2.1), (.int .i64 p_0.2.2)])) h fun a1 h1 =>
  ∃ x2 : Int × Int × Int, cellsAt h1 a1 0 [(.int .i64 x2.1), (.int .i64 x2.2.1), (.int .i64 x2.2.2)] ∧
  CallM Try.prog 29 #[(.agg #[(.int .i64 x2.1), (.int .i64 x2.2.1), (.int .i64 x2.2.2)])] (.one (.sc .bool)) h1 fun r3 h2 =>
  (Held.ok [] h2) ∧
  Br r3 (∃ x4 : Int × Int × Int, cellsAt h2 a1 0 [(.int .i64 x4.1), (.int .i64 x4.2.1), (.int .i64 x4.2.2)] ∧
  ∃ x5 : Int × Int × Int, cellsAt h2 a1 0 [(.int .i64 x5.1), (.int .i64 x5.2.1), (.int .i64 x5.2.2)] ∧
  CallM Try.prog 11 #[(.agg #[(.int .i64 x4.1), (.int .i64 x4.2.1), (.int .i64 x4.2.2)]), (.int .u32 seed_1), (.slice ids_2.ptr ids_2.len ids_2.cap)] (.one (.sc (.int .i64))) h2 fun r6 h3 =>
  (Held.ok [(a1, (.int .i64 x5.1)), (a1.add 1, (.int .i64 x5.2.1)), (a1.add 2, (.int .i64 x5.2.2))] h3) ∧
  CallM Try.prog 14 #[(.agg #[(.int .i64 x5.1), (.int .i64 x5.2.1), (.int .i64 x5.2.2)])] (.one (.sc (.int .i64))) h3 fun r7 h4 =>
  (Held.ok [] h4) ∧
  R (.bool (r6 == r7)) h4) ((Held.ok [] h2) ∧
  (Held.ok [] h2) ∧
  R (.bool false) h2)
noncomputable def system_Full_ann : Ann := .n
theorem system_Full_eq (p_0 : Int × Int × Int) (seed_1 : Int) (ids_2 : Sl) (R : Value → Heap → Prop) (h : Heap) : fnV C Try.f12 300 system_Full_ann [(.agg #[(.int .i64 p_0.1), (.int .i64 p_0.2.1), (.int .i64 p_0.2.2)]), (.int .u32 seed_1), (.slice ids_2.ptr ids_2.len ids_2.cap)] R h = system_Full_m p_0 seed_1 ids_2 R h := by kernel_rfl
theorem system_Full_run (p_0 : Int × Int × Int) (seed_1 : Int) (ids_2 : Sl) {R : Value → Heap → Prop} {h : Heap} (hm : system_Full_m p_0 seed_1 ids_2 R h) : Meets Try.prog 12 #[(.agg #[(.int .i64 p_0.1), (.int .i64 p_0.2.1), (.int .i64 p_0.2.2)]), (.int .u32 seed_1), (.slice ids_2.ptr ids_2.len ids_2.cap)] h R :=
  fn_spec C_ok (f := 12) (fn := Try.f12) (args := [(.agg #[(.int .i64 p_0.1), (.int .i64 p_0.2.1), (.int .i64 p_0.2.2)]), (.int .u32 seed_1), (.slice ids_2.ptr ids_2.len ids_2.cap)]) Try.func12 (by rw [Try.ntmps12]; exact Nat.le_of_ble_eq_true rfl) (cast (system_Full_eq p_0 seed_1 ids_2 R h).symm hm)
/-- wellspring/wellspringlaw10.wakes -/
abbrev wellspringlaw10_wakes_id : FuncId := 13
noncomputable def wellspringlaw10_wakes_m  (R : Value → Heap → Prop) (h : Heap) : Prop :=
  RunsA Try.prog (Instr.alloc 25 true (.tuple #[])) h fun a1 h1 =>
  Runs Try.prog (Instr.storeAt 25 (.pointer (some a1)) (.agg #[(.int .i64 (2 : Int)), (.int .i64 (1 : Int)), (.int .i64 (1 : Int))])) h1 fun _ h2 =>
  ∃ x2 : Int × Int × Int, cellsAt h2 a1 0 [(.int .i64 x2.1), (.int .i64 x2.2.1), (.int .i64 x2.2.2)] ∧
  CallM Try.prog 15 #[(.agg #[(.int .i64 x2.1), (.int .i64 x2.2.1), (.int .i64 x2.2.2)]), (.int .u32 (1 : Int)), (.slice none 0 0)] (.one (.sc .slc)) h2 fun r3 h3 =>
  Br (((r3.len : Nat) : Int) == (1 : Int)) (∃ x4 : Int × Int × Int, cellsAt h3 a1 0 [(.int .i64 x4.1), (.int .i64 x4.2.1), (.int .i64 x4.2.2)] ∧
  CallM Try.prog 11 #[(.agg #[(.int .i64 x4.1), (.int .i64 x4.2.1), (.int .i64 x4.2.2)]), (.int .u32 (1 : Int)), (.slice none 0 0)] (.one (.sc (.int .i64))) h3 fun r5 h4 =>
  Br (r5 == (1 : Int)) (∃ x6 : Int × Int × Int, cellsAt h4 a1 0 [(.int .i64 x6.1), (.int .i64 x6.2.1), (.int .i64 x6.2.2)] ∧
  CallM Try.prog 12 #[(.agg #[(.int .i64 x6.1), (.int .i64 x6.2.1), (.int .i64 x6.2.2)]), (.int .u32 (1 : Int)), (.slice none 0 0)] (.one (.sc .bool)) h4 fun r7 h5 =>
  R (.bool (!r7)) h5) (R (.bool false) h4)) (R (.bool false) h3)
noncomputable def wellspringlaw10_wakes_ann : Ann := .n
theorem wellspringlaw10_wakes_eq  (R : Value → Heap → Prop) (h : Heap) : fnV C Try.f13 300 wellspringlaw10_wakes_ann [] R h = wellspringlaw10_wakes_m  R h := by kernel_rfl
theorem wellspringlaw10_wakes_run  {R : Value → Heap → Prop} {h : Heap} (hm : wellspringlaw10_wakes_m  R h) : Meets Try.prog 13 #[] h R :=
  fn_spec C_ok (f := 13) (fn := Try.f13) (args := []) Try.func13 (by rw [Try.ntmps13]; exact Nat.le_of_ble_eq_true rfl) (cast (wellspringlaw10_wakes_eq  R h).symm hm)
/-- wellspring/pre.Cols -/
abbrev pre_Cols_id : FuncId := 14
noncomputable def pre_Cols_m (p_0 : Int × Int × Int) (R : Value → Heap → Prop) (h : Heap) : Prop :=
  RunsA Try.prog (Instr.box 25 (.agg #[(.int .i64 p_0.1), (.int .i64 p_0.2.1), (.int .i64 p_0.2.2)])) h fun a1 h1 =>
  ∃ x2 : Int × Int × Int, cellsAt h1 a1 0 [(.int .i64 x2.1), (.int .i64 x2.2.1), (.int .i64 x2.2.2)] ∧
  CallM Try.prog 29 #[(.agg #[(.int .i64 x2.1), (.int .i64 x2.2.1), (.int .i64 x2.2.2)])] (.one (.sc .bool)) h1 fun r3 h2 =>
  Br (!r3)
  (R (.int .i64 (0 : Int)) h2)
  (∃ x4 : Int, cellOf h2 a1 = some (.int .i64 x4) ∧
  ∃ x5 : Int, cellOf h2 (a1.add 1) = some (.int .i64 x5) ∧
  R (.int .i64 (IntKind.wrap .i64 (x4 + x5))) h2)
noncomputable def pre_Cols_ann : Ann := .n
theorem pre_Cols_eq (p_0 : Int × Int × Int) (R : Value → Heap → Prop) (h : Heap) : fnV C Try.f14 300 pre_Cols_ann [(.agg #[(.int .i64 p_0.1), (.int .i64 p_0.2.1), (.int .i64 p_0.2.2)])] R h = pre_Cols_m p_0 R h := by kernel_rfl
theorem pre_Cols_run (p_0 : Int × Int × Int) {R : Value → Heap → Prop} {h : Heap} (hm : pre_Cols_m p_0 R h) : Meets Try.prog 14 #[(.agg #[(.int .i64 p_0.1), (.int .i64 p_0.2.1), (.int .i64 p_0.2.2)])] h R :=
  fn_spec C_ok (f := 14) (fn := Try.f14) (args := [(.agg #[(.int .i64 p_0.1), (.int .i64 p_0.2.1), (.int .i64 p_0.2.2)])]) Try.func14 (by rw [Try.ntmps14]; exact Nat.le_of_ble_eq_true rfl) (cast (pre_Cols_eq p_0 R h).symm hm)
/-- wellspring/system.Matrix -/
abbrev system_Matrix_id : FuncId := 15
noncomputable def system_Matrix_m (p_0 : Int × Int × Int) (seed_1 : Int) (ids_2 : Sl) (R : Value → Heap → Prop) (h : Heap) : Prop :=
  RunsA Try.prog (Instr.box 25 (.agg #[(.int .i64 p_0.1), (.int .i64 p_0.2.1), (.int .i64 p_0.2.2)])) h fun a1 h1 =>
  ∃ x2 : Int × Int × Int, cellsAt h1 a1 0 [(.int .i64 x2.1), (.int .i64 x2.2.1), (.int .i64 x2.2.2)] ∧
  CallM Try.prog 17 #[(.agg #[(.int .i64 x2.1), (.int .i64 x2.2.1), (.int .i64 x2.2.2)])] (.one (.sc .slc)) h1 fun r3 h2 =>
  LoopM (σ := Sl × Int) (fun s4 K1 h3 =>
  Br (decide (s4.2 < ((ids_2.len : Nat) : Int)))
  (∃ a5 : Addr, (ids_2.ptr = some a5 ∧ 0 ≤ s4.2 ∧ s4.2 < ((ids_2.len : Nat) : Int)) ∧
  ∃ x6 : Int, cellOf h3 (a5.add (s4.2.toNat * 1)) = some (.int .i64 x6) ∧
  ∃ x7 : Int × Int × Int, cellsAt h3 a1 0 [(.int .i64 x7.1), (.int .i64 x7.2.1), (.int .i64 x7.2.2)] ∧
  CallM Try.prog 19 #[(.agg #[(.int .i64 x7.1), (.int .i64 x7.2.1), (.int .i64 x7.2.2)]), (.int .u32 seed_1), (.int .i64 x6)] (.one (.sc .slc)) h3 fun r8 h4 =>
  Br (!(Option.isNone r8.ptr))
  (RunsR Try.prog (Instr.buildSlice 36 1 #[(0, (.slice r8.ptr r8.len r8.cap))]) (.one (.sc .slc)) h4 fun v9 h5 =>
  RunsR Try.prog (Builtin.append_ #[36, 36] 36 #[(.slice s4.1.ptr s4.1.len s4.1.cap), (.slice v9.ptr v9.len v9.cap)]) (.one (.sc .slc)) h5 fun v10 h6 =>
  K1 ((⟨v10.ptr, v10.len, v10.cap⟩ : Sl), IntKind.wrap .i64 (s4.2 + (1 : Int))) h6)
  (K1 ((⟨s4.1.ptr, s4.1.len, s4.1.cap⟩ : Sl), IntKind.wrap .i64 (s4.2 + (1 : Int))) h4))
  (R (.slice s4.1.ptr s4.1.len s4.1.cap) h3)) ((⟨r3.ptr, r3.len, r3.cap⟩ : Sl), (0 : Int)) h2
noncomputable def system_Matrix_ann : Ann := (.two .n (.two .n (.two (.two .n (.inn (.loop [(7, (.sc .slc)), (15, (.sc (.int .i64)))] [(7, 8), (9, 11), (15, 30)] .n))) .n)))
theorem system_Matrix_eq (p_0 : Int × Int × Int) (seed_1 : Int) (ids_2 : Sl) (R : Value → Heap → Prop) (h : Heap) : fnV C Try.f15 300 system_Matrix_ann [(.agg #[(.int .i64 p_0.1), (.int .i64 p_0.2.1), (.int .i64 p_0.2.2)]), (.int .u32 seed_1), (.slice ids_2.ptr ids_2.len ids_2.cap)] R h = system_Matrix_m p_0 seed_1 ids_2 R h := by kernel_rfl
theorem system_Matrix_run (p_0 : Int × Int × Int) (seed_1 : Int) (ids_2 : Sl) {R : Value → Heap → Prop} {h : Heap} (hm : system_Matrix_m p_0 seed_1 ids_2 R h) : Meets Try.prog 15 #[(.agg #[(.int .i64 p_0.1), (.int .i64 p_0.2.1), (.int .i64 p_0.2.2)]), (.int .u32 seed_1), (.slice ids_2.ptr ids_2.len ids_2.cap)] h R :=
  fn_spec C_ok (f := 15) (fn := Try.f15) (args := [(.agg #[(.int .i64 p_0.1), (.int .i64 p_0.2.1), (.int .i64 p_0.2.2)]), (.int .u32 seed_1), (.slice ids_2.ptr ids_2.len ids_2.cap)]) Try.func15 (by rw [Try.ntmps15]; exact Nat.le_of_ble_eq_true rfl) (cast (system_Matrix_eq p_0 seed_1 ids_2 R h).symm hm)
/-- wellspring/wellspringkeep.Rows[byte] -/
abbrev wellspringkeep_Rows_byte_id : FuncId := 16
noncomputable def wellspringkeep_Rows_byte_m (a_0 : Sl) (b_1 : Sl) (R : Value → Heap → Prop) (h : Heap) : Prop :=
  Br (((a_0.len : Nat) : Int) != ((b_1.len : Nat) : Int))
  (R (.bool false) h)
  (LoopM (σ := Int) (fun s1 K1 h1 =>
  Br (decide (s1 < ((a_0.len : Nat) : Int)))
  (∃ a2 : Addr, (a_0.ptr = some a2 ∧ 0 ≤ s1 ∧ s1 < ((a_0.len : Nat) : Int)) ∧
  ∃ x3 : Sl, cellOf h1 (a2.add (s1.toNat * 1)) = some (.slice x3.ptr x3.len x3.cap) ∧
  ∃ a4 : Addr, (b_1.ptr = some a4 ∧ 0 ≤ s1 ∧ s1 < ((b_1.len : Nat) : Int)) ∧
  ∃ x5 : Sl, cellOf h1 (a4.add (s1.toNat * 1)) = some (.slice x5.ptr x5.len x5.cap) ∧
  CallM Try.prog 18 #[(.slice x3.ptr x3.len x3.cap), (.slice x5.ptr x5.len x5.cap)] (.one (.sc .bool)) h1 fun r6 h2 =>
  (Held.ok [] h2) ∧
  Br (!r6)
  (R (.bool false) h2)
  (K1 (IntKind.wrap .i64 (s1 + (1 : Int))) h2))
  (R (.bool true) h1)) (0 : Int) h)
noncomputable def wellspringkeep_Rows_byte_ann : Ann := (.two .n (.two .n (.two (.two .n (.inn (.loop [(13, (.sc (.int .i64)))] [(4, 6), (13, 27)] .n))) .n)))
theorem wellspringkeep_Rows_byte_eq (a_0 : Sl) (b_1 : Sl) (R : Value → Heap → Prop) (h : Heap) : fnV C Try.f16 300 wellspringkeep_Rows_byte_ann [(.slice a_0.ptr a_0.len a_0.cap), (.slice b_1.ptr b_1.len b_1.cap)] R h = wellspringkeep_Rows_byte_m a_0 b_1 R h := by kernel_rfl
theorem wellspringkeep_Rows_byte_run (a_0 : Sl) (b_1 : Sl) {R : Value → Heap → Prop} {h : Heap} (hm : wellspringkeep_Rows_byte_m a_0 b_1 R h) : Meets Try.prog 16 #[(.slice a_0.ptr a_0.len a_0.cap), (.slice b_1.ptr b_1.len b_1.cap)] h R :=
  fn_spec C_ok (f := 16) (fn := Try.f16) (args := [(.slice a_0.ptr a_0.len a_0.cap), (.slice b_1.ptr b_1.len b_1.cap)]) Try.func16 (by rw [Try.ntmps16]; exact Nat.le_of_ble_eq_true rfl) (cast (wellspringkeep_Rows_byte_eq a_0 b_1 R h).symm hm)
/-- wellspring/pre.Rows -/
abbrev pre_Rows_id : FuncId := 17
noncomputable def pre_Rows_m (p_0 : Int × Int × Int) (R : Value → Heap → Prop) (h : Heap) : Prop :=
  RunsA Try.prog (Instr.box 25 (.agg #[(.int .i64 p_0.1), (.int .i64 p_0.2.1), (.int .i64 p_0.2.2)])) h fun a1 h1 =>
  ∃ x2 : Int × Int × Int, cellsAt h1 a1 0 [(.int .i64 x2.1), (.int .i64 x2.2.1), (.int .i64 x2.2.2)] ∧
  CallM Try.prog 29 #[(.agg #[(.int .i64 x2.1), (.int .i64 x2.2.1), (.int .i64 x2.2.2)])] (.one (.sc .bool)) h1 fun r3 h2 =>
  Br (!r3)
  (R (.slice none 0 0) h2)
  (CallM Try.prog 21 #[] (.one (.sc .ptr)) h2 fun r4 h3 =>
  ∃ x5 : Int, cellOf h3 (a1.add 1) = some (.int .i64 x5) ∧
  LoopM (σ := Sl × Int) (fun s6 K1 h4 =>
  Br (decide (s6.2 < x5))
  (JoinM (σ := Sl) (fun s11 h7 =>
  ∃ x12 : Int, cellOf h7 a1 = some (.int .i64 x12) ∧
  LoopM (σ := Int) (fun s13 K3 h8 =>
  Br (decide (s13 < x12))
  (CallM Try.prog 31 #[(.pointer r4), (.int .i64 (IntKind.wrap .i64 ((IntKind.wrap .i64 (s6.2 + (1 : Int))) * (IntKind.wrap .i64 (s13 + (1 : Int))))))] (.one (.sc (.int .u8))) h8 fun r14 h9 =>
  ∃ a15 : Addr, (s11.ptr = some a15 ∧ 0 ≤ s13 ∧ s13 < ((s11.len : Nat) : Int)) ∧
  Runs Try.prog (Instr.storeAt 5 (.pointer (some (a15.add (s13.toNat * 1)))) (.int .u8 r14)) h9 fun _ h10 =>
  K3 (IntKind.wrap .i64 (s13 + (1 : Int))) h10)
  (RunsR Try.prog (Instr.buildSlice 36 1 #[(0, (.slice s11.ptr s11.len s11.cap))]) (.one (.sc .slc)) h8 fun v16 h11 =>
  RunsR Try.prog (Builtin.append_ #[36, 36] 36 #[(.slice s6.1.ptr s6.1.len s6.1.cap), (.slice v16.ptr v16.len v16.cap)]) (.one (.sc .slc)) h11 fun v17 h12 =>
  K1 ((⟨v17.ptr, v17.len, v17.cap⟩ : Sl), IntKind.wrap .i64 (s6.2 + (1 : Int))) h12)) (0 : Int) h7)
  (fun K2 =>
  ∃ x7 : Int × Int × Int, cellsAt h4 a1 0 [(.int .i64 x7.1), (.int .i64 x7.2.1), (.int .i64 x7.2.2)] ∧
  ∃ x8 : Int, cellOf h4 a1 = some (.int .i64 x8) ∧
  CallM Try.prog 14 #[(.agg #[(.int .i64 x7.1), (.int .i64 x7.2.1), (.int .i64 x7.2.2)])] (.one (.sc (.int .i64))) h4 fun r9 h5 =>
  (Held.ok [(a1, (.int .i64 x8))] h5) ∧
  CallM Try.prog 30 #[(.int .i64 r9), (.int .i64 (IntKind.wrap .i64 (x8 + s6.2)))] (.one (.sc .slc)) h5 fun r10 h6 =>
  (Held.ok [(a1, (.int .i64 x8))] h6) ∧
  K2 (⟨r10.ptr, r10.len, r10.cap⟩ : Sl) h6))
  (R (.slice s6.1.ptr s6.1.len s6.1.cap) h4)) ((⟨none, 0, 0⟩ : Sl), (0 : Int)) h3)
noncomputable def pre_Rows_ann : Ann := (.two .n (.two .n (.two .n (.two .n (.two (.two .n (.inn (.loop [(4, (.sc .slc)), (14, (.sc (.int .i64)))] [(4, 8), (14, 45)] (.two .n (.two .n (.two (.inn (.two .n (.two (.join [(6, (.sc .slc))] [(6, 7), (17, 24)] .n) (.two (.two .n (.inn (.loop [(26, (.sc (.int .i64)))] [(7, 8), (26, 40)] .n))) .n)))) .n)))))) .n)))))
theorem pre_Rows_eq (p_0 : Int × Int × Int) (R : Value → Heap → Prop) (h : Heap) : fnV C Try.f17 300 pre_Rows_ann [(.agg #[(.int .i64 p_0.1), (.int .i64 p_0.2.1), (.int .i64 p_0.2.2)])] R h = pre_Rows_m p_0 R h := by kernel_rfl
theorem pre_Rows_run (p_0 : Int × Int × Int) {R : Value → Heap → Prop} {h : Heap} (hm : pre_Rows_m p_0 R h) : Meets Try.prog 17 #[(.agg #[(.int .i64 p_0.1), (.int .i64 p_0.2.1), (.int .i64 p_0.2.2)])] h R :=
  fn_spec C_ok (f := 17) (fn := Try.f17) (args := [(.agg #[(.int .i64 p_0.1), (.int .i64 p_0.2.1), (.int .i64 p_0.2.2)])]) Try.func17 (by rw [Try.ntmps17]; exact Nat.le_of_ble_eq_true rfl) (cast (pre_Rows_eq p_0 R h).symm hm)
/-- wellspring/wellspringkeep.Same[byte] -/
abbrev wellspringkeep_Same_byte_id : FuncId := 18
noncomputable def wellspringkeep_Same_byte_m (a_0 : Sl) (b_1 : Sl) (R : Value → Heap → Prop) (h : Heap) : Prop :=
  Br (((a_0.len : Nat) : Int) != ((b_1.len : Nat) : Int))
  (R (.bool false) h)
  (LoopM (σ := Int) (fun s1 K1 h1 =>
  Br (decide (s1 < ((a_0.len : Nat) : Int)))
  (∃ a2 : Addr, (a_0.ptr = some a2 ∧ 0 ≤ s1 ∧ s1 < ((a_0.len : Nat) : Int)) ∧
  ∃ x3 : Int, cellOf h1 (a2.add (s1.toNat * 1)) = some (.int .u8 x3) ∧
  ∃ a4 : Addr, (b_1.ptr = some a4 ∧ 0 ≤ s1 ∧ s1 < ((b_1.len : Nat) : Int)) ∧
  ∃ x5 : Int, cellOf h1 (a4.add (s1.toNat * 1)) = some (.int .u8 x5) ∧
  Br (x3 != x5)
  (R (.bool false) h1)
  (K1 (IntKind.wrap .i64 (s1 + (1 : Int))) h1))
  (R (.bool true) h1)) (0 : Int) h)
noncomputable def wellspringkeep_Same_byte_ann : Ann := (.two .n (.two .n (.two (.two .n (.inn (.loop [(13, (.sc (.int .i64)))] [(4, 6), (13, 26)] .n))) .n)))
theorem wellspringkeep_Same_byte_eq (a_0 : Sl) (b_1 : Sl) (R : Value → Heap → Prop) (h : Heap) : fnV C Try.f18 300 wellspringkeep_Same_byte_ann [(.slice a_0.ptr a_0.len a_0.cap), (.slice b_1.ptr b_1.len b_1.cap)] R h = wellspringkeep_Same_byte_m a_0 b_1 R h := by kernel_rfl
theorem wellspringkeep_Same_byte_run (a_0 : Sl) (b_1 : Sl) {R : Value → Heap → Prop} {h : Heap} (hm : wellspringkeep_Same_byte_m a_0 b_1 R h) : Meets Try.prog 18 #[(.slice a_0.ptr a_0.len a_0.cap), (.slice b_1.ptr b_1.len b_1.cap)] h R :=
  fn_spec C_ok (f := 18) (fn := Try.f18) (args := [(.slice a_0.ptr a_0.len a_0.cap), (.slice b_1.ptr b_1.len b_1.cap)]) Try.func18 (by rw [Try.ntmps18]; exact Nat.le_of_ble_eq_true rfl) (cast (wellspringkeep_Same_byte_eq a_0 b_1 R h).symm hm)
end Go.Proofs.Ytkkkdjagknlfbaa
