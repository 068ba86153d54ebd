/- Part of the proof that wellspringlaw27's MarginTells answers true whatever the input reads, and leaves it as it was; no condition. -/
import Derived.Test.YtmadbodaleaaeaaGreatHpA
import Derived.Test.YtmadbodaleaaeaaGreatProg
set_option linter.unusedVariables false
set_option linter.unusedSimpArgs false
namespace Go.Proofs.YtmadbodaleaaeaaGreat
open Go Go.Vc Go.Proofs
set_option maxRecDepth 1000000

abbrev T_func : Nat := 1
abbrev T_int64 : Nat := 2
abbrev T_int : Nat := 3
abbrev T_bool : Nat := 4
abbrev T_uint8 : Nat := 5
abbrev T_abi_BoundsErrorCode : Nat := 6
abbrev T_runtime_boundsError : Nat := 8
abbrev T_string : Nat := 9
abbrev T_runtime_errorString : Nat := 10
abbrev T_runtime_plainError : Nat := 11
abbrev T_uintptr : Nat := 12
abbrev T_struct_msg_string_addr_uintptr : Nat := 13
abbrev T_runtime_errorAddressString : Nat := 14
abbrev T_ptr_runtime_TypeAssertionError : Nat := 15
abbrev T_ptr_runtime_PanicNilError : Nat := 16
abbrev T_ptr_abi_Type : Nat := 17
abbrev T_struct_typ_ptr_abi_Type : Nat := 18
abbrev T_maps_unhashableTypeError : Nat := 19
abbrev T_interface : Nat := 20
abbrev T_int32 : Nat := 21
abbrev T_struct_K_int_H_int_Size_int : Nat := 22
abbrev T_api_Params : Nat := 23
abbrev T_uint : Nat := 24
abbrev T_sl_int : Nat := 25
abbrev T_sl_sl_int : Nat := 26
abbrev T_func_sl_int_int_sl_sl_int : Nat := 27
abbrev T_func_int_int_int : Nat := 28
abbrev T_func_sl_int_int_sl_int : Nat := 29
abbrev T_func_int_int_int_api_Params : Nat := 30
abbrev T_sl_api_Params : Nat := 31
abbrev T_uint32 : Nat := 32
abbrev T_func_api_Params_uint_uint32 : Nat := 33
abbrev T_func_sl_sl_int_sl_sl_int : Nat := 34
abbrev T_api_Errno : Nat := 36
abbrev T_sl_int_bool_api_Errno : Nat := 37
abbrev T_func_sl_int_sl_int_bool : Nat := 39
abbrev T_func_sl_sl_int_sl_sl_int_bool : Nat := 40
abbrev T_func_bool : Nat := 41
abbrev T_func_api_Params_uint32_bool : Nat := 43
abbrev T_func_sl_int_sl_int : Nat := 44
abbrev T_func_sl_int_int_bool : Nat := 45
abbrev T_func_api_Params_uint32_sl_int_int : Nat := 46
abbrev T_func_sl_sl_int_sl_int_sl_int : Nat := 47
abbrev T_func_api_Params_bool : Nat := 48
abbrev T_sl_sl_int_api_Errno : Nat := 49
abbrev T_func_int_int_sl_sl_int_api_Errno : Nat := 50
abbrev T_func_api_Params_int : Nat := 51
abbrev T_ptr_span_Span : Nat := 52
abbrev T_func_ptr_gf_Field_int_ptr_span_Span : Nat := 53
abbrev T_ptr_gf_Field : Nat := 54
abbrev T_func_ptr_gf_Field : Nat := 55
abbrev T_sl_sl_uint8 : Nat := 56
abbrev T_func_api_Params_sl_sl_uint8 : Nat := 57
abbrev T_sl_uint8 : Nat := 58
abbrev T_func_sl_uint8_bool : Nat := 59
abbrev T_sl_sl_sl_uint8 : Nat := 60
abbrev T_func_api_Params_uint32_sl_int_bool : Nat := 63
abbrev T_func_api_Params_sl_int : Nat := 64
abbrev T_func_sl_int_int_int : Nat := 65
abbrev T_func_ptr_gf_Field_sl_sl_uint8_int : Nat := 66
abbrev T_func_sl_sl_uint8_int : Nat := 68
abbrev T_func_int_int_bool : Nat := 69
abbrev T_span_Span : Nat := 71
abbrev T_255_uint8 : Nat := 72
abbrev T_func_255_uint8 : Nat := 73
abbrev T_256_int : Nat := 74
abbrev T_func_255_uint8_256_int : Nat := 75
abbrev T_struct_exp_255_uint8_log_256_int : Nat := 76
abbrev T_gf_Field : Nat := 77
abbrev T_func_int_int_sl_uint8 : Nat := 78
abbrev T_func_int_uint8 : Nat := 79
abbrev T_sl_uint8_bool : Nat := 80
abbrev T_func_sl_uint8_sl_uint8_bool : Nat := 81
abbrev T_func_sl_uint8_int : Nat := 82
abbrev T_func_api_Params_uint32_int_sl_uint8 : Nat := 84
abbrev T_func_ptr_span_Span : Nat := 85
abbrev T_func_int : Nat := 86
abbrev T_func_int_int_int_sl_sl_int : Nat := 87
abbrev T_func_sl_sl_uint8_sl_sl_uint8 : Nat := 88
abbrev T_func_int_bool : Nat := 89
abbrev T_func_uint8_uint8_uint8 : Nat := 90
abbrev T_func_sl_uint8_sl_uint8 : Nat := 91
abbrev T_func_sl_uint8_func_uint8_bool_int : Nat := 93
abbrev T_func_uint8_bool : Nat := 94
abbrev T_func_sl_sl_uint8_bool : Nat := 95
abbrev T_func_ptr_gf_Field_sl_sl_uint8_int_int : Nat := 96
abbrev T_func_ptr_gf_Field_ptr_gf_Field : Nat := 97
abbrev T_func_api_Params_uint32_int_sl_int : Nat := 98
abbrev T_func_sl_sl_uint8 : Nat := 99
abbrev T_func_uint8_sl_uint8_sl_uint8 : Nat := 100
abbrev T_func_uint8_uint8 : Nat := 101
abbrev T_func_uint8_sl_uint8_sl_uint8_sl_uint8 : Nat := 102
abbrev T_func_sl_uint8_sl_uint8_sl_uint8_bool : Nat := 103
abbrev T_func_sl_sl_uint8_int_int_int : Nat := 105
abbrev T_ptr_draw_Draw : Nat := 107
abbrev T_func_uint32_ptr_draw_Draw : Nat := 108
abbrev T_func_uint32 : Nat := 109
abbrev T_func_sl_int_ptr_draw_Draw_int : Nat := 110
abbrev T_func_int_sl_int : Nat := 111
abbrev T_func_ptr_draw_Draw_int_int_sl_int : Nat := 112
abbrev T_ptr_wellspringref01_Draw : Nat := 113
abbrev T_uint64 : Nat := 114
abbrev T_struct_S_uint64 : Nat := 115
abbrev T_wellspringref01_Draw : Nat := 116
abbrev T_struct_at_uint64 : Nat := 119
abbrev T_draw_Draw : Nat := 120
abbrev T_func_int_int : Nat := 121
abbrev T_func_sl_int : Nat := 122
abbrev T_uint16 : Nat := 123
abbrev T_func_uint_int : Nat := 124
abbrev T_func_sl_int_int_int_int : Nat := 125
abbrev T_func_uint32_int : Nat := 126
abbrev T_func_uint64_int : Nat := 127
abbrev T_slices_sortedHint : Nat := 129
abbrev T_int_slices_sortedHint : Nat := 130
abbrev T_func_sl_int_int_int_bool : Nat := 132
abbrev T_func_sl_int_int_int_int_int : Nat := 133
abbrev T_int_bool : Nat := 134
abbrev T_func_sl_int_int_int_int_int_bool : Nat := 135
abbrev T_slices_xorshift : Nat := 136
abbrev T_func_int_uint : Nat := 137
abbrev T_func_uint64 : Nat := 138
abbrev T_func_sl_int_int_ptr_int_int : Nat := 139
abbrev T_ptr_int : Nat := 140
abbrev T_func_sl_int_int_int_int_ptr_int_int : Nat := 141
abbrev T_ptr_slices_xorshift : Nat := 142
abbrev T_int_int : Nat := 143
abbrev T_func_sl_int_int_int_ptr_int_int_int : Nat := 144
abbrev T_func_string : Nat := 145
abbrev T_runtime_TypeAssertionError : Nat := 147
abbrev T_0_ptr_runtime_PanicNilError : Nat := 148
abbrev T_struct_0_ptr_runtime_PanicNilError : Nat := 149
abbrev T_runtime_PanicNilError : Nat := 150
abbrev T_abi_TFlag : Nat := 151
abbrev T_abi_Kind : Nat := 152
abbrev T_ptr_uint8 : Nat := 154
abbrev T_abi_NameOff : Nat := 155
abbrev T_abi_TypeOff : Nat := 156
abbrev T_abi_Type : Nat := 158
abbrev T_unsafe_Pointer : Nat := 159
noncomputable def tbl : Tbl := [
  ⟨.other, (.sc .any), 1, 0, [(Go.Value.tuple #[])]⟩,
  ⟨.fn, (.sc .fn), 1, 8, [Go.Value.nilFunc]⟩,
  ⟨.int .i64, (.sc (.int .i64)), 1, 8, [(Go.Value.int Go.IntKind.i64 0)]⟩,
  ⟨.int .i64, (.sc (.int .i64)), 1, 8, [(Go.Value.int Go.IntKind.i64 0)]⟩,
  ⟨.bool, (.sc .bool), 1, 1, [(Go.Value.bool Bool.false)]⟩,
  ⟨.int .u8, (.sc (.int .u8)), 1, 1, [(Go.Value.int Go.IntKind.u8 0)]⟩,
  ⟨.int .u8, (.sc (.int .u8)), 1, 1, [(Go.Value.int Go.IntKind.u8 0)]⟩,
  ⟨.struct [(0, 2), (1, 3), (2, 4), (3, 6)], (.agg [(.int .i64), (.int .i64), .bool, (.int .u8)]), 4, 24, [(Go.Value.int Go.IntKind.i64 0), (Go.Value.int Go.IntKind.i64 0), (Go.Value.bool Bool.false), (Go.Value.int Go.IntKind.u8 0)]⟩,
  ⟨.struct [(0, 2), (1, 3), (2, 4), (3, 6)], (.agg [(.int .i64), (.int .i64), .bool, (.int .u8)]), 4, 24, [(Go.Value.int Go.IntKind.i64 0), (Go.Value.int Go.IntKind.i64 0), (Go.Value.bool Bool.false), (Go.Value.int Go.IntKind.u8 0)]⟩,
  ⟨.str, (.sc .str), 1, 16, [(Go.Value.string (ByteArray.mk #[]))]⟩,
  ⟨.str, (.sc .str), 1, 16, [(Go.Value.string (ByteArray.mk #[]))]⟩,
  ⟨.str, (.sc .str), 1, 16, [(Go.Value.string (ByteArray.mk #[]))]⟩,
  ⟨.int .u64, (.sc (.int .u64)), 1, 8, [(Go.Value.int Go.IntKind.u64 0)]⟩,
  ⟨.struct [(0, 9), (1, 12)], (.agg [.str, (.int .u64)]), 2, 24, [(Go.Value.string (ByteArray.mk #[])), (Go.Value.int Go.IntKind.u64 0)]⟩,
  ⟨.struct [(0, 9), (1, 12)], (.agg [.str, (.int .u64)]), 2, 24, [(Go.Value.string (ByteArray.mk #[])), (Go.Value.int Go.IntKind.u64 0)]⟩,
  ⟨.ptr 147, (.sc .ptr), 1, 8, [(Go.Value.pointer Option.none)]⟩,
  ⟨.ptr 150, (.sc .ptr), 1, 8, [(Go.Value.pointer Option.none)]⟩,
  ⟨.ptr 158, (.sc .ptr), 1, 8, [(Go.Value.pointer Option.none)]⟩,
  ⟨.struct [(0, 17)], (.agg [.ptr]), 1, 8, [(Go.Value.pointer Option.none)]⟩,
  ⟨.struct [(0, 17)], (.agg [.ptr]), 1, 8, [(Go.Value.pointer Option.none)]⟩,
  ⟨.other, (.sc .any), 1, 16, [Go.Value.nilIface]⟩,
  ⟨.int .i32, (.sc (.int .i32)), 1, 4, [(Go.Value.int Go.IntKind.i32 0)]⟩,
  ⟨.struct [(0, 3), (1, 3), (2, 3)], (.agg [(.int .i64), (.int .i64), (.int .i64)]), 3, 24, [(Go.Value.int Go.IntKind.i64 0), (Go.Value.int Go.IntKind.i64 0), (Go.Value.int Go.IntKind.i64 0)]⟩,
  ⟨.struct [(0, 3), (1, 3), (2, 3)], (.agg [(.int .i64), (.int .i64), (.int .i64)]), 3, 24, [(Go.Value.int Go.IntKind.i64 0), (Go.Value.int Go.IntKind.i64 0), (Go.Value.int Go.IntKind.i64 0)]⟩,
  ⟨.int .u64, (.sc (.int .u64)), 1, 8, [(Go.Value.int Go.IntKind.u64 0)]⟩,
  ⟨.slice 3, (.sc .slc), 1, 24, [(Go.Value.slice Option.none 0 0)]⟩,
  ⟨.slice 25, (.sc .slc), 1, 24, [(Go.Value.slice Option.none 0 0)]⟩,
  ⟨.fn, (.sc .fn), 1, 8, [Go.Value.nilFunc]⟩,
  ⟨.fn, (.sc .fn), 1, 8, [Go.Value.nilFunc]⟩,
  ⟨.fn, (.sc .fn), 1, 8, [Go.Value.nilFunc]⟩,
  ⟨.fn, (.sc .fn), 1, 8, [Go.Value.nilFunc]⟩,
  ⟨.slice 23, (.sc .slc), 1, 24, [(Go.Value.slice Option.none 0 0)]⟩,
  ⟨.int .u32, (.sc (.int .u32)), 1, 4, [(Go.Value.int Go.IntKind.u32 0)]⟩,
  ⟨.fn, (.sc .fn), 1, 8, [Go.Value.nilFunc]⟩,
  ⟨.fn, (.sc .fn), 1, 8, [Go.Value.nilFunc]⟩,
  ⟨.fn, (.sc .fn), 1, 8, [Go.Value.nilFunc]⟩,
  ⟨.int .i64, (.sc (.int .i64)), 1, 8, [(Go.Value.int Go.IntKind.i64 0)]⟩,
  ⟨.other, (.sc .any), 1, 0, [(Go.Value.tuple #[(Go.Value.slice Option.none 0 0), (Go.Value.bool Bool.false), (Go.Value.int Go.IntKind.i64 0)])]⟩,
  ⟨.fn, (.sc .fn), 1, 8, [Go.Value.nilFunc]⟩,
  ⟨.fn, (.sc .fn), 1, 8, [Go.Value.nilFunc]⟩,
  ⟨.fn, (.sc .fn), 1, 8, [Go.Value.nilFunc]⟩,
  ⟨.fn, (.sc .fn), 1, 8, [Go.Value.nilFunc]⟩,
  ⟨.fn, (.sc .fn), 1, 8, [Go.Value.nilFunc]⟩,
  ⟨.fn, (.sc .fn), 1, 8, [Go.Value.nilFunc]⟩,
  ⟨.fn, (.sc .fn), 1, 8, [Go.Value.nilFunc]⟩,
  ⟨.fn, (.sc .fn), 1, 8, [Go.Value.nilFunc]⟩,
  ⟨.fn, (.sc .fn), 1, 8, [Go.Value.nilFunc]⟩,
  ⟨.fn, (.sc .fn), 1, 8, [Go.Value.nilFunc]⟩,
  ⟨.fn, (.sc .fn), 1, 8, [Go.Value.nilFunc]⟩,
  ⟨.other, (.sc .any), 1, 0, [(Go.Value.tuple #[(Go.Value.slice Option.none 0 0), (Go.Value.int Go.IntKind.i64 0)])]⟩,
  ⟨.fn, (.sc .fn), 1, 8, [Go.Value.nilFunc]⟩,
  ⟨.fn, (.sc .fn), 1, 8, [Go.Value.nilFunc]⟩,
  ⟨.ptr 71, (.sc .ptr), 1, 8, [(Go.Value.pointer Option.none)]⟩,
  ⟨.fn, (.sc .fn), 1, 8, [Go.Value.nilFunc]⟩,
  ⟨.ptr 77, (.sc .ptr), 1, 8, [(Go.Value.pointer Option.none)]⟩,
  ⟨.fn, (.sc .fn), 1, 8, [Go.Value.nilFunc]⟩,
  ⟨.slice 58, (.sc .slc), 1, 24, [(Go.Value.slice Option.none 0 0)]⟩,
  ⟨.fn, (.sc .fn), 1, 8, [Go.Value.nilFunc]⟩,
  ⟨.slice 5, (.sc .slc), 1, 24, [(Go.Value.slice Option.none 0 0)]⟩,
  ⟨.fn, (.sc .fn), 1, 8, [Go.Value.nilFunc]⟩,
  ⟨.slice 56, (.sc .slc), 1, 24, [(Go.Value.slice Option.none 0 0)]⟩,
  ⟨.fn, (.sc .fn), 1, 8, [Go.Value.nilFunc]⟩,
  ⟨.fn, (.sc .fn), 1, 8, [Go.Value.nilFunc]⟩,
  ⟨.fn, (.sc .fn), 1, 8, [Go.Value.nilFunc]⟩,
  ⟨.fn, (.sc .fn), 1, 8, [Go.Value.nilFunc]⟩,
  ⟨.fn, (.sc .fn), 1, 8, [Go.Value.nilFunc]⟩,
  ⟨.fn, (.sc .fn), 1, 8, [Go.Value.nilFunc]⟩,
  ⟨.fn, (.sc .fn), 1, 8, [Go.Value.nilFunc]⟩,
  ⟨.fn, (.sc .fn), 1, 8, [Go.Value.nilFunc]⟩,
  ⟨.fn, (.sc .fn), 1, 8, [Go.Value.nilFunc]⟩,
  ⟨.struct [(0, 54), (1, 3), (2, 56)], (.agg [.ptr, (.int .i64), .slc]), 3, 40, [(Go.Value.pointer Option.none), (Go.Value.int Go.IntKind.i64 0), (Go.Value.slice Option.none 0 0)]⟩,
  ⟨.struct [(0, 54), (1, 3), (2, 56)], (.agg [.ptr, (.int .i64), .slc]), 3, 40, [(Go.Value.pointer Option.none), (Go.Value.int Go.IntKind.i64 0), (Go.Value.slice Option.none 0 0)]⟩,
  ⟨.array 255 5, (.arr (.int .u8)), 255, 255, [(Go.Value.int Go.IntKind.u8 0), (Go.Value.int Go.IntKind.u8 0), (Go.Value.int Go.IntKind.u8 0), (Go.Value.int Go.IntKind.u8 0), (Go.Value.int Go.IntKind.u8 0), (Go.Value.int Go.IntKind.u8 0), (Go.Value.int Go.IntKind.u8 0), (Go.Value.int Go.IntKind.u8 0), (Go.Value.int Go.IntKind.u8 0), (Go.Value.int Go.IntKind.u8 0), (Go.Value.int Go.IntKind.u8 0), (Go.Value.int Go.IntKind.u8 0), (Go.Value.int Go.IntKind.u8 0), (Go.Value.int Go.IntKind.u8 0), (Go.Value.int Go.IntKind.u8 0), (Go.Value.int Go.IntKind.u8 0), (Go.Value.int Go.IntKind.u8 0), (Go.Value.int Go.IntKind.u8 0), (Go.Value.int Go.IntKind.u8 0), (Go.Value.int Go.IntKind.u8 0), (Go.Value.int Go.IntKind.u8 0), (Go.Value.int Go.IntKind.u8 0), (Go.Value.int Go.IntKind.u8 0), (Go.Value.int Go.IntKind.u8 0), (Go.Value.int Go.IntKind.u8 0), (Go.Value.int Go.IntKind.u8 0), (Go.Value.int Go.IntKind.u8 0), (Go.Value.int Go.IntKind.u8 0), (Go.Value.int Go.IntKind.u8 0), (Go.Value.int Go.IntKind.u8 0), (Go.Value.int Go.IntKind.u8 0), (Go.Value.int Go.IntKind.u8 0), (Go.Value.int Go.IntKind.u8 0), (Go.Value.int Go.IntKind.u8 0), (Go.Value.int Go.IntKind.u8 0), (Go.Value.int Go.IntKind.u8 0), (Go.Value.int Go.IntKind.u8 0), (Go.Value.int Go.IntKind.u8 0), (Go.Value.int Go.IntKind.u8 0), (Go.Value.int Go.IntKind.u8 0), (Go.Value.int Go.IntKind.u8 0), (Go.Value.int Go.IntKind.u8 0), (Go.Value.int Go.IntKind.u8 0), (Go.Value.int Go.IntKind.u8 0), (Go.Value.int Go.IntKind.u8 0), (Go.Value.int Go.IntKind.u8 0), (Go.Value.int Go.IntKind.u8 0), (Go.Value.int Go.IntKind.u8 0), (Go.Value.int Go.IntKind.u8 0), (Go.Value.int Go.IntKind.u8 0), (Go.Value.int Go.IntKind.u8 0), (Go.Value.int Go.IntKind.u8 0), (Go.Value.int Go.IntKind.u8 0), (Go.Value.int Go.IntKind.u8 0), (Go.Value.int Go.IntKind.u8 0), (Go.Value.int Go.IntKind.u8 0), (Go.Value.int Go.IntKind.u8 0), (Go.Value.int Go.IntKind.u8 0), (Go.Value.int Go.IntKind.u8 0), (Go.Value.int Go.IntKind.u8 0), (Go.Value.int Go.IntKind.u8 0), (Go.Value.int Go.IntKind.u8 0), (Go.Value.int Go.IntKind.u8 0), (Go.Value.int Go.IntKind.u8 0), (Go.Value.int Go.IntKind.u8 0), (Go.Value.int Go.IntKind.u8 0), (Go.Value.int Go.IntKind.u8 0), (Go.Value.int Go.IntKind.u8 0), (Go.Value.int Go.IntKind.u8 0), (Go.Value.int Go.IntKind.u8 0), (Go.Value.int Go.IntKind.u8 0), (Go.Value.int Go.IntKind.u8 0), (Go.Value.int Go.IntKind.u8 0), (Go.Value.int Go.IntKind.u8 0), (Go.Value.int Go.IntKind.u8 0), (Go.Value.int Go.IntKind.u8 0), (Go.Value.int Go.IntKind.u8 0), (Go.Value.int Go.IntKind.u8 0), (Go.Value.int Go.IntKind.u8 0), (Go.Value.int Go.IntKind.u8 0), (Go.Value.int Go.IntKind.u8 0), (Go.Value.int Go.IntKind.u8 0), (Go.Value.int Go.IntKind.u8 0), (Go.Value.int Go.IntKind.u8 0), (Go.Value.int Go.IntKind.u8 0), (Go.Value.int Go.IntKind.u8 0), (Go.Value.int Go.IntKind.u8 0), (Go.Value.int Go.IntKind.u8 0), (Go.Value.int Go.IntKind.u8 0), (Go.Value.int Go.IntKind.u8 0), (Go.Value.int Go.IntKind.u8 0), (Go.Value.int Go.IntKind.u8 0), (Go.Value.int Go.IntKind.u8 0), (Go.Value.int Go.IntKind.u8 0), (Go.Value.int Go.IntKind.u8 0), (Go.Value.int Go.IntKind.u8 0), (Go.Value.int Go.IntKind.u8 0), (Go.Value.int Go.IntKind.u8 0), (Go.Value.int Go.IntKind.u8 0), (Go.Value.int Go.IntKind.u8 0), (Go.Value.int Go.IntKind.u8 0), (Go.Value.int Go.IntKind.u8 0), (Go.Value.int Go.IntKind.u8 0), (Go.Value.int Go.IntKind.u8 0), (Go.Value.int Go.IntKind.u8 0), (Go.Value.int Go.IntKind.u8 0), (Go.Value.int Go.IntKind.u8 0), (Go.Value.int Go.IntKind.u8 0), (Go.Value.int Go.IntKind.u8 0), (Go.Value.int Go.IntKind.u8 0), (Go.Value.int Go.IntKind.u8 0), (Go.Value.int Go.IntKind.u8 0), (Go.Value.int Go.IntKind.u8 0), (Go.Value.int Go.IntKind.u8 0), (Go.Value.int Go.IntKind.u8 0), (Go.Value.int Go.IntKind.u8 0), (Go.Value.int Go.IntKind.u8 0), (Go.Value.int Go.IntKind.u8 0), (Go.Value.int Go.IntKind.u8 0), (Go.Value.int Go.IntKind.u8 0), (Go.Value.int Go.IntKind.u8 0), (Go.Value.int Go.IntKind.u8 0), (Go.Value.int Go.IntKind.u8 0), (Go.Value.int Go.IntKind.u8 0), (Go.Value.int Go.IntKind.u8 0), (Go.Value.int Go.IntKind.u8 0), (Go.Value.int Go.IntKind.u8 0), (Go.Value.int Go.IntKind.u8 0), (Go.Value.int Go.IntKind.u8 0), (Go.Value.int Go.IntKind.u8 0), (Go.Value.int Go.IntKind.u8 0), (Go.Value.int Go.IntKind.u8 0), (Go.Value.int Go.IntKind.u8 0), (Go.Value.int Go.IntKind.u8 0), (Go.Value.int Go.IntKind.u8 0), (Go.Value.int Go.IntKind.u8 0), (Go.Value.int Go.IntKind.u8 0), (Go.Value.int Go.IntKind.u8 0), (Go.Value.int Go.IntKind.u8 0), (Go.Value.int Go.IntKind.u8 0), (Go.Value.int Go.IntKind.u8 0), (Go.Value.int Go.IntKind.u8 0), (Go.Value.int Go.IntKind.u8 0), (Go.Value.int Go.IntKind.u8 0), (Go.Value.int Go.IntKind.u8 0), (Go.Value.int Go.IntKind.u8 0), (Go.Value.int Go.IntKind.u8 0), (Go.Value.int Go.IntKind.u8 0), (Go.Value.int Go.IntKind.u8 0), (Go.Value.int Go.IntKind.u8 0), (Go.Value.int Go.IntKind.u8 0), (Go.Value.int Go.IntKind.u8 0), (Go.Value.int Go.IntKind.u8 0), (Go.Value.int Go.IntKind.u8 0), (Go.Value.int Go.IntKind.u8 0), (Go.Value.int Go.IntKind.u8 0), (Go.Value.int Go.IntKind.u8 0), (Go.Value.int Go.IntKind.u8 0), (Go.Value.int Go.IntKind.u8 0), (Go.Value.int Go.IntKind.u8 0), (Go.Value.int Go.IntKind.u8 0), (Go.Value.int Go.IntKind.u8 0), (Go.Value.int Go.IntKind.u8 0), (Go.Value.int Go.IntKind.u8 0), (Go.Value.int Go.IntKind.u8 0), (Go.Value.int Go.IntKind.u8 0), (Go.Value.int Go.IntKind.u8 0), (Go.Value.int Go.IntKind.u8 0), (Go.Value.int Go.IntKind.u8 0), (Go.Value.int Go.IntKind.u8 0), (Go.Value.int Go.IntKind.u8 0), (Go.Value.int Go.IntKind.u8 0), (Go.Value.int Go.IntKind.u8 0), (Go.Value.int Go.IntKind.u8 0), (Go.Value.int Go.IntKind.u8 0), (Go.Value.int Go.IntKind.u8 0), (Go.Value.int Go.IntKind.u8 0), (Go.Value.int Go.IntKind.u8 0), (Go.Value.int Go.IntKind.u8 0), (Go.Value.int Go.IntKind.u8 0), (Go.Value.int Go.IntKind.u8 0), (Go.Value.int Go.IntKind.u8 0), (Go.Value.int Go.IntKind.u8 0), (Go.Value.int Go.IntKind.u8 0), (Go.Value.int Go.IntKind.u8 0), (Go.Value.int Go.IntKind.u8 0), (Go.Value.int Go.IntKind.u8 0), (Go.Value.int Go.IntKind.u8 0), (Go.Value.int Go.IntKind.u8 0), (Go.Value.int Go.IntKind.u8 0), (Go.Value.int Go.IntKind.u8 0), (Go.Value.int Go.IntKind.u8 0), (Go.Value.int Go.IntKind.u8 0), (Go.Value.int Go.IntKind.u8 0), (Go.Value.int Go.IntKind.u8 0), (Go.Value.int Go.IntKind.u8 0), (Go.Value.int Go.IntKind.u8 0), (Go.Value.int Go.IntKind.u8 0), (Go.Value.int Go.IntKind.u8 0), (Go.Value.int Go.IntKind.u8 0), (Go.Value.int Go.IntKind.u8 0), (Go.Value.int Go.IntKind.u8 0), (Go.Value.int Go.IntKind.u8 0), (Go.Value.int Go.IntKind.u8 0), (Go.Value.int Go.IntKind.u8 0), (Go.Value.int Go.IntKind.u8 0), (Go.Value.int Go.IntKind.u8 0), (Go.Value.int Go.IntKind.u8 0), (Go.Value.int Go.IntKind.u8 0), (Go.Value.int Go.IntKind.u8 0), (Go.Value.int Go.IntKind.u8 0), (Go.Value.int Go.IntKind.u8 0), (Go.Value.int Go.IntKind.u8 0), (Go.Value.int Go.IntKind.u8 0), (Go.Value.int Go.IntKind.u8 0), (Go.Value.int Go.IntKind.u8 0), (Go.Value.int Go.IntKind.u8 0), (Go.Value.int Go.IntKind.u8 0), (Go.Value.int Go.IntKind.u8 0), (Go.Value.int Go.IntKind.u8 0), (Go.Value.int Go.IntKind.u8 0), (Go.Value.int Go.IntKind.u8 0), (Go.Value.int Go.IntKind.u8 0), (Go.Value.int Go.IntKind.u8 0), (Go.Value.int Go.IntKind.u8 0), (Go.Value.int Go.IntKind.u8 0), (Go.Value.int Go.IntKind.u8 0), (Go.Value.int Go.IntKind.u8 0), (Go.Value.int Go.IntKind.u8 0), (Go.Value.int Go.IntKind.u8 0), (Go.Value.int Go.IntKind.u8 0), (Go.Value.int Go.IntKind.u8 0), (Go.Value.int Go.IntKind.u8 0), (Go.Value.int Go.IntKind.u8 0), (Go.Value.int Go.IntKind.u8 0), (Go.Value.int Go.IntKind.u8 0), (Go.Value.int Go.IntKind.u8 0), (Go.Value.int Go.IntKind.u8 0), (Go.Value.int Go.IntKind.u8 0), (Go.Value.int Go.IntKind.u8 0), (Go.Value.int Go.IntKind.u8 0), (Go.Value.int Go.IntKind.u8 0), (Go.Value.int Go.IntKind.u8 0), (Go.Value.int Go.IntKind.u8 0), (Go.Value.int Go.IntKind.u8 0), (Go.Value.int Go.IntKind.u8 0), (Go.Value.int Go.IntKind.u8 0), (Go.Value.int Go.IntKind.u8 0), (Go.Value.int Go.IntKind.u8 0), (Go.Value.int Go.IntKind.u8 0), (Go.Value.int Go.IntKind.u8 0), (Go.Value.int Go.IntKind.u8 0), (Go.Value.int Go.IntKind.u8 0), (Go.Value.int Go.IntKind.u8 0), (Go.Value.int Go.IntKind.u8 0)]⟩,
  ⟨.fn, (.sc .fn), 1, 8, [Go.Value.nilFunc]⟩,
  ⟨.array 256 3, (.arr (.int .i64)), 256, 2048, [(Go.Value.int Go.IntKind.i64 0), (Go.Value.int Go.IntKind.i64 0), (Go.Value.int Go.IntKind.i64 0), (Go.Value.int Go.IntKind.i64 0), (Go.Value.int Go.IntKind.i64 0), (Go.Value.int Go.IntKind.i64 0), (Go.Value.int Go.IntKind.i64 0), (Go.Value.int Go.IntKind.i64 0), (Go.Value.int Go.IntKind.i64 0), (Go.Value.int Go.IntKind.i64 0), (Go.Value.int Go.IntKind.i64 0), (Go.Value.int Go.IntKind.i64 0), (Go.Value.int Go.IntKind.i64 0), (Go.Value.int Go.IntKind.i64 0), (Go.Value.int Go.IntKind.i64 0), (Go.Value.int Go.IntKind.i64 0), (Go.Value.int Go.IntKind.i64 0), (Go.Value.int Go.IntKind.i64 0), (Go.Value.int Go.IntKind.i64 0), (Go.Value.int Go.IntKind.i64 0), (Go.Value.int Go.IntKind.i64 0), (Go.Value.int Go.IntKind.i64 0), (Go.Value.int Go.IntKind.i64 0), (Go.Value.int Go.IntKind.i64 0), (Go.Value.int Go.IntKind.i64 0), (Go.Value.int Go.IntKind.i64 0), (Go.Value.int Go.IntKind.i64 0), (Go.Value.int Go.IntKind.i64 0), (Go.Value.int Go.IntKind.i64 0), (Go.Value.int Go.IntKind.i64 0), (Go.Value.int Go.IntKind.i64 0), (Go.Value.int Go.IntKind.i64 0), (Go.Value.int Go.IntKind.i64 0), (Go.Value.int Go.IntKind.i64 0), (Go.Value.int Go.IntKind.i64 0), (Go.Value.int Go.IntKind.i64 0), (Go.Value.int Go.IntKind.i64 0), (Go.Value.int Go.IntKind.i64 0), (Go.Value.int Go.IntKind.i64 0), (Go.Value.int Go.IntKind.i64 0), (Go.Value.int Go.IntKind.i64 0), (Go.Value.int Go.IntKind.i64 0), (Go.Value.int Go.IntKind.i64 0), (Go.Value.int Go.IntKind.i64 0), (Go.Value.int Go.IntKind.i64 0), (Go.Value.int Go.IntKind.i64 0), (Go.Value.int Go.IntKind.i64 0), (Go.Value.int Go.IntKind.i64 0), (Go.Value.int Go.IntKind.i64 0), (Go.Value.int Go.IntKind.i64 0), (Go.Value.int Go.IntKind.i64 0), (Go.Value.int Go.IntKind.i64 0), (Go.Value.int Go.IntKind.i64 0), (Go.Value.int Go.IntKind.i64 0), (Go.Value.int Go.IntKind.i64 0), (Go.Value.int Go.IntKind.i64 0), (Go.Value.int Go.IntKind.i64 0), (Go.Value.int Go.IntKind.i64 0), (Go.Value.int Go.IntKind.i64 0), (Go.Value.int Go.IntKind.i64 0), (Go.Value.int Go.IntKind.i64 0), (Go.Value.int Go.IntKind.i64 0), (Go.Value.int Go.IntKind.i64 0), (Go.Value.int Go.IntKind.i64 0), (Go.Value.int Go.IntKind.i64 0), (Go.Value.int Go.IntKind.i64 0), (Go.Value.int Go.IntKind.i64 0), (Go.Value.int Go.IntKind.i64 0), (Go.Value.int Go.IntKind.i64 0), (Go.Value.int Go.IntKind.i64 0), (Go.Value.int Go.IntKind.i64 0), (Go.Value.int Go.IntKind.i64 0), (Go.Value.int Go.IntKind.i64 0), (Go.Value.int Go.IntKind.i64 0), (Go.Value.int Go.IntKind.i64 0), (Go.Value.int Go.IntKind.i64 0), (Go.Value.int Go.IntKind.i64 0), (Go.Value.int Go.IntKind.i64 0), (Go.Value.int Go.IntKind.i64 0), (Go.Value.int Go.IntKind.i64 0), (Go.Value.int Go.IntKind.i64 0), (Go.Value.int Go.IntKind.i64 0), (Go.Value.int Go.IntKind.i64 0), (Go.Value.int Go.IntKind.i64 0), (Go.Value.int Go.IntKind.i64 0), (Go.Value.int Go.IntKind.i64 0), (Go.Value.int Go.IntKind.i64 0), (Go.Value.int Go.IntKind.i64 0), (Go.Value.int Go.IntKind.i64 0), (Go.Value.int Go.IntKind.i64 0), (Go.Value.int Go.IntKind.i64 0), (Go.Value.int Go.IntKind.i64 0), (Go.Value.int Go.IntKind.i64 0), (Go.Value.int Go.IntKind.i64 0), (Go.Value.int Go.IntKind.i64 0), (Go.Value.int Go.IntKind.i64 0), (Go.Value.int Go.IntKind.i64 0), (Go.Value.int Go.IntKind.i64 0), (Go.Value.int Go.IntKind.i64 0), (Go.Value.int Go.IntKind.i64 0), (Go.Value.int Go.IntKind.i64 0), (Go.Value.int Go.IntKind.i64 0), (Go.Value.int Go.IntKind.i64 0), (Go.Value.int Go.IntKind.i64 0), (Go.Value.int Go.IntKind.i64 0), (Go.Value.int Go.IntKind.i64 0), (Go.Value.int Go.IntKind.i64 0), (Go.Value.int Go.IntKind.i64 0), (Go.Value.int Go.IntKind.i64 0), (Go.Value.int Go.IntKind.i64 0), (Go.Value.int Go.IntKind.i64 0), (Go.Value.int Go.IntKind.i64 0), (Go.Value.int Go.IntKind.i64 0), (Go.Value.int Go.IntKind.i64 0), (Go.Value.int Go.IntKind.i64 0), (Go.Value.int Go.IntKind.i64 0), (Go.Value.int Go.IntKind.i64 0), (Go.Value.int Go.IntKind.i64 0), (Go.Value.int Go.IntKind.i64 0), (Go.Value.int Go.IntKind.i64 0), (Go.Value.int Go.IntKind.i64 0), (Go.Value.int Go.IntKind.i64 0), (Go.Value.int Go.IntKind.i64 0), (Go.Value.int Go.IntKind.i64 0), (Go.Value.int Go.IntKind.i64 0), (Go.Value.int Go.IntKind.i64 0), (Go.Value.int Go.IntKind.i64 0), (Go.Value.int Go.IntKind.i64 0), (Go.Value.int Go.IntKind.i64 0), (Go.Value.int Go.IntKind.i64 0), (Go.Value.int Go.IntKind.i64 0), (Go.Value.int Go.IntKind.i64 0), (Go.Value.int Go.IntKind.i64 0), (Go.Value.int Go.IntKind.i64 0), (Go.Value.int Go.IntKind.i64 0), (Go.Value.int Go.IntKind.i64 0), (Go.Value.int Go.IntKind.i64 0), (Go.Value.int Go.IntKind.i64 0), (Go.Value.int Go.IntKind.i64 0), (Go.Value.int Go.IntKind.i64 0), (Go.Value.int Go.IntKind.i64 0), (Go.Value.int Go.IntKind.i64 0), (Go.Value.int Go.IntKind.i64 0), (Go.Value.int Go.IntKind.i64 0), (Go.Value.int Go.IntKind.i64 0), (Go.Value.int Go.IntKind.i64 0), (Go.Value.int Go.IntKind.i64 0), (Go.Value.int Go.IntKind.i64 0), (Go.Value.int Go.IntKind.i64 0), (Go.Value.int Go.IntKind.i64 0), (Go.Value.int Go.IntKind.i64 0), (Go.Value.int Go.IntKind.i64 0), (Go.Value.int Go.IntKind.i64 0), (Go.Value.int Go.IntKind.i64 0), (Go.Value.int Go.IntKind.i64 0), (Go.Value.int Go.IntKind.i64 0), (Go.Value.int Go.IntKind.i64 0), (Go.Value.int Go.IntKind.i64 0), (Go.Value.int Go.IntKind.i64 0), (Go.Value.int Go.IntKind.i64 0), (Go.Value.int Go.IntKind.i64 0), (Go.Value.int Go.IntKind.i64 0), (Go.Value.int Go.IntKind.i64 0), (Go.Value.int Go.IntKind.i64 0), (Go.Value.int Go.IntKind.i64 0), (Go.Value.int Go.IntKind.i64 0), (Go.Value.int Go.IntKind.i64 0), (Go.Value.int Go.IntKind.i64 0), (Go.Value.int Go.IntKind.i64 0), (Go.Value.int Go.IntKind.i64 0), (Go.Value.int Go.IntKind.i64 0), (Go.Value.int Go.IntKind.i64 0), (Go.Value.int Go.IntKind.i64 0), (Go.Value.int Go.IntKind.i64 0), (Go.Value.int Go.IntKind.i64 0), (Go.Value.int Go.IntKind.i64 0), (Go.Value.int Go.IntKind.i64 0), (Go.Value.int Go.IntKind.i64 0), (Go.Value.int Go.IntKind.i64 0), (Go.Value.int Go.IntKind.i64 0), (Go.Value.int Go.IntKind.i64 0), (Go.Value.int Go.IntKind.i64 0), (Go.Value.int Go.IntKind.i64 0), (Go.Value.int Go.IntKind.i64 0), (Go.Value.int Go.IntKind.i64 0), (Go.Value.int Go.IntKind.i64 0), (Go.Value.int Go.IntKind.i64 0), (Go.Value.int Go.IntKind.i64 0), (Go.Value.int Go.IntKind.i64 0), (Go.Value.int Go.IntKind.i64 0), (Go.Value.int Go.IntKind.i64 0), (Go.Value.int Go.IntKind.i64 0), (Go.Value.int Go.IntKind.i64 0), (Go.Value.int Go.IntKind.i64 0), (Go.Value.int Go.IntKind.i64 0), (Go.Value.int Go.IntKind.i64 0), (Go.Value.int Go.IntKind.i64 0), (Go.Value.int Go.IntKind.i64 0), (Go.Value.int Go.IntKind.i64 0), (Go.Value.int Go.IntKind.i64 0), (Go.Value.int Go.IntKind.i64 0), (Go.Value.int Go.IntKind.i64 0), (Go.Value.int Go.IntKind.i64 0), (Go.Value.int Go.IntKind.i64 0), (Go.Value.int Go.IntKind.i64 0), (Go.Value.int Go.IntKind.i64 0), (Go.Value.int Go.IntKind.i64 0), (Go.Value.int Go.IntKind.i64 0), (Go.Value.int Go.IntKind.i64 0), (Go.Value.int Go.IntKind.i64 0), (Go.Value.int Go.IntKind.i64 0), (Go.Value.int Go.IntKind.i64 0), (Go.Value.int Go.IntKind.i64 0), (Go.Value.int Go.IntKind.i64 0), (Go.Value.int Go.IntKind.i64 0), (Go.Value.int Go.IntKind.i64 0), (Go.Value.int Go.IntKind.i64 0), (Go.Value.int Go.IntKind.i64 0), (Go.Value.int Go.IntKind.i64 0), (Go.Value.int Go.IntKind.i64 0), (Go.Value.int Go.IntKind.i64 0), (Go.Value.int Go.IntKind.i64 0), (Go.Value.int Go.IntKind.i64 0), (Go.Value.int Go.IntKind.i64 0), (Go.Value.int Go.IntKind.i64 0), (Go.Value.int Go.IntKind.i64 0), (Go.Value.int Go.IntKind.i64 0), (Go.Value.int Go.IntKind.i64 0), (Go.Value.int Go.IntKind.i64 0), (Go.Value.int Go.IntKind.i64 0), (Go.Value.int Go.IntKind.i64 0), (Go.Value.int Go.IntKind.i64 0), (Go.Value.int Go.IntKind.i64 0), (Go.Value.int Go.IntKind.i64 0), (Go.Value.int Go.IntKind.i64 0), (Go.Value.int Go.IntKind.i64 0), (Go.Value.int Go.IntKind.i64 0), (Go.Value.int Go.IntKind.i64 0), (Go.Value.int Go.IntKind.i64 0), (Go.Value.int Go.IntKind.i64 0), (Go.Value.int Go.IntKind.i64 0), (Go.Value.int Go.IntKind.i64 0), (Go.Value.int Go.IntKind.i64 0), (Go.Value.int Go.IntKind.i64 0), (Go.Value.int Go.IntKind.i64 0), (Go.Value.int Go.IntKind.i64 0), (Go.Value.int Go.IntKind.i64 0), (Go.Value.int Go.IntKind.i64 0), (Go.Value.int Go.IntKind.i64 0), (Go.Value.int Go.IntKind.i64 0), (Go.Value.int Go.IntKind.i64 0), (Go.Value.int Go.IntKind.i64 0), (Go.Value.int Go.IntKind.i64 0), (Go.Value.int Go.IntKind.i64 0), (Go.Value.int Go.IntKind.i64 0), (Go.Value.int Go.IntKind.i64 0)]⟩,
  ⟨.fn, (.sc .fn), 1, 8, [Go.Value.nilFunc]⟩,
  ⟨.struct [(0, 72), (255, 74)], (.arr .any), 511, 2304, [(Go.Value.int Go.IntKind.u8 0), (Go.Value.int Go.IntKind.u8 0), (Go.Value.int Go.IntKind.u8 0), (Go.Value.int Go.IntKind.u8 0), (Go.Value.int Go.IntKind.u8 0), (Go.Value.int Go.IntKind.u8 0), (Go.Value.int Go.IntKind.u8 0), (Go.Value.int Go.IntKind.u8 0), (Go.Value.int Go.IntKind.u8 0), (Go.Value.int Go.IntKind.u8 0), (Go.Value.int Go.IntKind.u8 0), (Go.Value.int Go.IntKind.u8 0), (Go.Value.int Go.IntKind.u8 0), (Go.Value.int Go.IntKind.u8 0), (Go.Value.int Go.IntKind.u8 0), (Go.Value.int Go.IntKind.u8 0), (Go.Value.int Go.IntKind.u8 0), (Go.Value.int Go.IntKind.u8 0), (Go.Value.int Go.IntKind.u8 0), (Go.Value.int Go.IntKind.u8 0), (Go.Value.int Go.IntKind.u8 0), (Go.Value.int Go.IntKind.u8 0), (Go.Value.int Go.IntKind.u8 0), (Go.Value.int Go.IntKind.u8 0), (Go.Value.int Go.IntKind.u8 0), (Go.Value.int Go.IntKind.u8 0), (Go.Value.int Go.IntKind.u8 0), (Go.Value.int Go.IntKind.u8 0), (Go.Value.int Go.IntKind.u8 0), (Go.Value.int Go.IntKind.u8 0), (Go.Value.int Go.IntKind.u8 0), (Go.Value.int Go.IntKind.u8 0), (Go.Value.int Go.IntKind.u8 0), (Go.Value.int Go.IntKind.u8 0), (Go.Value.int Go.IntKind.u8 0), (Go.Value.int Go.IntKind.u8 0), (Go.Value.int Go.IntKind.u8 0), (Go.Value.int Go.IntKind.u8 0), (Go.Value.int Go.IntKind.u8 0), (Go.Value.int Go.IntKind.u8 0), (Go.Value.int Go.IntKind.u8 0), (Go.Value.int Go.IntKind.u8 0), (Go.Value.int Go.IntKind.u8 0), (Go.Value.int Go.IntKind.u8 0), (Go.Value.int Go.IntKind.u8 0), (Go.Value.int Go.IntKind.u8 0), (Go.Value.int Go.IntKind.u8 0), (Go.Value.int Go.IntKind.u8 0), (Go.Value.int Go.IntKind.u8 0), (Go.Value.int Go.IntKind.u8 0), (Go.Value.int Go.IntKind.u8 0), (Go.Value.int Go.IntKind.u8 0), (Go.Value.int Go.IntKind.u8 0), (Go.Value.int Go.IntKind.u8 0), (Go.Value.int Go.IntKind.u8 0), (Go.Value.int Go.IntKind.u8 0), (Go.Value.int Go.IntKind.u8 0), (Go.Value.int Go.IntKind.u8 0), (Go.Value.int Go.IntKind.u8 0), (Go.Value.int Go.IntKind.u8 0), (Go.Value.int Go.IntKind.u8 0), (Go.Value.int Go.IntKind.u8 0), (Go.Value.int Go.IntKind.u8 0), (Go.Value.int Go.IntKind.u8 0), (Go.Value.int Go.IntKind.u8 0), (Go.Value.int Go.IntKind.u8 0), (Go.Value.int Go.IntKind.u8 0), (Go.Value.int Go.IntKind.u8 0), (Go.Value.int Go.IntKind.u8 0), (Go.Value.int Go.IntKind.u8 0), (Go.Value.int Go.IntKind.u8 0), (Go.Value.int Go.IntKind.u8 0), (Go.Value.int Go.IntKind.u8 0), (Go.Value.int Go.IntKind.u8 0), (Go.Value.int Go.IntKind.u8 0), (Go.Value.int Go.IntKind.u8 0), (Go.Value.int Go.IntKind.u8 0), (Go.Value.int Go.IntKind.u8 0), (Go.Value.int Go.IntKind.u8 0), (Go.Value.int Go.IntKind.u8 0), (Go.Value.int Go.IntKind.u8 0), (Go.Value.int Go.IntKind.u8 0), (Go.Value.int Go.IntKind.u8 0), (Go.Value.int Go.IntKind.u8 0), (Go.Value.int Go.IntKind.u8 0), (Go.Value.int Go.IntKind.u8 0), (Go.Value.int Go.IntKind.u8 0), (Go.Value.int Go.IntKind.u8 0), (Go.Value.int Go.IntKind.u8 0), (Go.Value.int Go.IntKind.u8 0), (Go.Value.int Go.IntKind.u8 0), (Go.Value.int Go.IntKind.u8 0), (Go.Value.int Go.IntKind.u8 0), (Go.Value.int Go.IntKind.u8 0), (Go.Value.int Go.IntKind.u8 0), (Go.Value.int Go.IntKind.u8 0), (Go.Value.int Go.IntKind.u8 0), (Go.Value.int Go.IntKind.u8 0), (Go.Value.int Go.IntKind.u8 0), (Go.Value.int Go.IntKind.u8 0), (Go.Value.int Go.IntKind.u8 0), (Go.Value.int Go.IntKind.u8 0), (Go.Value.int Go.IntKind.u8 0), (Go.Value.int Go.IntKind.u8 0), (Go.Value.int Go.IntKind.u8 0), (Go.Value.int Go.IntKind.u8 0), (Go.Value.int Go.IntKind.u8 0), (Go.Value.int Go.IntKind.u8 0), (Go.Value.int Go.IntKind.u8 0), (Go.Value.int Go.IntKind.u8 0), (Go.Value.int Go.IntKind.u8 0), (Go.Value.int Go.IntKind.u8 0), (Go.Value.int Go.IntKind.u8 0), (Go.Value.int Go.IntKind.u8 0), (Go.Value.int Go.IntKind.u8 0), (Go.Value.int Go.IntKind.u8 0), (Go.Value.int Go.IntKind.u8 0), (Go.Value.int Go.IntKind.u8 0), (Go.Value.int Go.IntKind.u8 0), (Go.Value.int Go.IntKind.u8 0), (Go.Value.int Go.IntKind.u8 0), (Go.Value.int Go.IntKind.u8 0), (Go.Value.int Go.IntKind.u8 0), (Go.Value.int Go.IntKind.u8 0), (Go.Value.int Go.IntKind.u8 0), (Go.Value.int Go.IntKind.u8 0), (Go.Value.int Go.IntKind.u8 0), (Go.Value.int Go.IntKind.u8 0), (Go.Value.int Go.IntKind.u8 0), (Go.Value.int Go.IntKind.u8 0), (Go.Value.int Go.IntKind.u8 0), (Go.Value.int Go.IntKind.u8 0), (Go.Value.int Go.IntKind.u8 0), (Go.Value.int Go.IntKind.u8 0), (Go.Value.int Go.IntKind.u8 0), (Go.Value.int Go.IntKind.u8 0), (Go.Value.int Go.IntKind.u8 0), (Go.Value.int Go.IntKind.u8 0), (Go.Value.int Go.IntKind.u8 0), (Go.Value.int Go.IntKind.u8 0), (Go.Value.int Go.IntKind.u8 0), (Go.Value.int Go.IntKind.u8 0), (Go.Value.int Go.IntKind.u8 0), (Go.Value.int Go.IntKind.u8 0), (Go.Value.int Go.IntKind.u8 0), (Go.Value.int Go.IntKind.u8 0), (Go.Value.int Go.IntKind.u8 0), (Go.Value.int Go.IntKind.u8 0), (Go.Value.int Go.IntKind.u8 0), (Go.Value.int Go.IntKind.u8 0), (Go.Value.int Go.IntKind.u8 0), (Go.Value.int Go.IntKind.u8 0), (Go.Value.int Go.IntKind.u8 0), (Go.Value.int Go.IntKind.u8 0), (Go.Value.int Go.IntKind.u8 0), (Go.Value.int Go.IntKind.u8 0), (Go.Value.int Go.IntKind.u8 0), (Go.Value.int Go.IntKind.u8 0), (Go.Value.int Go.IntKind.u8 0), (Go.Value.int Go.IntKind.u8 0), (Go.Value.int Go.IntKind.u8 0), (Go.Value.int Go.IntKind.u8 0), (Go.Value.int Go.IntKind.u8 0), (Go.Value.int Go.IntKind.u8 0), (Go.Value.int Go.IntKind.u8 0), (Go.Value.int Go.IntKind.u8 0), (Go.Value.int Go.IntKind.u8 0), (Go.Value.int Go.IntKind.u8 0), (Go.Value.int Go.IntKind.u8 0), (Go.Value.int Go.IntKind.u8 0), (Go.Value.int Go.IntKind.u8 0), (Go.Value.int Go.IntKind.u8 0), (Go.Value.int Go.IntKind.u8 0), (Go.Value.int Go.IntKind.u8 0), (Go.Value.int Go.IntKind.u8 0), (Go.Value.int Go.IntKind.u8 0), (Go.Value.int Go.IntKind.u8 0), (Go.Value.int Go.IntKind.u8 0), (Go.Value.int Go.IntKind.u8 0), (Go.Value.int Go.IntKind.u8 0), (Go.Value.int Go.IntKind.u8 0), (Go.Value.int Go.IntKind.u8 0), (Go.Value.int Go.IntKind.u8 0), (Go.Value.int Go.IntKind.u8 0), (Go.Value.int Go.IntKind.u8 0), (Go.Value.int Go.IntKind.u8 0), (Go.Value.int Go.IntKind.u8 0), (Go.Value.int Go.IntKind.u8 0), (Go.Value.int Go.IntKind.u8 0), (Go.Value.int Go.IntKind.u8 0), (Go.Value.int Go.IntKind.u8 0), (Go.Value.int Go.IntKind.u8 0), (Go.Value.int Go.IntKind.u8 0), (Go.Value.int Go.IntKind.u8 0), (Go.Value.int Go.IntKind.u8 0), (Go.Value.int Go.IntKind.u8 0), (Go.Value.int Go.IntKind.u8 0), (Go.Value.int Go.IntKind.u8 0), (Go.Value.int Go.IntKind.u8 0), (Go.Value.int Go.IntKind.u8 0), (Go.Value.int Go.IntKind.u8 0), (Go.Value.int Go.IntKind.u8 0), (Go.Value.int Go.IntKind.u8 0), (Go.Value.int Go.IntKind.u8 0), (Go.Value.int Go.IntKind.u8 0), (Go.Value.int Go.IntKind.u8 0), (Go.Value.int Go.IntKind.u8 0), (Go.Value.int Go.IntKind.u8 0), (Go.Value.int Go.IntKind.u8 0), (Go.Value.int Go.IntKind.u8 0), (Go.Value.int Go.IntKind.u8 0), (Go.Value.int Go.IntKind.u8 0), (Go.Value.int Go.IntKind.u8 0), (Go.Value.int Go.IntKind.u8 0), (Go.Value.int Go.IntKind.u8 0), (Go.Value.int Go.IntKind.u8 0), (Go.Value.int Go.IntKind.u8 0), (Go.Value.int Go.IntKind.u8 0), (Go.Value.int Go.IntKind.u8 0), (Go.Value.int Go.IntKind.u8 0), (Go.Value.int Go.IntKind.u8 0), (Go.Value.int Go.IntKind.u8 0), (Go.Value.int Go.IntKind.u8 0), (Go.Value.int Go.IntKind.u8 0), (Go.Value.int Go.IntKind.u8 0), (Go.Value.int Go.IntKind.u8 0), (Go.Value.int Go.IntKind.u8 0), (Go.Value.int Go.IntKind.u8 0), (Go.Value.int Go.IntKind.u8 0), (Go.Value.int Go.IntKind.u8 0), (Go.Value.int Go.IntKind.u8 0), (Go.Value.int Go.IntKind.u8 0), (Go.Value.int Go.IntKind.u8 0), (Go.Value.int Go.IntKind.u8 0), (Go.Value.int Go.IntKind.u8 0), (Go.Value.int Go.IntKind.u8 0), (Go.Value.int Go.IntKind.u8 0), (Go.Value.int Go.IntKind.u8 0), (Go.Value.int Go.IntKind.u8 0), (Go.Value.int Go.IntKind.u8 0), (Go.Value.int Go.IntKind.u8 0), (Go.Value.int Go.IntKind.u8 0), (Go.Value.int Go.IntKind.u8 0), (Go.Value.int Go.IntKind.u8 0), (Go.Value.int Go.IntKind.u8 0), (Go.Value.int Go.IntKind.u8 0), (Go.Value.int Go.IntKind.u8 0), (Go.Value.int Go.IntKind.u8 0), (Go.Value.int Go.IntKind.u8 0), (Go.Value.int Go.IntKind.u8 0), (Go.Value.int Go.IntKind.u8 0), (Go.Value.int Go.IntKind.u8 0), (Go.Value.int Go.IntKind.u8 0), (Go.Value.int Go.IntKind.u8 0), (Go.Value.int Go.IntKind.u8 0), (Go.Value.int Go.IntKind.i64 0), (Go.Value.int Go.IntKind.i64 0), (Go.Value.int Go.IntKind.i64 0), (Go.Value.int Go.IntKind.i64 0), (Go.Value.int Go.IntKind.i64 0), (Go.Value.int Go.IntKind.i64 0), (Go.Value.int Go.IntKind.i64 0), (Go.Value.int Go.IntKind.i64 0), (Go.Value.int Go.IntKind.i64 0), (Go.Value.int Go.IntKind.i64 0), (Go.Value.int Go.IntKind.i64 0), (Go.Value.int Go.IntKind.i64 0), (Go.Value.int Go.IntKind.i64 0), (Go.Value.int Go.IntKind.i64 0), (Go.Value.int Go.IntKind.i64 0), (Go.Value.int Go.IntKind.i64 0), (Go.Value.int Go.IntKind.i64 0), (Go.Value.int Go.IntKind.i64 0), (Go.Value.int Go.IntKind.i64 0), (Go.Value.int Go.IntKind.i64 0), (Go.Value.int Go.IntKind.i64 0), (Go.Value.int Go.IntKind.i64 0), (Go.Value.int Go.IntKind.i64 0), (Go.Value.int Go.IntKind.i64 0), (Go.Value.int Go.IntKind.i64 0), (Go.Value.int Go.IntKind.i64 0), (Go.Value.int Go.IntKind.i64 0), (Go.Value.int Go.IntKind.i64 0), (Go.Value.int Go.IntKind.i64 0), (Go.Value.int Go.IntKind.i64 0), (Go.Value.int Go.IntKind.i64 0), (Go.Value.int Go.IntKind.i64 0), (Go.Value.int Go.IntKind.i64 0), (Go.Value.int Go.IntKind.i64 0), (Go.Value.int Go.IntKind.i64 0), (Go.Value.int Go.IntKind.i64 0), (Go.Value.int Go.IntKind.i64 0), (Go.Value.int Go.IntKind.i64 0), (Go.Value.int Go.IntKind.i64 0), (Go.Value.int Go.IntKind.i64 0), (Go.Value.int Go.IntKind.i64 0), (Go.Value.int Go.IntKind.i64 0), (Go.Value.int Go.IntKind.i64 0), (Go.Value.int Go.IntKind.i64 0), (Go.Value.int Go.IntKind.i64 0), (Go.Value.int Go.IntKind.i64 0), (Go.Value.int Go.IntKind.i64 0), (Go.Value.int Go.IntKind.i64 0), (Go.Value.int Go.IntKind.i64 0), (Go.Value.int Go.IntKind.i64 0), (Go.Value.int Go.IntKind.i64 0), (Go.Value.int Go.IntKind.i64 0), (Go.Value.int Go.IntKind.i64 0), (Go.Value.int Go.IntKind.i64 0), (Go.Value.int Go.IntKind.i64 0), (Go.Value.int Go.IntKind.i64 0), (Go.Value.int Go.IntKind.i64 0), (Go.Value.int Go.IntKind.i64 0), (Go.Value.int Go.IntKind.i64 0), (Go.Value.int Go.IntKind.i64 0), (Go.Value.int Go.IntKind.i64 0), (Go.Value.int Go.IntKind.i64 0), (Go.Value.int Go.IntKind.i64 0), (Go.Value.int Go.IntKind.i64 0), (Go.Value.int Go.IntKind.i64 0), (Go.Value.int Go.IntKind.i64 0), (Go.Value.int Go.IntKind.i64 0), (Go.Value.int Go.IntKind.i64 0), (Go.Value.int Go.IntKind.i64 0), (Go.Value.int Go.IntKind.i64 0), (Go.Value.int Go.IntKind.i64 0), (Go.Value.int Go.IntKind.i64 0), (Go.Value.int Go.IntKind.i64 0), (Go.Value.int Go.IntKind.i64 0), (Go.Value.int Go.IntKind.i64 0), (Go.Value.int Go.IntKind.i64 0), (Go.Value.int Go.IntKind.i64 0), (Go.Value.int Go.IntKind.i64 0), (Go.Value.int Go.IntKind.i64 0), (Go.Value.int Go.IntKind.i64 0), (Go.Value.int Go.IntKind.i64 0), (Go.Value.int Go.IntKind.i64 0), (Go.Value.int Go.IntKind.i64 0), (Go.Value.int Go.IntKind.i64 0), (Go.Value.int Go.IntKind.i64 0), (Go.Value.int Go.IntKind.i64 0), (Go.Value.int Go.IntKind.i64 0), (Go.Value.int Go.IntKind.i64 0), (Go.Value.int Go.IntKind.i64 0), (Go.Value.int Go.IntKind.i64 0), (Go.Value.int Go.IntKind.i64 0), (Go.Value.int Go.IntKind.i64 0), (Go.Value.int Go.IntKind.i64 0), (Go.Value.int Go.IntKind.i64 0), (Go.Value.int Go.IntKind.i64 0), (Go.Value.int Go.IntKind.i64 0), (Go.Value.int Go.IntKind.i64 0), (Go.Value.int Go.IntKind.i64 0), (Go.Value.int Go.IntKind.i64 0), (Go.Value.int Go.IntKind.i64 0), (Go.Value.int Go.IntKind.i64 0), (Go.Value.int Go.IntKind.i64 0), (Go.Value.int Go.IntKind.i64 0), (Go.Value.int Go.IntKind.i64 0), (Go.Value.int Go.IntKind.i64 0), (Go.Value.int Go.IntKind.i64 0), (Go.Value.int Go.IntKind.i64 0), (Go.Value.int Go.IntKind.i64 0), (Go.Value.int Go.IntKind.i64 0), (Go.Value.int Go.IntKind.i64 0), (Go.Value.int Go.IntKind.i64 0), (Go.Value.int Go.IntKind.i64 0), (Go.Value.int Go.IntKind.i64 0), (Go.Value.int Go.IntKind.i64 0), (Go.Value.int Go.IntKind.i64 0), (Go.Value.int Go.IntKind.i64 0), (Go.Value.int Go.IntKind.i64 0), (Go.Value.int Go.IntKind.i64 0), (Go.Value.int Go.IntKind.i64 0), (Go.Value.int Go.IntKind.i64 0), (Go.Value.int Go.IntKind.i64 0), (Go.Value.int Go.IntKind.i64 0), (Go.Value.int Go.IntKind.i64 0), (Go.Value.int Go.IntKind.i64 0), (Go.Value.int Go.IntKind.i64 0), (Go.Value.int Go.IntKind.i64 0), (Go.Value.int Go.IntKind.i64 0), (Go.Value.int Go.IntKind.i64 0), (Go.Value.int Go.IntKind.i64 0), (Go.Value.int Go.IntKind.i64 0), (Go.Value.int Go.IntKind.i64 0), (Go.Value.int Go.IntKind.i64 0), (Go.Value.int Go.IntKind.i64 0), (Go.Value.int Go.IntKind.i64 0), (Go.Value.int Go.IntKind.i64 0), (Go.Value.int Go.IntKind.i64 0), (Go.Value.int Go.IntKind.i64 0), (Go.Value.int Go.IntKind.i64 0), (Go.Value.int Go.IntKind.i64 0), (Go.Value.int Go.IntKind.i64 0), (Go.Value.int Go.IntKind.i64 0), (Go.Value.int Go.IntKind.i64 0), (Go.Value.int Go.IntKind.i64 0), (Go.Value.int Go.IntKind.i64 0), (Go.Value.int Go.IntKind.i64 0), (Go.Value.int Go.IntKind.i64 0), (Go.Value.int Go.IntKind.i64 0), (Go.Value.int Go.IntKind.i64 0), (Go.Value.int Go.IntKind.i64 0), (Go.Value.int Go.IntKind.i64 0), (Go.Value.int Go.IntKind.i64 0), (Go.Value.int Go.IntKind.i64 0), (Go.Value.int Go.IntKind.i64 0), (Go.Value.int Go.IntKind.i64 0), (Go.Value.int Go.IntKind.i64 0), (Go.Value.int Go.IntKind.i64 0), (Go.Value.int Go.IntKind.i64 0), (Go.Value.int Go.IntKind.i64 0), (Go.Value.int Go.IntKind.i64 0), (Go.Value.int Go.IntKind.i64 0), (Go.Value.int Go.IntKind.i64 0), (Go.Value.int Go.IntKind.i64 0), (Go.Value.int Go.IntKind.i64 0), (Go.Value.int Go.IntKind.i64 0), (Go.Value.int Go.IntKind.i64 0), (Go.Value.int Go.IntKind.i64 0), (Go.Value.int Go.IntKind.i64 0), (Go.Value.int Go.IntKind.i64 0), (Go.Value.int Go.IntKind.i64 0), (Go.Value.int Go.IntKind.i64 0), (Go.Value.int Go.IntKind.i64 0), (Go.Value.int Go.IntKind.i64 0), (Go.Value.int Go.IntKind.i64 0), (Go.Value.int Go.IntKind.i64 0), (Go.Value.int Go.IntKind.i64 0), (Go.Value.int Go.IntKind.i64 0), (Go.Value.int Go.IntKind.i64 0), (Go.Value.int Go.IntKind.i64 0), (Go.Value.int Go.IntKind.i64 0), (Go.Value.int Go.IntKind.i64 0), (Go.Value.int Go.IntKind.i64 0), (Go.Value.int Go.IntKind.i64 0), (Go.Value.int Go.IntKind.i64 0), (Go.Value.int Go.IntKind.i64 0), (Go.Value.int Go.IntKind.i64 0), (Go.Value.int Go.IntKind.i64 0), (Go.Value.int Go.IntKind.i64 0), (Go.Value.int Go.IntKind.i64 0), (Go.Value.int Go.IntKind.i64 0), (Go.Value.int Go.IntKind.i64 0), (Go.Value.int Go.IntKind.i64 0), (Go.Value.int Go.IntKind.i64 0), (Go.Value.int Go.IntKind.i64 0), (Go.Value.int Go.IntKind.i64 0), (Go.Value.int Go.IntKind.i64 0), (Go.Value.int Go.IntKind.i64 0), (Go.Value.int Go.IntKind.i64 0), (Go.Value.int Go.IntKind.i64 0), (Go.Value.int Go.IntKind.i64 0), (Go.Value.int Go.IntKind.i64 0), (Go.Value.int Go.IntKind.i64 0), (Go.Value.int Go.IntKind.i64 0), (Go.Value.int Go.IntKind.i64 0), (Go.Value.int Go.IntKind.i64 0), (Go.Value.int Go.IntKind.i64 0), (Go.Value.int Go.IntKind.i64 0), (Go.Value.int Go.IntKind.i64 0), (Go.Value.int Go.IntKind.i64 0), (Go.Value.int Go.IntKind.i64 0), (Go.Value.int Go.IntKind.i64 0), (Go.Value.int Go.IntKind.i64 0), (Go.Value.int Go.IntKind.i64 0), (Go.Value.int Go.IntKind.i64 0), (Go.Value.int Go.IntKind.i64 0), (Go.Value.int Go.IntKind.i64 0), (Go.Value.int Go.IntKind.i64 0), (Go.Value.int Go.IntKind.i64 0), (Go.Value.int Go.IntKind.i64 0), (Go.Value.int Go.IntKind.i64 0), (Go.Value.int Go.IntKind.i64 0), (Go.Value.int Go.IntKind.i64 0), (Go.Value.int Go.IntKind.i64 0), (Go.Value.int Go.IntKind.i64 0), (Go.Value.int Go.IntKind.i64 0), (Go.Value.int Go.IntKind.i64 0), (Go.Value.int Go.IntKind.i64 0), (Go.Value.int Go.IntKind.i64 0), (Go.Value.int Go.IntKind.i64 0), (Go.Value.int Go.IntKind.i64 0), (Go.Value.int Go.IntKind.i64 0), (Go.Value.int Go.IntKind.i64 0), (Go.Value.int Go.IntKind.i64 0), (Go.Value.int Go.IntKind.i64 0), (Go.Value.int Go.IntKind.i64 0), (Go.Value.int Go.IntKind.i64 0), (Go.Value.int Go.IntKind.i64 0), (Go.Value.int Go.IntKind.i64 0), (Go.Value.int Go.IntKind.i64 0), (Go.Value.int Go.IntKind.i64 0), (Go.Value.int Go.IntKind.i64 0), (Go.Value.int Go.IntKind.i64 0), (Go.Value.int Go.IntKind.i64 0), (Go.Value.int Go.IntKind.i64 0), (Go.Value.int Go.IntKind.i64 0), (Go.Value.int Go.IntKind.i64 0), (Go.Value.int Go.IntKind.i64 0), (Go.Value.int Go.IntKind.i64 0), (Go.Value.int Go.IntKind.i64 0), (Go.Value.int Go.IntKind.i64 0), (Go.Value.int Go.IntKind.i64 0), (Go.Value.int Go.IntKind.i64 0), (Go.Value.int Go.IntKind.i64 0), (Go.Value.int Go.IntKind.i64 0), (Go.Value.int Go.IntKind.i64 0), (Go.Value.int Go.IntKind.i64 0), (Go.Value.int Go.IntKind.i64 0)]⟩,
  ⟨.struct [(0, 72), (255, 74)], (.arr .any), 511, 2304, [(Go.Value.int Go.IntKind.u8 0), (Go.Value.int Go.IntKind.u8 0), (Go.Value.int Go.IntKind.u8 0), (Go.Value.int Go.IntKind.u8 0), (Go.Value.int Go.IntKind.u8 0), (Go.Value.int Go.IntKind.u8 0), (Go.Value.int Go.IntKind.u8 0), (Go.Value.int Go.IntKind.u8 0), (Go.Value.int Go.IntKind.u8 0), (Go.Value.int Go.IntKind.u8 0), (Go.Value.int Go.IntKind.u8 0), (Go.Value.int Go.IntKind.u8 0), (Go.Value.int Go.IntKind.u8 0), (Go.Value.int Go.IntKind.u8 0), (Go.Value.int Go.IntKind.u8 0), (Go.Value.int Go.IntKind.u8 0), (Go.Value.int Go.IntKind.u8 0), (Go.Value.int Go.IntKind.u8 0), (Go.Value.int Go.IntKind.u8 0), (Go.Value.int Go.IntKind.u8 0), (Go.Value.int Go.IntKind.u8 0), (Go.Value.int Go.IntKind.u8 0), (Go.Value.int Go.IntKind.u8 0), (Go.Value.int Go.IntKind.u8 0), (Go.Value.int Go.IntKind.u8 0), (Go.Value.int Go.IntKind.u8 0), (Go.Value.int Go.IntKind.u8 0), (Go.Value.int Go.IntKind.u8 0), (Go.Value.int Go.IntKind.u8 0), (Go.Value.int Go.IntKind.u8 0), (Go.Value.int Go.IntKind.u8 0), (Go.Value.int Go.IntKind.u8 0), (Go.Value.int Go.IntKind.u8 0), (Go.Value.int Go.IntKind.u8 0), (Go.Value.int Go.IntKind.u8 0), (Go.Value.int Go.IntKind.u8 0), (Go.Value.int Go.IntKind.u8 0), (Go.Value.int Go.IntKind.u8 0), (Go.Value.int Go.IntKind.u8 0), (Go.Value.int Go.IntKind.u8 0), (Go.Value.int Go.IntKind.u8 0), (Go.Value.int Go.IntKind.u8 0), (Go.Value.int Go.IntKind.u8 0), (Go.Value.int Go.IntKind.u8 0), (Go.Value.int Go.IntKind.u8 0), (Go.Value.int Go.IntKind.u8 0), (Go.Value.int Go.IntKind.u8 0), (Go.Value.int Go.IntKind.u8 0), (Go.Value.int Go.IntKind.u8 0), (Go.Value.int Go.IntKind.u8 0), (Go.Value.int Go.IntKind.u8 0), (Go.Value.int Go.IntKind.u8 0), (Go.Value.int Go.IntKind.u8 0), (Go.Value.int Go.IntKind.u8 0), (Go.Value.int Go.IntKind.u8 0), (Go.Value.int Go.IntKind.u8 0), (Go.Value.int Go.IntKind.u8 0), (Go.Value.int Go.IntKind.u8 0), (Go.Value.int Go.IntKind.u8 0), (Go.Value.int Go.IntKind.u8 0), (Go.Value.int Go.IntKind.u8 0), (Go.Value.int Go.IntKind.u8 0), (Go.Value.int Go.IntKind.u8 0), (Go.Value.int Go.IntKind.u8 0), (Go.Value.int Go.IntKind.u8 0), (Go.Value.int Go.IntKind.u8 0), (Go.Value.int Go.IntKind.u8 0), (Go.Value.int Go.IntKind.u8 0), (Go.Value.int Go.IntKind.u8 0), (Go.Value.int Go.IntKind.u8 0), (Go.Value.int Go.IntKind.u8 0), (Go.Value.int Go.IntKind.u8 0), (Go.Value.int Go.IntKind.u8 0), (Go.Value.int Go.IntKind.u8 0), (Go.Value.int Go.IntKind.u8 0), (Go.Value.int Go.IntKind.u8 0), (Go.Value.int Go.IntKind.u8 0), (Go.Value.int Go.IntKind.u8 0), (Go.Value.int Go.IntKind.u8 0), (Go.Value.int Go.IntKind.u8 0), (Go.Value.int Go.IntKind.u8 0), (Go.Value.int Go.IntKind.u8 0), (Go.Value.int Go.IntKind.u8 0), (Go.Value.int Go.IntKind.u8 0), (Go.Value.int Go.IntKind.u8 0), (Go.Value.int Go.IntKind.u8 0), (Go.Value.int Go.IntKind.u8 0), (Go.Value.int Go.IntKind.u8 0), (Go.Value.int Go.IntKind.u8 0), (Go.Value.int Go.IntKind.u8 0), (Go.Value.int Go.IntKind.u8 0), (Go.Value.int Go.IntKind.u8 0), (Go.Value.int Go.IntKind.u8 0), (Go.Value.int Go.IntKind.u8 0), (Go.Value.int Go.IntKind.u8 0), (Go.Value.int Go.IntKind.u8 0), (Go.Value.int Go.IntKind.u8 0), (Go.Value.int Go.IntKind.u8 0), (Go.Value.int Go.IntKind.u8 0), (Go.Value.int Go.IntKind.u8 0), (Go.Value.int Go.IntKind.u8 0), (Go.Value.int Go.IntKind.u8 0), (Go.Value.int Go.IntKind.u8 0), (Go.Value.int Go.IntKind.u8 0), (Go.Value.int Go.IntKind.u8 0), (Go.Value.int Go.IntKind.u8 0), (Go.Value.int Go.IntKind.u8 0), (Go.Value.int Go.IntKind.u8 0), (Go.Value.int Go.IntKind.u8 0), (Go.Value.int Go.IntKind.u8 0), (Go.Value.int Go.IntKind.u8 0), (Go.Value.int Go.IntKind.u8 0), (Go.Value.int Go.IntKind.u8 0), (Go.Value.int Go.IntKind.u8 0), (Go.Value.int Go.IntKind.u8 0), (Go.Value.int Go.IntKind.u8 0), (Go.Value.int Go.IntKind.u8 0), (Go.Value.int Go.IntKind.u8 0), (Go.Value.int Go.IntKind.u8 0), (Go.Value.int Go.IntKind.u8 0), (Go.Value.int Go.IntKind.u8 0), (Go.Value.int Go.IntKind.u8 0), (Go.Value.int Go.IntKind.u8 0), (Go.Value.int Go.IntKind.u8 0), (Go.Value.int Go.IntKind.u8 0), (Go.Value.int Go.IntKind.u8 0), (Go.Value.int Go.IntKind.u8 0), (Go.Value.int Go.IntKind.u8 0), (Go.Value.int Go.IntKind.u8 0), (Go.Value.int Go.IntKind.u8 0), (Go.Value.int Go.IntKind.u8 0), (Go.Value.int Go.IntKind.u8 0), (Go.Value.int Go.IntKind.u8 0), (Go.Value.int Go.IntKind.u8 0), (Go.Value.int Go.IntKind.u8 0), (Go.Value.int Go.IntKind.u8 0), (Go.Value.int Go.IntKind.u8 0), (Go.Value.int Go.IntKind.u8 0), (Go.Value.int Go.IntKind.u8 0), (Go.Value.int Go.IntKind.u8 0), (Go.Value.int Go.IntKind.u8 0), (Go.Value.int Go.IntKind.u8 0), (Go.Value.int Go.IntKind.u8 0), (Go.Value.int Go.IntKind.u8 0), (Go.Value.int Go.IntKind.u8 0), (Go.Value.int Go.IntKind.u8 0), (Go.Value.int Go.IntKind.u8 0), (Go.Value.int Go.IntKind.u8 0), (Go.Value.int Go.IntKind.u8 0), (Go.Value.int Go.IntKind.u8 0), (Go.Value.int Go.IntKind.u8 0), (Go.Value.int Go.IntKind.u8 0), (Go.Value.int Go.IntKind.u8 0), (Go.Value.int Go.IntKind.u8 0), (Go.Value.int Go.IntKind.u8 0), (Go.Value.int Go.IntKind.u8 0), (Go.Value.int Go.IntKind.u8 0), (Go.Value.int Go.IntKind.u8 0), (Go.Value.int Go.IntKind.u8 0), (Go.Value.int Go.IntKind.u8 0), (Go.Value.int Go.IntKind.u8 0), (Go.Value.int Go.IntKind.u8 0), (Go.Value.int Go.IntKind.u8 0), (Go.Value.int Go.IntKind.u8 0), (Go.Value.int Go.IntKind.u8 0), (Go.Value.int Go.IntKind.u8 0), (Go.Value.int Go.IntKind.u8 0), (Go.Value.int Go.IntKind.u8 0), (Go.Value.int Go.IntKind.u8 0), (Go.Value.int Go.IntKind.u8 0), (Go.Value.int Go.IntKind.u8 0), (Go.Value.int Go.IntKind.u8 0), (Go.Value.int Go.IntKind.u8 0), (Go.Value.int Go.IntKind.u8 0), (Go.Value.int Go.IntKind.u8 0), (Go.Value.int Go.IntKind.u8 0), (Go.Value.int Go.IntKind.u8 0), (Go.Value.int Go.IntKind.u8 0), (Go.Value.int Go.IntKind.u8 0), (Go.Value.int Go.IntKind.u8 0), (Go.Value.int Go.IntKind.u8 0), (Go.Value.int Go.IntKind.u8 0), (Go.Value.int Go.IntKind.u8 0), (Go.Value.int Go.IntKind.u8 0), (Go.Value.int Go.IntKind.u8 0), (Go.Value.int Go.IntKind.u8 0), (Go.Value.int Go.IntKind.u8 0), (Go.Value.int Go.IntKind.u8 0), (Go.Value.int Go.IntKind.u8 0), (Go.Value.int Go.IntKind.u8 0), (Go.Value.int Go.IntKind.u8 0), (Go.Value.int Go.IntKind.u8 0), (Go.Value.int Go.IntKind.u8 0), (Go.Value.int Go.IntKind.u8 0), (Go.Value.int Go.IntKind.u8 0), (Go.Value.int Go.IntKind.u8 0), (Go.Value.int Go.IntKind.u8 0), (Go.Value.int Go.IntKind.u8 0), (Go.Value.int Go.IntKind.u8 0), (Go.Value.int Go.IntKind.u8 0), (Go.Value.int Go.IntKind.u8 0), (Go.Value.int Go.IntKind.u8 0), (Go.Value.int Go.IntKind.u8 0), (Go.Value.int Go.IntKind.u8 0), (Go.Value.int Go.IntKind.u8 0), (Go.Value.int Go.IntKind.u8 0), (Go.Value.int Go.IntKind.u8 0), (Go.Value.int Go.IntKind.u8 0), (Go.Value.int Go.IntKind.u8 0), (Go.Value.int Go.IntKind.u8 0), (Go.Value.int Go.IntKind.u8 0), (Go.Value.int Go.IntKind.u8 0), (Go.Value.int Go.IntKind.u8 0), (Go.Value.int Go.IntKind.u8 0), (Go.Value.int Go.IntKind.u8 0), (Go.Value.int Go.IntKind.u8 0), (Go.Value.int Go.IntKind.u8 0), (Go.Value.int Go.IntKind.u8 0), (Go.Value.int Go.IntKind.u8 0), (Go.Value.int Go.IntKind.u8 0), (Go.Value.int Go.IntKind.u8 0), (Go.Value.int Go.IntKind.u8 0), (Go.Value.int Go.IntKind.u8 0), (Go.Value.int Go.IntKind.u8 0), (Go.Value.int Go.IntKind.u8 0), (Go.Value.int Go.IntKind.u8 0), (Go.Value.int Go.IntKind.u8 0), (Go.Value.int Go.IntKind.u8 0), (Go.Value.int Go.IntKind.u8 0), (Go.Value.int Go.IntKind.u8 0), (Go.Value.int Go.IntKind.u8 0), (Go.Value.int Go.IntKind.u8 0), (Go.Value.int Go.IntKind.u8 0), (Go.Value.int Go.IntKind.u8 0), (Go.Value.int Go.IntKind.u8 0), (Go.Value.int Go.IntKind.u8 0), (Go.Value.int Go.IntKind.u8 0), (Go.Value.int Go.IntKind.u8 0), (Go.Value.int Go.IntKind.u8 0), (Go.Value.int Go.IntKind.u8 0), (Go.Value.int Go.IntKind.u8 0), (Go.Value.int Go.IntKind.u8 0), (Go.Value.int Go.IntKind.u8 0), (Go.Value.int Go.IntKind.u8 0), (Go.Value.int Go.IntKind.u8 0), (Go.Value.int Go.IntKind.u8 0), (Go.Value.int Go.IntKind.u8 0), (Go.Value.int Go.IntKind.u8 0), (Go.Value.int Go.IntKind.u8 0), (Go.Value.int Go.IntKind.u8 0), (Go.Value.int Go.IntKind.u8 0), (Go.Value.int Go.IntKind.u8 0), (Go.Value.int Go.IntKind.u8 0), (Go.Value.int Go.IntKind.u8 0), (Go.Value.int Go.IntKind.u8 0), (Go.Value.int Go.IntKind.i64 0), (Go.Value.int Go.IntKind.i64 0), (Go.Value.int Go.IntKind.i64 0), (Go.Value.int Go.IntKind.i64 0), (Go.Value.int Go.IntKind.i64 0), (Go.Value.int Go.IntKind.i64 0), (Go.Value.int Go.IntKind.i64 0), (Go.Value.int Go.IntKind.i64 0), (Go.Value.int Go.IntKind.i64 0), (Go.Value.int Go.IntKind.i64 0), (Go.Value.int Go.IntKind.i64 0), (Go.Value.int Go.IntKind.i64 0), (Go.Value.int Go.IntKind.i64 0), (Go.Value.int Go.IntKind.i64 0), (Go.Value.int Go.IntKind.i64 0), (Go.Value.int Go.IntKind.i64 0), (Go.Value.int Go.IntKind.i64 0), (Go.Value.int Go.IntKind.i64 0), (Go.Value.int Go.IntKind.i64 0), (Go.Value.int Go.IntKind.i64 0), (Go.Value.int Go.IntKind.i64 0), (Go.Value.int Go.IntKind.i64 0), (Go.Value.int Go.IntKind.i64 0), (Go.Value.int Go.IntKind.i64 0), (Go.Value.int Go.IntKind.i64 0), (Go.Value.int Go.IntKind.i64 0), (Go.Value.int Go.IntKind.i64 0), (Go.Value.int Go.IntKind.i64 0), (Go.Value.int Go.IntKind.i64 0), (Go.Value.int Go.IntKind.i64 0), (Go.Value.int Go.IntKind.i64 0), (Go.Value.int Go.IntKind.i64 0), (Go.Value.int Go.IntKind.i64 0), (Go.Value.int Go.IntKind.i64 0), (Go.Value.int Go.IntKind.i64 0), (Go.Value.int Go.IntKind.i64 0), (Go.Value.int Go.IntKind.i64 0), (Go.Value.int Go.IntKind.i64 0), (Go.Value.int Go.IntKind.i64 0), (Go.Value.int Go.IntKind.i64 0), (Go.Value.int Go.IntKind.i64 0), (Go.Value.int Go.IntKind.i64 0), (Go.Value.int Go.IntKind.i64 0), (Go.Value.int Go.IntKind.i64 0), (Go.Value.int Go.IntKind.i64 0), (Go.Value.int Go.IntKind.i64 0), (Go.Value.int Go.IntKind.i64 0), (Go.Value.int Go.IntKind.i64 0), (Go.Value.int Go.IntKind.i64 0), (Go.Value.int Go.IntKind.i64 0), (Go.Value.int Go.IntKind.i64 0), (Go.Value.int Go.IntKind.i64 0), (Go.Value.int Go.IntKind.i64 0), (Go.Value.int Go.IntKind.i64 0), (Go.Value.int Go.IntKind.i64 0), (Go.Value.int Go.IntKind.i64 0), (Go.Value.int Go.IntKind.i64 0), (Go.Value.int Go.IntKind.i64 0), (Go.Value.int Go.IntKind.i64 0), (Go.Value.int Go.IntKind.i64 0), (Go.Value.int Go.IntKind.i64 0), (Go.Value.int Go.IntKind.i64 0), (Go.Value.int Go.IntKind.i64 0), (Go.Value.int Go.IntKind.i64 0), (Go.Value.int Go.IntKind.i64 0), (Go.Value.int Go.IntKind.i64 0), (Go.Value.int Go.IntKind.i64 0), (Go.Value.int Go.IntKind.i64 0), (Go.Value.int Go.IntKind.i64 0), (Go.Value.int Go.IntKind.i64 0), (Go.Value.int Go.IntKind.i64 0), (Go.Value.int Go.IntKind.i64 0), (Go.Value.int Go.IntKind.i64 0), (Go.Value.int Go.IntKind.i64 0), (Go.Value.int Go.IntKind.i64 0), (Go.Value.int Go.IntKind.i64 0), (Go.Value.int Go.IntKind.i64 0), (Go.Value.int Go.IntKind.i64 0), (Go.Value.int Go.IntKind.i64 0), (Go.Value.int Go.IntKind.i64 0), (Go.Value.int Go.IntKind.i64 0), (Go.Value.int Go.IntKind.i64 0), (Go.Value.int Go.IntKind.i64 0), (Go.Value.int Go.IntKind.i64 0), (Go.Value.int Go.IntKind.i64 0), (Go.Value.int Go.IntKind.i64 0), (Go.Value.int Go.IntKind.i64 0), (Go.Value.int Go.IntKind.i64 0), (Go.Value.int Go.IntKind.i64 0), (Go.Value.int Go.IntKind.i64 0), (Go.Value.int Go.IntKind.i64 0), (Go.Value.int Go.IntKind.i64 0), (Go.Value.int Go.IntKind.i64 0), (Go.Value.int Go.IntKind.i64 0), (Go.Value.int Go.IntKind.i64 0), (Go.Value.int Go.IntKind.i64 0), (Go.Value.int Go.IntKind.i64 0), (Go.Value.int Go.IntKind.i64 0), (Go.Value.int Go.IntKind.i64 0), (Go.Value.int Go.IntKind.i64 0), (Go.Value.int Go.IntKind.i64 0), (Go.Value.int Go.IntKind.i64 0), (Go.Value.int Go.IntKind.i64 0), (Go.Value.int Go.IntKind.i64 0), (Go.Value.int Go.IntKind.i64 0), (Go.Value.int Go.IntKind.i64 0), (Go.Value.int Go.IntKind.i64 0), (Go.Value.int Go.IntKind.i64 0), (Go.Value.int Go.IntKind.i64 0), (Go.Value.int Go.IntKind.i64 0), (Go.Value.int Go.IntKind.i64 0), (Go.Value.int Go.IntKind.i64 0), (Go.Value.int Go.IntKind.i64 0), (Go.Value.int Go.IntKind.i64 0), (Go.Value.int Go.IntKind.i64 0), (Go.Value.int Go.IntKind.i64 0), (Go.Value.int Go.IntKind.i64 0), (Go.Value.int Go.IntKind.i64 0), (Go.Value.int Go.IntKind.i64 0), (Go.Value.int Go.IntKind.i64 0), (Go.Value.int Go.IntKind.i64 0), (Go.Value.int Go.IntKind.i64 0), (Go.Value.int Go.IntKind.i64 0), (Go.Value.int Go.IntKind.i64 0), (Go.Value.int Go.IntKind.i64 0), (Go.Value.int Go.IntKind.i64 0), (Go.Value.int Go.IntKind.i64 0), (Go.Value.int Go.IntKind.i64 0), (Go.Value.int Go.IntKind.i64 0), (Go.Value.int Go.IntKind.i64 0), (Go.Value.int Go.IntKind.i64 0), (Go.Value.int Go.IntKind.i64 0), (Go.Value.int Go.IntKind.i64 0), (Go.Value.int Go.IntKind.i64 0), (Go.Value.int Go.IntKind.i64 0), (Go.Value.int Go.IntKind.i64 0), (Go.Value.int Go.IntKind.i64 0), (Go.Value.int Go.IntKind.i64 0), (Go.Value.int Go.IntKind.i64 0), (Go.Value.int Go.IntKind.i64 0), (Go.Value.int Go.IntKind.i64 0), (Go.Value.int Go.IntKind.i64 0), (Go.Value.int Go.IntKind.i64 0), (Go.Value.int Go.IntKind.i64 0), (Go.Value.int Go.IntKind.i64 0), (Go.Value.int Go.IntKind.i64 0), (Go.Value.int Go.IntKind.i64 0), (Go.Value.int Go.IntKind.i64 0), (Go.Value.int Go.IntKind.i64 0), (Go.Value.int Go.IntKind.i64 0), (Go.Value.int Go.IntKind.i64 0), (Go.Value.int Go.IntKind.i64 0), (Go.Value.int Go.IntKind.i64 0), (Go.Value.int Go.IntKind.i64 0), (Go.Value.int Go.IntKind.i64 0), (Go.Value.int Go.IntKind.i64 0), (Go.Value.int Go.IntKind.i64 0), (Go.Value.int Go.IntKind.i64 0), (Go.Value.int Go.IntKind.i64 0), (Go.Value.int Go.IntKind.i64 0), (Go.Value.int Go.IntKind.i64 0), (Go.Value.int Go.IntKind.i64 0), (Go.Value.int Go.IntKind.i64 0), (Go.Value.int Go.IntKind.i64 0), (Go.Value.int Go.IntKind.i64 0), (Go.Value.int Go.IntKind.i64 0), (Go.Value.int Go.IntKind.i64 0), (Go.Value.int Go.IntKind.i64 0), (Go.Value.int Go.IntKind.i64 0), (Go.Value.int Go.IntKind.i64 0), (Go.Value.int Go.IntKind.i64 0), (Go.Value.int Go.IntKind.i64 0), (Go.Value.int Go.IntKind.i64 0), (Go.Value.int Go.IntKind.i64 0), (Go.Value.int Go.IntKind.i64 0), (Go.Value.int Go.IntKind.i64 0), (Go.Value.int Go.IntKind.i64 0), (Go.Value.int Go.IntKind.i64 0), (Go.Value.int Go.IntKind.i64 0), (Go.Value.int Go.IntKind.i64 0), (Go.Value.int Go.IntKind.i64 0), (Go.Value.int Go.IntKind.i64 0), (Go.Value.int Go.IntKind.i64 0), (Go.Value.int Go.IntKind.i64 0), (Go.Value.int Go.IntKind.i64 0), (Go.Value.int Go.IntKind.i64 0), (Go.Value.int Go.IntKind.i64 0), (Go.Value.int Go.IntKind.i64 0), (Go.Value.int Go.IntKind.i64 0), (Go.Value.int Go.IntKind.i64 0), (Go.Value.int Go.IntKind.i64 0), (Go.Value.int Go.IntKind.i64 0), (Go.Value.int Go.IntKind.i64 0), (Go.Value.int Go.IntKind.i64 0), (Go.Value.int Go.IntKind.i64 0), (Go.Value.int Go.IntKind.i64 0), (Go.Value.int Go.IntKind.i64 0), (Go.Value.int Go.IntKind.i64 0), (Go.Value.int Go.IntKind.i64 0), (Go.Value.int Go.IntKind.i64 0), (Go.Value.int Go.IntKind.i64 0), (Go.Value.int Go.IntKind.i64 0), (Go.Value.int Go.IntKind.i64 0), (Go.Value.int Go.IntKind.i64 0), (Go.Value.int Go.IntKind.i64 0), (Go.Value.int Go.IntKind.i64 0), (Go.Value.int Go.IntKind.i64 0), (Go.Value.int Go.IntKind.i64 0), (Go.Value.int Go.IntKind.i64 0), (Go.Value.int Go.IntKind.i64 0), (Go.Value.int Go.IntKind.i64 0), (Go.Value.int Go.IntKind.i64 0), (Go.Value.int Go.IntKind.i64 0), (Go.Value.int Go.IntKind.i64 0), (Go.Value.int Go.IntKind.i64 0), (Go.Value.int Go.IntKind.i64 0), (Go.Value.int Go.IntKind.i64 0), (Go.Value.int Go.IntKind.i64 0), (Go.Value.int Go.IntKind.i64 0), (Go.Value.int Go.IntKind.i64 0), (Go.Value.int Go.IntKind.i64 0), (Go.Value.int Go.IntKind.i64 0), (Go.Value.int Go.IntKind.i64 0), (Go.Value.int Go.IntKind.i64 0), (Go.Value.int Go.IntKind.i64 0), (Go.Value.int Go.IntKind.i64 0), (Go.Value.int Go.IntKind.i64 0), (Go.Value.int Go.IntKind.i64 0), (Go.Value.int Go.IntKind.i64 0), (Go.Value.int Go.IntKind.i64 0), (Go.Value.int Go.IntKind.i64 0), (Go.Value.int Go.IntKind.i64 0), (Go.Value.int Go.IntKind.i64 0), (Go.Value.int Go.IntKind.i64 0), (Go.Value.int Go.IntKind.i64 0), (Go.Value.int Go.IntKind.i64 0), (Go.Value.int Go.IntKind.i64 0), (Go.Value.int Go.IntKind.i64 0), (Go.Value.int Go.IntKind.i64 0), (Go.Value.int Go.IntKind.i64 0), (Go.Value.int Go.IntKind.i64 0), (Go.Value.int Go.IntKind.i64 0), (Go.Value.int Go.IntKind.i64 0), (Go.Value.int Go.IntKind.i64 0), (Go.Value.int Go.IntKind.i64 0), (Go.Value.int Go.IntKind.i64 0), (Go.Value.int Go.IntKind.i64 0), (Go.Value.int Go.IntKind.i64 0), (Go.Value.int Go.IntKind.i64 0), (Go.Value.int Go.IntKind.i64 0), (Go.Value.int Go.IntKind.i64 0), (Go.Value.int Go.IntKind.i64 0), (Go.Value.int Go.IntKind.i64 0), (Go.Value.int Go.IntKind.i64 0), (Go.Value.int Go.IntKind.i64 0), (Go.Value.int Go.IntKind.i64 0)]⟩,
  ⟨.fn, (.sc .fn), 1, 8, [Go.Value.nilFunc]⟩,
  ⟨.fn, (.sc .fn), 1, 8, [Go.Value.nilFunc]⟩,
  ⟨.other, (.sc .any), 1, 0, [(Go.Value.tuple #[(Go.Value.slice Option.none 0 0), (Go.Value.bool Bool.false)])]⟩,
  ⟨.fn, (.sc .fn), 1, 8, [Go.Value.nilFunc]⟩,
  ⟨.fn, (.sc .fn), 1, 8, [Go.Value.nilFunc]⟩,
  ⟨.fn, (.sc .fn), 1, 8, [Go.Value.nilFunc]⟩,
  ⟨.fn, (.sc .fn), 1, 8, [Go.Value.nilFunc]⟩,
  ⟨.fn, (.sc .fn), 1, 8, [Go.Value.nilFunc]⟩,
  ⟨.fn, (.sc .fn), 1, 8, [Go.Value.nilFunc]⟩,
  ⟨.fn, (.sc .fn), 1, 8, [Go.Value.nilFunc]⟩,
  ⟨.fn, (.sc .fn), 1, 8, [Go.Value.nilFunc]⟩,
  ⟨.fn, (.sc .fn), 1, 8, [Go.Value.nilFunc]⟩,
  ⟨.fn, (.sc .fn), 1, 8, [Go.Value.nilFunc]⟩,
  ⟨.fn, (.sc .fn), 1, 8, [Go.Value.nilFunc]⟩,
  ⟨.fn, (.sc .fn), 1, 8, [Go.Value.nilFunc]⟩,
  ⟨.fn, (.sc .fn), 1, 8, [Go.Value.nilFunc]⟩,
  ⟨.fn, (.sc .fn), 1, 8, [Go.Value.nilFunc]⟩,
  ⟨.fn, (.sc .fn), 1, 8, [Go.Value.nilFunc]⟩,
  ⟨.fn, (.sc .fn), 1, 8, [Go.Value.nilFunc]⟩,
  ⟨.fn, (.sc .fn), 1, 8, [Go.Value.nilFunc]⟩,
  ⟨.fn, (.sc .fn), 1, 8, [Go.Value.nilFunc]⟩,
  ⟨.fn, (.sc .fn), 1, 8, [Go.Value.nilFunc]⟩,
  ⟨.fn, (.sc .fn), 1, 8, [Go.Value.nilFunc]⟩,
  ⟨.fn, (.sc .fn), 1, 8, [Go.Value.nilFunc]⟩,
  ⟨.fn, (.sc .fn), 1, 8, [Go.Value.nilFunc]⟩,
  ⟨.fn, (.sc .fn), 1, 8, [Go.Value.nilFunc]⟩,
  ⟨.fn, (.sc .fn), 1, 8, [Go.Value.nilFunc]⟩,
  ⟨.fn, (.sc .fn), 1, 8, [Go.Value.nilFunc]⟩,
  ⟨.fn, (.sc .fn), 1, 8, [Go.Value.nilFunc]⟩,
  ⟨.ptr 120, (.sc .ptr), 1, 8, [(Go.Value.pointer Option.none)]⟩,
  ⟨.fn, (.sc .fn), 1, 8, [Go.Value.nilFunc]⟩,
  ⟨.fn, (.sc .fn), 1, 8, [Go.Value.nilFunc]⟩,
  ⟨.fn, (.sc .fn), 1, 8, [Go.Value.nilFunc]⟩,
  ⟨.fn, (.sc .fn), 1, 8, [Go.Value.nilFunc]⟩,
  ⟨.fn, (.sc .fn), 1, 8, [Go.Value.nilFunc]⟩,
  ⟨.ptr 116, (.sc .ptr), 1, 8, [(Go.Value.pointer Option.none)]⟩,
  ⟨.int .u64, (.sc (.int .u64)), 1, 8, [(Go.Value.int Go.IntKind.u64 0)]⟩,
  ⟨.struct [(0, 114)], (.agg [(.int .u64)]), 1, 8, [(Go.Value.int Go.IntKind.u64 0)]⟩,
  ⟨.struct [(0, 114)], (.agg [(.int .u64)]), 1, 8, [(Go.Value.int Go.IntKind.u64 0)]⟩,
  ⟨.fn, (.sc .fn), 1, 8, [Go.Value.nilFunc]⟩,
  ⟨.fn, (.sc .fn), 1, 8, [Go.Value.nilFunc]⟩,
  ⟨.struct [(0, 114)], (.agg [(.int .u64)]), 1, 8, [(Go.Value.int Go.IntKind.u64 0)]⟩,
  ⟨.struct [(0, 114)], (.agg [(.int .u64)]), 1, 8, [(Go.Value.int Go.IntKind.u64 0)]⟩,
  ⟨.fn, (.sc .fn), 1, 8, [Go.Value.nilFunc]⟩,
  ⟨.fn, (.sc .fn), 1, 8, [Go.Value.nilFunc]⟩,
  ⟨.int .u16, (.sc (.int .u16)), 1, 2, [(Go.Value.int Go.IntKind.u16 0)]⟩,
  ⟨.fn, (.sc .fn), 1, 8, [Go.Value.nilFunc]⟩,
  ⟨.fn, (.sc .fn), 1, 8, [Go.Value.nilFunc]⟩,
  ⟨.fn, (.sc .fn), 1, 8, [Go.Value.nilFunc]⟩,
  ⟨.fn, (.sc .fn), 1, 8, [Go.Value.nilFunc]⟩,
  ⟨.fn, (.sc .fn), 1, 8, [Go.Value.nilFunc]⟩,
  ⟨.int .i64, (.sc (.int .i64)), 1, 8, [(Go.Value.int Go.IntKind.i64 0)]⟩,
  ⟨.other, (.sc .any), 1, 0, [(Go.Value.tuple #[(Go.Value.int Go.IntKind.i64 0), (Go.Value.int Go.IntKind.i64 0)])]⟩,
  ⟨.fn, (.sc .fn), 1, 8, [Go.Value.nilFunc]⟩,
  ⟨.fn, (.sc .fn), 1, 8, [Go.Value.nilFunc]⟩,
  ⟨.fn, (.sc .fn), 1, 8, [Go.Value.nilFunc]⟩,
  ⟨.other, (.sc .any), 1, 0, [(Go.Value.tuple #[(Go.Value.int Go.IntKind.i64 0), (Go.Value.bool Bool.false)])]⟩,
  ⟨.fn, (.sc .fn), 1, 8, [Go.Value.nilFunc]⟩,
  ⟨.int .u64, (.sc (.int .u64)), 1, 8, [(Go.Value.int Go.IntKind.u64 0)]⟩,
  ⟨.fn, (.sc .fn), 1, 8, [Go.Value.nilFunc]⟩,
  ⟨.fn, (.sc .fn), 1, 8, [Go.Value.nilFunc]⟩,
  ⟨.fn, (.sc .fn), 1, 8, [Go.Value.nilFunc]⟩,
  ⟨.ptr 3, (.sc .ptr), 1, 8, [(Go.Value.pointer Option.none)]⟩,
  ⟨.fn, (.sc .fn), 1, 8, [Go.Value.nilFunc]⟩,
  ⟨.ptr 136, (.sc .ptr), 1, 8, [(Go.Value.pointer Option.none)]⟩,
  ⟨.other, (.sc .any), 1, 0, [(Go.Value.tuple #[(Go.Value.int Go.IntKind.i64 0), (Go.Value.int Go.IntKind.i64 0)])]⟩,
  ⟨.fn, (.sc .fn), 1, 8, [Go.Value.nilFunc]⟩,
  ⟨.fn, (.sc .fn), 1, 8, [Go.Value.nilFunc]⟩,
  ⟨.struct [(0, 17), (1, 17), (2, 17), (3, 9)], (.agg [.ptr, .ptr, .ptr, .str]), 4, 40, [(Go.Value.pointer Option.none), (Go.Value.pointer Option.none), (Go.Value.pointer Option.none), (Go.Value.string (ByteArray.mk #[]))]⟩,
  ⟨.struct [(0, 17), (1, 17), (2, 17), (3, 9)], (.agg [.ptr, .ptr, .ptr, .str]), 4, 40, [(Go.Value.pointer Option.none), (Go.Value.pointer Option.none), (Go.Value.pointer Option.none), (Go.Value.string (ByteArray.mk #[]))]⟩,
  ⟨.array 0 16, (.arr .ptr), 0, 0, []⟩,
  ⟨.struct [(0, 148)], (.agg []), 0, 0, []⟩,
  ⟨.struct [(0, 148)], (.agg []), 0, 0, []⟩,
  ⟨.int .u8, (.sc (.int .u8)), 1, 1, [(Go.Value.int Go.IntKind.u8 0)]⟩,
  ⟨.int .u8, (.sc (.int .u8)), 1, 1, [(Go.Value.int Go.IntKind.u8 0)]⟩,
  ⟨.fn, (.sc .fn), 1, 8, [Go.Value.nilFunc]⟩,
  ⟨.ptr 5, (.sc .ptr), 1, 8, [(Go.Value.pointer Option.none)]⟩,
  ⟨.int .i32, (.sc (.int .i32)), 1, 4, [(Go.Value.int Go.IntKind.i32 0)]⟩,
  ⟨.int .i32, (.sc (.int .i32)), 1, 4, [(Go.Value.int Go.IntKind.i32 0)]⟩,
  ⟨.struct [(0, 12), (1, 12), (2, 32), (3, 151), (4, 5), (5, 5), (6, 152), (7, 153), (8, 154), (9, 155), (10, 156)], (.agg [(.int .u64), (.int .u64), (.int .u32), (.int .u8), (.int .u8), (.int .u8), (.int .u8), .fn, .ptr, (.int .i32), (.int .i32)]), 11, 48, [(Go.Value.int Go.IntKind.u64 0), (Go.Value.int Go.IntKind.u64 0), (Go.Value.int Go.IntKind.u32 0), (Go.Value.int Go.IntKind.u8 0), (Go.Value.int Go.IntKind.u8 0), (Go.Value.int Go.IntKind.u8 0), (Go.Value.int Go.IntKind.u8 0), Go.Value.nilFunc, (Go.Value.pointer Option.none), (Go.Value.int Go.IntKind.i32 0), (Go.Value.int Go.IntKind.i32 0)]⟩,
  ⟨.struct [(0, 12), (1, 12), (2, 32), (3, 151), (4, 5), (5, 5), (6, 152), (7, 153), (8, 154), (9, 155), (10, 156)], (.agg [(.int .u64), (.int .u64), (.int .u32), (.int .u8), (.int .u8), (.int .u8), (.int .u8), .fn, .ptr, (.int .i32), (.int .i32)]), 11, 48, [(Go.Value.int Go.IntKind.u64 0), (Go.Value.int Go.IntKind.u64 0), (Go.Value.int Go.IntKind.u32 0), (Go.Value.int Go.IntKind.u8 0), (Go.Value.int Go.IntKind.u8 0), (Go.Value.int Go.IntKind.u8 0), (Go.Value.int Go.IntKind.u8 0), Go.Value.nilFunc, (Go.Value.pointer Option.none), (Go.Value.int Go.IntKind.i32 0), (Go.Value.int Go.IntKind.i32 0)]⟩,
  ⟨.other, (.sc .any), 1, 8, [(Go.Value.pointer Option.none)]⟩]
noncomputable def C : Ctx := { P := Tryz.prog, T := tbl, tup := [(0, []), (37, [(.sc .slc), (.sc .bool), (.sc (.int .i64))]), (49, [(.sc .slc), (.sc (.int .i64))]), (80, [(.sc .slc), (.sc .bool)]), (130, [(.sc (.int .i64)), (.sc (.int .i64))]), (134, [(.sc (.int .i64)), (.sc .bool)]), (143, [(.sc (.int .i64)), (.sc (.int .i64))])], fns := [false, false, true, true, true, true, true, true, true, true, true, true, true, true, true, true, true, true, true, true, true, true, true, true, true, true, true, true, true, true, true, true, true, true, true, true, true, true, true, true, true, true, true, true, true, true, true, true, true, true, true, true, true, true, true, true, true, true, true, true, true, true, true, true, true, true, true, true, true, true, true, true, true, true, true, true, true, true, true, true, true, true, true, true, true, true, true, true, true, true, true, true, true, true, true, true, true, true, true, true, true, true, true, true, true, true, true, true, true, true, true, true, true, true, true, true, true, true, true, true, true, true, true, true, true, true, true, true, false, false, false, false, false, false, false, false, false, false, false, false, false, false, false, false] }
theorem C_tbl : (List.range C.T.length).map (Tbl.seen C.P) = C.T.map Tbl.told := by kernel_rfl
theorem C_mixed : C.P.follows .mixedOrders = true := by kernel_rfl
theorem C_fns : (C.P.funcs.toList.map fun f => !(f.name == "runtime.NumGoroutine") && f.body.isSome) = C.fns := by kernel_rfl
theorem C_ok : C.Ok := { tbl := C_tbl, mixed := C_mixed, fns := C_fns }
abbrev slices_Sort_int_int_id : FuncId := 104
abbrev math_bits_Len_id : FuncId := 108
abbrev slices_pdqsortOrdered_int_id : FuncId := 109
abbrev math_bits_Len32_id : FuncId := 110
abbrev math_bits_Len64_id : FuncId := 111
abbrev slices_insertionSortOrdered_int_id : FuncId := 112
abbrev slices_heapSortOrdered_int_id : FuncId := 113
abbrev slices_breakPatternsOrdered_int_id : FuncId := 114
abbrev slices_choosePivotOrdered_int_id : FuncId := 115
abbrev slices_reverseRangeOrdered_int_id : FuncId := 116
abbrev slices_partialInsertionSortOrdered_int_id : FuncId := 117
abbrev cmp_Less_int_id : FuncId := 118
abbrev slices_partitionEqualOrdered_int_id : FuncId := 119
abbrev slices_partitionOrdered_int_id : FuncId := 120
abbrev slices_siftDownOrdered_int_id : FuncId := 121
abbrev slices_nextPowerOfTwo_id : FuncId := 122
abbrev slices_xorshift_Next_id : FuncId := 123
abbrev slices_medianAdjacentOrdered_int_id : FuncId := 124
abbrev slices_medianOrdered_int_id : FuncId := 125
abbrev cmp_isNaN_int_id : FuncId := 126
abbrev slices_order2Ordered_int_id : FuncId := 127
/-- wellspring/wellspringlaw27.MarginTells -/
abbrev wellspringlaw27_MarginTells_id : FuncId := 3
noncomputable def wellspringlaw27_MarginTells_m (p_0 : Int × Int × Int) (a_1 : Int) (b_2 : Int) (c_3 : Int) (seed_4 : Int) (l_5 : Sl) (n_6 : Int) (t_7 : Int) (gone_8 : Sl) (R : Value → Heap → Prop) (h : Heap) : Prop :=
  RunsA Tryz.prog (Instr.box 23 (.agg #[(.int .i64 p_0.1), (.int .i64 p_0.2.1), (.int .i64 p_0.2.2)])) h fun a1 h1 =>
  CallM Tryz.prog 5 #[(.int .i64 n_6), (.int .i64 (6 : Int))] (.one (.sc (.int .i64))) h1 fun r2 h2 =>
  CallM Tryz.prog 4 #[(.slice l_5.ptr l_5.len l_5.cap), (.int .i64 (IntKind.wrap .i64 ((1 : Int) + r2)))] (.one (.sc .slc)) h2 fun r3 h3 =>
  CallM Tryz.prog 6 #[(.slice gone_8.ptr gone_8.len gone_8.cap), (.int .i64 (8 : Int))] (.one (.sc .slc)) h3 fun r4 h4 =>
  CallM Tryz.prog 5 #[(.int .i64 t_7), (.int .i64 (5 : Int))] (.one (.sc (.int .i64))) h4 fun r5 h5 =>
  JoinM (σ := Unit) (fun _ h34 =>
  CallM Tryz.prog 16 #[] (.one (.sc .bool)) h34 fun r46 h35 =>
  R (.bool r46) h35)
  (fun K1 =>
  JoinM (σ := Sl × Int × Int) (fun s9 h8 =>
  LoopM (σ := Int) (fun s10 K3 h9 =>
  Br (decide (s10 < s9.2.1))
  (∃ a11 : Addr, (s9.1.ptr = some a11 ∧ 0 ≤ s10 ∧ s10 < ((s9.1.len : Nat) : Int)) ∧
  ∃ x12 : Int × Int × Int, cellsAt h9 (a11.add (s10.toNat * 3)) 0 [(.int .i64 x12.1), (.int .i64 x12.2.1), (.int .i64 x12.2.2)] ∧
  RunsA Tryz.prog (Instr.alloc 23 true (.tuple #[])) h9 fun a13 h10 =>
  Runs Tryz.prog (Instr.storeAt 23 (.pointer (some a13)) (.agg #[(.int .i64 x12.1), (.int .i64 x12.2.1), (.int .i64 x12.2.2)])) h10 fun _ h11 =>
  ∃ x14 : Int × Int × Int, cellsAt h11 a13 0 [(.int .i64 x14.1), (.int .i64 x14.2.1), (.int .i64 x14.2.2)] ∧
  CallM Tryz.prog 8 #[(.agg #[(.int .i64 x14.1), (.int .i64 x14.2.1), (.int .i64 x14.2.2)]), (.int .u64 seed_4)] (.one (.sc (.int .u32))) h11 fun r15 h12 =>
  CallM Tryz.prog 9 #[(.slice r3.ptr r3.len r3.cap)] (.one (.sc .slc)) h12 fun r16 h13 =>
  JoinM (σ := Unit) (fun _ h27 =>
  RunsR Tryz.prog (Instr.buildSlice 25 2 #[(0, (.int .i64 t_7)), (1, (.int .i64 (IntKind.wrap .i64 (r5 - (1 : Int)))))]) (.one (.sc .slc)) h27 fun v35 h28 =>
  LoopM (σ := Int) (fun s36 K5 h29 =>
  Br (decide (s36 < ((v35.len : Nat) : Int)))
  (∃ a37 : Addr, (v35.ptr = some a37 ∧ 0 ≤ s36 ∧ s36 < ((v35.len : Nat) : Int)) ∧
  ∃ x38 : Int, cellOf h29 (a37.add (s36.toNat * 1)) = some (.int .i64 x38) ∧
  ∃ x39 : Int × Int × Int, cellsAt h29 a13 0 [(.int .i64 x39.1), (.int .i64 x39.2.1), (.int .i64 x39.2.2)] ∧
  CallM Tryz.prog 12 #[(.agg #[(.int .i64 x39.1), (.int .i64 x39.2.1), (.int .i64 x39.2.2)]), (.int .u32 r15), (.slice r16.ptr r16.len r16.cap), (.int .i64 x38)] (.many [(.sc .slc), (.sc .bool), (.sc (.int .i64))]) h29 fun r40 h30 =>
  ∃ x41 : Int × Int × Int, cellsAt h30 a13 0 [(.int .i64 x41.1), (.int .i64 x41.2.1), (.int .i64 x41.2.2)] ∧
  CallM Tryz.prog 13 #[(.agg #[(.int .i64 x41.1), (.int .i64 x41.2.1), (.int .i64 x41.2.2)]), (.int .u32 r15), (.slice r3.ptr r3.len r3.cap), (.int .i64 x38)] (.many [(.sc .slc), (.sc .bool), (.sc (.int .i64))]) h30 fun r42 h31 =>
  Br (r40.2.2 != r42.2.2) (R (.bool false) h31) (Br (!(r40.2.1 == r42.2.1)) (R (.bool false) h31) (CallM Tryz.prog 14 #[(.slice r40.1.ptr r40.1.len r40.1.cap), (.slice r42.1.ptr r42.1.len r42.1.cap)] (.one (.sc .bool)) h31 fun r43 h32 =>
  Br (!r43)
  (R (.bool false) h32)
  (K5 (IntKind.wrap .i64 (s36 + (1 : Int))) h32))))
  (CallM Tryz.prog 15 #[(.slice r16.ptr r16.len r16.cap), (.slice r3.ptr r3.len r3.cap)] (.one (.sc .bool)) h29 fun r44 h33 =>
  Br (!r44)
  (R (.bool false) h33)
  (K3 (IntKind.wrap .i64 (s10 + (1 : Int))) h33))) (0 : Int) h28)
  (fun K4 =>
  ∃ x17 : Int × Int × Int, cellsAt h13 a13 0 [(.int .i64 x17.1), (.int .i64 x17.2.1), (.int .i64 x17.2.2)] ∧
  ∃ x18 : Int × Int × Int, cellsAt h13 a13 0 [(.int .i64 x18.1), (.int .i64 x18.2.1), (.int .i64 x18.2.2)] ∧
  CallM Tryz.prog 10 #[(.agg #[(.int .i64 x17.1), (.int .i64 x17.2.1), (.int .i64 x17.2.2)]), (.int .u32 r15), (.slice r16.ptr r16.len r16.cap), (.slice r4.ptr r4.len r4.cap)] (.one (.sc (.int .i64))) h13 fun r19 h14 =>
  (Held.ok [(a13, (.int .i64 x18.1)), (a13.add 1, (.int .i64 x18.2.1)), (a13.add 2, (.int .i64 x18.2.2))] h14) ∧
  CallM Tryz.prog 11 #[(.agg #[(.int .i64 x18.1), (.int .i64 x18.2.1), (.int .i64 x18.2.2)]), (.int .u32 r15), (.slice r3.ptr r3.len r3.cap), (.slice r4.ptr r4.len r4.cap)] (.one (.sc (.int .i64))) h14 fun r20 h15 =>
  (Held.ok [] h15) ∧
  Br (r19 != r20) (((Held.ok [] h15) ∧
  ((Held.ok [] h15) ∧
  (Held.ok [] h15) ∧
  (Held.ok [] h15) ∧
  R (.bool false) h15) ∧ ((Held.ok [] h15) ∧
  (Held.ok [] h15) ∧
  (Held.ok [] h15) ∧
  R (.bool false) h15)) ∧ ((Held.ok [] h15) ∧
  (Held.ok [] h15) ∧
  (Held.ok [] h15) ∧
  (Held.ok [] h15) ∧
  R (.bool false) h15)) (∃ x21 : Int × Int × Int, cellsAt h15 a13 0 [(.int .i64 x21.1), (.int .i64 x21.2.1), (.int .i64 x21.2.2)] ∧
  ∃ x22 : Int × Int × Int, cellsAt h15 a13 0 [(.int .i64 x22.1), (.int .i64 x22.2.1), (.int .i64 x22.2.2)] ∧
  (RunsR Tryz.prog (Instr.buildSlice 25 2 #[(0, (.int .i64 (IntKind.wrap .i64 (r5 - (1 : Int))))), (1, (.int .i64 (0 : Int)))]) (.one (.sc .slc)) h15 fun v23 h16 =>
  (Held.ok [(a13, (.int .i64 x22.1)), (a13.add 1, (.int .i64 x22.2.1)), (a13.add 2, (.int .i64 x22.2.2)), (a13, (.int .i64 x21.1)), (a13.add 1, (.int .i64 x21.2.1)), (a13.add 2, (.int .i64 x21.2.2))] h16) ∧
  (CallM Tryz.prog 10 #[(.agg #[(.int .i64 x21.1), (.int .i64 x21.2.1), (.int .i64 x21.2.2)]), (.int .u32 r15), (.slice r16.ptr r16.len r16.cap), (.slice v23.ptr v23.len v23.cap)] (.one (.sc (.int .i64))) h16 fun r24 h17 =>
  (Held.ok [(a13, (.int .i64 x22.1)), (a13.add 1, (.int .i64 x22.2.1)), (a13.add 2, (.int .i64 x22.2.2))] h17) ∧
  RunsR Tryz.prog (Instr.buildSlice 25 2 #[(0, (.int .i64 (IntKind.wrap .i64 (r5 - (1 : Int))))), (1, (.int .i64 (0 : Int)))]) (.one (.sc .slc)) h17 fun v25 h18 =>
  (Held.ok [(a13, (.int .i64 x22.1)), (a13.add 1, (.int .i64 x22.2.1)), (a13.add 2, (.int .i64 x22.2.2))] h18) ∧
  CallM Tryz.prog 11 #[(.agg #[(.int .i64 x22.1), (.int .i64 x22.2.1), (.int .i64 x22.2.2)]), (.int .u32 r15), (.slice r3.ptr r3.len r3.cap), (.slice v25.ptr v25.len v25.cap)] (.one (.sc (.int .i64))) h18 fun r26 h19 =>
  (Held.ok [] h19) ∧
  Br (r24 != r26)
  (R (.bool false) h19)
  (K4 () h19)) ∧ (RunsR Tryz.prog (Instr.buildSlice 25 2 #[(0, (.int .i64 (IntKind.wrap .i64 (r5 - (1 : Int))))), (1, (.int .i64 (0 : Int)))]) (.one (.sc .slc)) h16 fun v27 h20 =>
  (Held.ok [(a13, (.int .i64 x22.1)), (a13.add 1, (.int .i64 x22.2.1)), (a13.add 2, (.int .i64 x22.2.2)), (a13, (.int .i64 x21.1)), (a13.add 1, (.int .i64 x21.2.1)), (a13.add 2, (.int .i64 x21.2.2))] h20) ∧
  CallM Tryz.prog 10 #[(.agg #[(.int .i64 x21.1), (.int .i64 x21.2.1), (.int .i64 x21.2.2)]), (.int .u32 r15), (.slice r16.ptr r16.len r16.cap), (.slice v23.ptr v23.len v23.cap)] (.one (.sc (.int .i64))) h20 fun r28 h21 =>
  (Held.ok [(a13, (.int .i64 x22.1)), (a13.add 1, (.int .i64 x22.2.1)), (a13.add 2, (.int .i64 x22.2.2))] h21) ∧
  CallM Tryz.prog 11 #[(.agg #[(.int .i64 x22.1), (.int .i64 x22.2.1), (.int .i64 x22.2.2)]), (.int .u32 r15), (.slice r3.ptr r3.len r3.cap), (.slice v27.ptr v27.len v27.cap)] (.one (.sc (.int .i64))) h21 fun r29 h22 =>
  (Held.ok [] h22) ∧
  Br (r28 != r29)
  (R (.bool false) h22)
  (K4 () h22))) ∧ (RunsR Tryz.prog (Instr.buildSlice 25 2 #[(0, (.int .i64 (IntKind.wrap .i64 (r5 - (1 : Int))))), (1, (.int .i64 (0 : Int)))]) (.one (.sc .slc)) h15 fun v30 h23 =>
  (Held.ok [(a13, (.int .i64 x22.1)), (a13.add 1, (.int .i64 x22.2.1)), (a13.add 2, (.int .i64 x22.2.2)), (a13, (.int .i64 x21.1)), (a13.add 1, (.int .i64 x21.2.1)), (a13.add 2, (.int .i64 x21.2.2))] h23) ∧
  RunsR Tryz.prog (Instr.buildSlice 25 2 #[(0, (.int .i64 (IntKind.wrap .i64 (r5 - (1 : Int))))), (1, (.int .i64 (0 : Int)))]) (.one (.sc .slc)) h23 fun v31 h24 =>
  (Held.ok [(a13, (.int .i64 x22.1)), (a13.add 1, (.int .i64 x22.2.1)), (a13.add 2, (.int .i64 x22.2.2)), (a13, (.int .i64 x21.1)), (a13.add 1, (.int .i64 x21.2.1)), (a13.add 2, (.int .i64 x21.2.2))] h24) ∧
  CallM Tryz.prog 10 #[(.agg #[(.int .i64 x21.1), (.int .i64 x21.2.1), (.int .i64 x21.2.2)]), (.int .u32 r15), (.slice r16.ptr r16.len r16.cap), (.slice v31.ptr v31.len v31.cap)] (.one (.sc (.int .i64))) h24 fun r32 h25 =>
  (Held.ok [(a13, (.int .i64 x22.1)), (a13.add 1, (.int .i64 x22.2.1)), (a13.add 2, (.int .i64 x22.2.2))] h25) ∧
  CallM Tryz.prog 11 #[(.agg #[(.int .i64 x22.1), (.int .i64 x22.2.1), (.int .i64 x22.2.2)]), (.int .u32 r15), (.slice r3.ptr r3.len r3.cap), (.slice v30.ptr v30.len v30.cap)] (.one (.sc (.int .i64))) h25 fun r33 h26 =>
  (Held.ok [] h26) ∧
  Br (r32 != r33)
  (R (.bool false) h26)
  (K4 () h26)))))
  (K1 () h9)) s9.2.2 h8)
  (fun K2 =>
  ∃ x6 : Int × Int × Int, cellsAt h5 a1 0 [(.int .i64 x6.1), (.int .i64 x6.2.1), (.int .i64 x6.2.2)] ∧
  CallM Tryz.prog 7 #[(.int .i64 a_1), (.int .i64 b_2), (.int .i64 c_3)] (.one (.agg [(.int .i64), (.int .i64), (.int .i64)])) h5 fun r7 h6 =>
  (Held.ok [(a1, (.int .i64 x6.1)), (a1.add 1, (.int .i64 x6.2.1)), (a1.add 2, (.int .i64 x6.2.2))] h6) ∧
  RunsR Tryz.prog (Instr.buildSlice 31 2 #[(0, (.agg #[(.int .i64 x6.1), (.int .i64 x6.2.1), (.int .i64 x6.2.2)])), (1, (.agg #[(.int .i64 r7.1), (.int .i64 r7.2.1), (.int .i64 r7.2.2)]))]) (.one (.sc .slc)) h6 fun v8 h7 =>
  (Held.ok [] h7) ∧
  K2 ((⟨v8.ptr, v8.len, v8.cap⟩ : Sl), ((v8.len : Nat) : Int), (0 : Int)) h7))
noncomputable def wellspringlaw27_MarginTells_ann : Ann := (.two .n (.two .n (.two .n (.two .n (.two (.join [] [(18, 19), (22, 25), (26, 33), (43, 131)] (.two (.join [(48, (.sc .slc)), (49, (.sc (.int .i64))), (50, (.sc (.int .i64)))] [(43, 51)] .n) (.inn (.loop [(50, (.sc (.int .i64)))] [(18, 19), (22, 25), (26, 33), (50, 131)] (.two .n (.two .n (.two (.inn (.two .n (.two .n (.two .n (.two (.join [] [(18, 19), (59, 85)] .n) (.two (.two .n (.inn (.loop [(89, (.sc (.int .i64)))] [(18, 19), (26, 33), (89, 126)] .n))) .n)))))) .n))))))) .n)))))
theorem wellspringlaw27_MarginTells_eq (p_0 : Int × Int × Int) (a_1 : Int) (b_2 : Int) (c_3 : Int) (seed_4 : Int) (l_5 : Sl) (n_6 : Int) (t_7 : Int) (gone_8 : Sl) (R : Value → Heap → Prop) (h : Heap) : fnV C Tryz.f3 300 wellspringlaw27_MarginTells_ann [(.agg #[(.int .i64 p_0.1), (.int .i64 p_0.2.1), (.int .i64 p_0.2.2)]), (.int .i64 a_1), (.int .i64 b_2), (.int .i64 c_3), (.int .u64 seed_4), (.slice l_5.ptr l_5.len l_5.cap), (.int .i64 n_6), (.int .i64 t_7), (.slice gone_8.ptr gone_8.len gone_8.cap)] R h = wellspringlaw27_MarginTells_m p_0 a_1 b_2 c_3 seed_4 l_5 n_6 t_7 gone_8 R h := by kernel_rfl
theorem wellspringlaw27_MarginTells_run (p_0 : Int × Int × Int) (a_1 : Int) (b_2 : Int) (c_3 : Int) (seed_4 : Int) (l_5 : Sl) (n_6 : Int) (t_7 : Int) (gone_8 : Sl) {R : Value → Heap → Prop} {h : Heap} (hm : wellspringlaw27_MarginTells_m p_0 a_1 b_2 c_3 seed_4 l_5 n_6 t_7 gone_8 R h) : Meets Tryz.prog 3 #[(.agg #[(.int .i64 p_0.1), (.int .i64 p_0.2.1), (.int .i64 p_0.2.2)]), (.int .i64 a_1), (.int .i64 b_2), (.int .i64 c_3), (.int .u64 seed_4), (.slice l_5.ptr l_5.len l_5.cap), (.int .i64 n_6), (.int .i64 t_7), (.slice gone_8.ptr gone_8.len gone_8.cap)] h R :=
  fn_spec C_ok (f := 3) (fn := Tryz.f3) (args := [(.agg #[(.int .i64 p_0.1), (.int .i64 p_0.2.1), (.int .i64 p_0.2.2)]), (.int .i64 a_1), (.int .i64 b_2), (.int .i64 c_3), (.int .u64 seed_4), (.slice l_5.ptr l_5.len l_5.cap), (.int .i64 n_6), (.int .i64 t_7), (.slice gone_8.ptr gone_8.len gone_8.cap)]) Tryz.func3 (by rw [Tryz.ntmps3]; exact Nat.le_of_ble_eq_true rfl) (cast (wellspringlaw27_MarginTells_eq p_0 a_1 b_2 c_3 seed_4 l_5 n_6 t_7 gone_8 R h).symm hm)
/-- wellspring/wellspringlaw27.Where -/
abbrev wellspringlaw27_Where_id : FuncId := 4
noncomputable def wellspringlaw27_Where_m (l_0 : Sl) (n_1 : Int) (R : Value → Heap → Prop) (h : Heap) : Prop :=
  RunsR Tryz.prog (Instr.makeSlice 26 (.int .i64 n_1) (.int .i64 n_1)) (.one (.sc .slc)) h fun v1 h1 =>
  CallM Tryz.prog 17 #[(.slice l_0.ptr l_0.len l_0.cap), (.int .i64 (40 : Int))] (.one (.sc .slc)) h1 fun r2 h2 =>
  LoopM (σ := Int) (fun s3 K1 h3 =>
  Br (decide (s3 < ((r2.len : Nat) : Int)))
  (∃ a4 : Addr, (l_0.ptr = some a4 ∧ 0 ≤ s3 ∧ s3 < ((l_0.len : Nat) : Int)) ∧
  ∃ x5 : Int, cellOf h3 (a4.add (s3.toNat * 1)) = some (.int .i64 x5) ∧
  ((3 : Int) ≠ 0) ∧
  CallM Tryz.prog 5 #[(.int .i64 (IntKind.wrap .i64 (Int.tdiv x5 (3 : Int)))), (.int .i64 n_1)] (.one (.sc (.int .i64))) h3 fun r6 h4 =>
  ∃ a7 : Addr, (v1.ptr = some a7 ∧ 0 ≤ r6 ∧ r6 < ((v1.len : Nat) : Int)) ∧
  ∃ x8 : Sl, cellOf h4 (a7.add (r6.toNat * 1)) = some (.slice x8.ptr x8.len x8.cap) ∧
  ∃ a9 : Addr, (r2.ptr = some a9 ∧ 0 ≤ s3 ∧ s3 < ((r2.len : Nat) : Int)) ∧
  ∃ x10 : Int, cellOf h4 (a9.add (s3.toNat * 1)) = some (.int .i64 x10) ∧
  RunsR Tryz.prog (Instr.buildSlice 25 1 #[(0, (.int .i64 x10))]) (.one (.sc .slc)) h4 fun v11 h5 =>
  (Held.ok [(a7.add (r6.toNat * 1), (.slice x8.ptr x8.len x8.cap))] h5) ∧
  RunsR Tryz.prog (Builtin.append_ #[25, 25] 25 #[(.slice x8.ptr x8.len x8.cap), (.slice v11.ptr v11.len v11.cap)]) (.one (.sc .slc)) h5 fun v12 h6 =>
  (Held.ok [] h6) ∧
  ∃ a13 : Addr, (v1.ptr = some a13 ∧ 0 ≤ r6 ∧ r6 < ((v1.len : Nat) : Int)) ∧
  Runs Tryz.prog (Instr.storeAt 25 (.pointer (some (a13.add (r6.toNat * 1)))) (.slice v12.ptr v12.len v12.cap)) h6 fun _ h7 =>
  (Held.ok [] h7) ∧
  K1 (IntKind.wrap .i64 (s3 + (1 : Int))) h7)
  (R (.slice v1.ptr v1.len v1.cap) h3)) (0 : Int) h2
noncomputable def wellspringlaw27_Where_ann : Ann := (.two .n (.two .n (.two .n (.two (.two .n (.inn (.loop [(15, (.sc (.int .i64)))] [(7, 9), (15, 39)] .n))) .n))))
theorem wellspringlaw27_Where_eq (l_0 : Sl) (n_1 : Int) (R : Value → Heap → Prop) (h : Heap) : fnV C Tryz.f4 300 wellspringlaw27_Where_ann [(.slice l_0.ptr l_0.len l_0.cap), (.int .i64 n_1)] R h = wellspringlaw27_Where_m l_0 n_1 R h := by kernel_rfl
theorem wellspringlaw27_Where_run (l_0 : Sl) (n_1 : Int) {R : Value → Heap → Prop} {h : Heap} (hm : wellspringlaw27_Where_m l_0 n_1 R h) : Meets Tryz.prog 4 #[(.slice l_0.ptr l_0.len l_0.cap), (.int .i64 n_1)] h R :=
  fn_spec C_ok (f := 4) (fn := Tryz.f4) (args := [(.slice l_0.ptr l_0.len l_0.cap), (.int .i64 n_1)]) Tryz.func4 (by rw [Tryz.ntmps4]; exact Nat.le_of_ble_eq_true rfl) (cast (wellspringlaw27_Where_eq l_0 n_1 R h).symm hm)
/-- wellspring/wellspringkeep.Within -/
abbrev wellspringkeep_Within_id : FuncId := 5
noncomputable def wellspringkeep_Within_m (x_0 : Int) (n_1 : Int) (R : Value → Heap → Prop) (h : Heap) : Prop :=
  (n_1 ≠ 0) ∧
  JoinM (σ := Int) (fun s1 h1 =>
  R (.int .i64 s1) h1)
  (fun K1 =>
  Br (decide ((Int.tmod x_0 n_1) < (0 : Int)))
  (K1 (IntKind.wrap .i64 ((Int.tmod x_0 n_1) + n_1)) h)
  (K1 (Int.tmod x_0 n_1) h))
noncomputable def wellspringkeep_Within_ann : Ann := (.two .n (.two .n (.two (.join [(0, (.sc (.int .i64)))] [(0, 1), (8, 13)] .n) .n)))
theorem wellspringkeep_Within_eq (x_0 : Int) (n_1 : Int) (R : Value → Heap → Prop) (h : Heap) : fnV C Tryz.f5 300 wellspringkeep_Within_ann [(.int .i64 x_0), (.int .i64 n_1)] R h = wellspringkeep_Within_m x_0 n_1 R h := by kernel_rfl
theorem wellspringkeep_Within_run (x_0 : Int) (n_1 : Int) {R : Value → Heap → Prop} {h : Heap} (hm : wellspringkeep_Within_m x_0 n_1 R h) : Meets Tryz.prog 5 #[(.int .i64 x_0), (.int .i64 n_1)] h R :=
  fn_spec C_ok (f := 5) (fn := Tryz.f5) (args := [(.int .i64 x_0), (.int .i64 n_1)]) Tryz.func5 (by rw [Tryz.ntmps5]; exact Nat.le_of_ble_eq_true rfl) (cast (wellspringkeep_Within_eq x_0 n_1 R h).symm hm)
/-- wellspring/wellspringkeep.Cut[int] -/
abbrev wellspringkeep_Cut_int_id : FuncId := 6
noncomputable def wellspringkeep_Cut_int_m (l_0 : Sl) (n_1 : Int) (R : Value → Heap → Prop) (h : Heap) : Prop :=
  (0 ≤ (if n_1 < ((l_0.len : Nat) : Int) then n_1 else ((l_0.len : Nat) : Int)) ∧ (if n_1 < ((l_0.len : Nat) : Int) then n_1 else ((l_0.len : Nat) : Int)) ≤ ((l_0.cap : Nat) : Int)) ∧
  R (.slice l_0.ptr ((if n_1 < ((l_0.len : Nat) : Int) then n_1 else ((l_0.len : Nat) : Int)).toNat) l_0.cap) h
noncomputable def wellspringkeep_Cut_int_ann : Ann := .n
theorem wellspringkeep_Cut_int_eq (l_0 : Sl) (n_1 : Int) (R : Value → Heap → Prop) (h : Heap) : fnV C Tryz.f6 300 wellspringkeep_Cut_int_ann [(.slice l_0.ptr l_0.len l_0.cap), (.int .i64 n_1)] R h = wellspringkeep_Cut_int_m l_0 n_1 R h := by kernel_rfl
theorem wellspringkeep_Cut_int_run (l_0 : Sl) (n_1 : Int) {R : Value → Heap → Prop} {h : Heap} (hm : wellspringkeep_Cut_int_m l_0 n_1 R h) : Meets Tryz.prog 6 #[(.slice l_0.ptr l_0.len l_0.cap), (.int .i64 n_1)] h R :=
  fn_spec C_ok (f := 6) (fn := Tryz.f6) (args := [(.slice l_0.ptr l_0.len l_0.cap), (.int .i64 n_1)]) Tryz.func6 (by rw [Tryz.ntmps6]; exact Nat.le_of_ble_eq_true rfl) (cast (wellspringkeep_Cut_int_eq l_0 n_1 R h).symm hm)
/-- wellspring/wellspringplay.Small -/
abbrev wellspringplay_Small_id : FuncId := 7
noncomputable def wellspringplay_Small_m (a_0 : Int) (b_1 : Int) (c_2 : Int) (R : Value → Heap → Prop) (h : Heap) : Prop :=
  RunsA Tryz.prog (Instr.alloc 23 true (.tuple #[])) h fun a1 h1 =>
  CallM Tryz.prog 5 #[(.int .i64 a_0), (.int .i64 (6 : Int))] (.one (.sc (.int .i64))) h1 fun r2 h2 =>
  CallM Tryz.prog 5 #[(.int .i64 b_1), (.int .i64 (3 : Int))] (.one (.sc (.int .i64))) h2 fun r3 h3 =>
  CallM Tryz.prog 5 #[(.int .i64 c_2), (.int .i64 (9 : Int))] (.one (.sc (.int .i64))) h3 fun r4 h4 =>
  Runs Tryz.prog (Instr.storeAt 23 (.pointer (some a1)) (.agg #[(.int .i64 (IntKind.wrap .i64 ((1 : Int) + r2))), (.int .i64 (IntKind.wrap .i64 ((1 : Int) + r3))), (.int .i64 (IntKind.wrap .i64 ((1 : Int) + r4)))])) h4 fun _ h5 =>
  ∃ res5 : Int × Int × Int, cellsAt h5 a1 0 [(.int .i64 res5.1), (.int .i64 res5.2.1), (.int .i64 res5.2.2)] ∧
  R (.agg #[(.int .i64 res5.1), (.int .i64 res5.2.1), (.int .i64 res5.2.2)]) h5
noncomputable def wellspringplay_Small_ann : Ann := .n
theorem wellspringplay_Small_eq (a_0 : Int) (b_1 : Int) (c_2 : Int) (R : Value → Heap → Prop) (h : Heap) : fnV C Tryz.f7 300 wellspringplay_Small_ann [(.int .i64 a_0), (.int .i64 b_1), (.int .i64 c_2)] R h = wellspringplay_Small_m a_0 b_1 c_2 R h := by kernel_rfl
theorem wellspringplay_Small_run (a_0 : Int) (b_1 : Int) (c_2 : Int) {R : Value → Heap → Prop} {h : Heap} (hm : wellspringplay_Small_m a_0 b_1 c_2 R h) : Meets Tryz.prog 7 #[(.int .i64 a_0), (.int .i64 b_1), (.int .i64 c_2)] h R :=
  fn_spec C_ok (f := 7) (fn := Tryz.f7) (args := [(.int .i64 a_0), (.int .i64 b_1), (.int .i64 c_2)]) Tryz.func7 (by rw [Tryz.ntmps7]; exact Nat.le_of_ble_eq_true rfl) (cast (wellspringplay_Small_eq a_0 b_1 c_2 R h).symm hm)
/-- wellspring/wellspringlaw11.Seed -/
abbrev wellspringlaw11_Seed_id : FuncId := 8
noncomputable def wellspringlaw11_Seed_m (p_0 : Int × Int × Int) (seed_1 : Int) (R : Value → Heap → Prop) (h : Heap) : Prop :=
  RunsA Tryz.prog (Instr.box 23 (.agg #[(.int .i64 p_0.1), (.int .i64 p_0.2.1), (.int .i64 p_0.2.2)])) h fun a1 h1 =>
  LoopM (σ := Int) (fun s2 K1 h2 =>
  Br (s2 != (IntKind.wrap .u32 ((IntKind.wrap .u32 seed_1) + (24 : Int))))
  (∃ x3 : Int × Int × Int, cellsAt h2 a1 0 [(.int .i64 x3.1), (.int .i64 x3.2.1), (.int .i64 x3.2.2)] ∧
  CallM Tryz.prog 18 #[(.agg #[(.int .i64 x3.1), (.int .i64 x3.2.1), (.int .i64 x3.2.2)]), (.int .u32 s2)] (.one (.sc .bool)) h2 fun r4 h3 =>
  Br r4
  (R (.int .u32 s2) h3)
  (K1 (IntKind.wrap .u32 (s2 + (1 : Int))) h3))
  (R (.int .u32 (IntKind.wrap .u32 seed_1)) h2)) (IntKind.wrap .u32 seed_1) h1
noncomputable def wellspringlaw11_Seed_ann : Ann := (.two .n (.two (.two .n (.inn (.loop [(5, (.sc (.int .u32)))] [(4, 6), (8, 19)] .n))) .n))
theorem wellspringlaw11_Seed_eq (p_0 : Int × Int × Int) (seed_1 : Int) (R : Value → Heap → Prop) (h : Heap) : fnV C Tryz.f8 300 wellspringlaw11_Seed_ann [(.agg #[(.int .i64 p_0.1), (.int .i64 p_0.2.1), (.int .i64 p_0.2.2)]), (.int .u64 seed_1)] R h = wellspringlaw11_Seed_m p_0 seed_1 R h := by kernel_rfl
theorem wellspringlaw11_Seed_run (p_0 : Int × Int × Int) (seed_1 : Int) {R : Value → Heap → Prop} {h : Heap} (hm : wellspringlaw11_Seed_m p_0 seed_1 R h) : Meets Tryz.prog 8 #[(.agg #[(.int .i64 p_0.1), (.int .i64 p_0.2.1), (.int .i64 p_0.2.2)]), (.int .u64 seed_1)] h R :=
  fn_spec C_ok (f := 8) (fn := Tryz.f8) (args := [(.agg #[(.int .i64 p_0.1), (.int .i64 p_0.2.1), (.int .i64 p_0.2.2)]), (.int .u64 seed_1)]) Tryz.func8 (by rw [Tryz.ntmps8]; exact Nat.le_of_ble_eq_true rfl) (cast (wellspringlaw11_Seed_eq p_0 seed_1 R h).symm hm)
/-- wellspring/wellspringkeep.Copies[int] -/
abbrev wellspringkeep_Copies_int_id : FuncId := 9
noncomputable def wellspringkeep_Copies_int_m (l_0 : Sl) (R : Value → Heap → Prop) (h : Heap) : Prop :=
  LoopM (σ := Sl × Int) (fun s1 K1 h1 =>
  Br (decide (s1.2 < ((l_0.len : Nat) : Int)))
  (∃ a2 : Addr, (l_0.ptr = some a2 ∧ 0 ≤ s1.2 ∧ s1.2 < ((l_0.len : Nat) : Int)) ∧
  ∃ x3 : Sl, cellOf h1 (a2.add (s1.2.toNat * 1)) = some (.slice x3.ptr x3.len x3.cap) ∧
  CallM Tryz.prog 19 #[(.slice x3.ptr x3.len x3.cap)] (.one (.sc .slc)) h1 fun r4 h2 =>
  RunsR Tryz.prog (Instr.buildSlice 26 1 #[(0, (.slice r4.ptr r4.len r4.cap))]) (.one (.sc .slc)) h2 fun v5 h3 =>
  RunsR Tryz.prog (Builtin.append_ #[26, 26] 26 #[(.slice s1.1.ptr s1.1.len s1.1.cap), (.slice v5.ptr v5.len v5.cap)]) (.one (.sc .slc)) h3 fun v6 h4 =>
  K1 ((⟨v6.ptr, v6.len, v6.cap⟩ : Sl), IntKind.wrap .i64 (s1.2 + (1 : Int))) h4)
  (R (.slice s1.1.ptr s1.1.len s1.1.cap) h1)) ((⟨none, 0, 0⟩ : Sl), (0 : Int)) h
noncomputable def wellspringkeep_Copies_int_ann : Ann := (.two .n (.two .n (.two (.two .n (.inn (.loop [(3, (.sc .slc)), (8, (.sc (.int .i64)))] [(3, 4), (5, 6), (8, 18)] .n))) .n)))
theorem wellspringkeep_Copies_int_eq (l_0 : Sl) (R : Value → Heap → Prop) (h : Heap) : fnV C Tryz.f9 300 wellspringkeep_Copies_int_ann [(.slice l_0.ptr l_0.len l_0.cap)] R h = wellspringkeep_Copies_int_m l_0 R h := by kernel_rfl
theorem wellspringkeep_Copies_int_run (l_0 : Sl) {R : Value → Heap → Prop} {h : Heap} (hm : wellspringkeep_Copies_int_m l_0 R h) : Meets Tryz.prog 9 #[(.slice l_0.ptr l_0.len l_0.cap)] h R :=
  fn_spec C_ok (f := 9) (fn := Tryz.f9) (args := [(.slice l_0.ptr l_0.len l_0.cap)]) Tryz.func9 (by rw [Tryz.ntmps9]; exact Nat.le_of_ble_eq_true rfl) (cast (wellspringkeep_Copies_int_eq l_0 R h).symm hm)
/-- wellspring/margin.Rank -/
abbrev margin_Rank_id : FuncId := 10
noncomputable def margin_Rank_m (p_0 : Int × Int × Int) (seed_1 : Int) (where_2 : Sl) (gone_3 : Sl) (R : Value → Heap → Prop) (h : Heap) : Prop :=
  RunsA Tryz.prog (Instr.box 23 (.agg #[(.int .i64 p_0.1), (.int .i64 p_0.2.1), (.int .i64 p_0.2.2)])) h fun a1 h1 =>
  LoopM (σ := Sl × Int) (fun s2 K1 h2 =>
  Br (decide (s2.2 < ((where_2.len : Nat) : Int)))
  (∃ a3 : Addr, (where_2.ptr = some a3 ∧ 0 ≤ s2.2 ∧ s2.2 < ((where_2.len : Nat) : Int)) ∧
  ∃ x4 : Sl, cellOf h2 (a3.add (s2.2.toNat * 1)) = some (.slice x4.ptr x4.len x4.cap) ∧
  CallM Tryz.prog 20 #[(.slice gone_3.ptr gone_3.len gone_3.cap), (.int .i64 s2.2)] (.one (.sc .bool)) h2 fun r5 h3 =>
  Br (!r5)
  (RunsR Tryz.prog (Builtin.append_ #[25, 25] 25 #[(.slice s2.1.ptr s2.1.len s2.1.cap), (.slice x4.ptr x4.len x4.cap)]) (.one (.sc .slc)) h3 fun v6 h4 =>
  K1 ((⟨v6.ptr, v6.len, v6.cap⟩ : Sl), IntKind.wrap .i64 (s2.2 + (1 : Int))) h4)
  (K1 ((⟨s2.1.ptr, s2.1.len, s2.1.cap⟩ : Sl), IntKind.wrap .i64 (s2.2 + (1 : Int))) h3))
  (∃ x7 : Int × Int × Int, cellsAt h2 a1 0 [(.int .i64 x7.1), (.int .i64 x7.2.1), (.int .i64 x7.2.2)] ∧
  CallM Tryz.prog 21 #[(.agg #[(.int .i64 x7.1), (.int .i64 x7.2.1), (.int .i64 x7.2.2)]), (.int .u32 seed_1), (.slice s2.1.ptr s2.1.len s2.1.cap)] (.one (.sc (.int .i64))) h2 fun r8 h5 =>
  R (.int .i64 r8) h5)) ((⟨none, 0, 0⟩ : Sl), (0 : Int)) h1
noncomputable def margin_Rank_ann : Ann := (.two .n (.two .n (.two (.two .n (.inn (.loop [(9, (.sc .slc)), (14, (.sc (.int .i64)))] [(9, 12), (14, 27)] .n))) .n)))
theorem margin_Rank_eq (p_0 : Int × Int × Int) (seed_1 : Int) (where_2 : Sl) (gone_3 : Sl) (R : Value → Heap → Prop) (h : Heap) : fnV C Tryz.f10 300 margin_Rank_ann [(.agg #[(.int .i64 p_0.1), (.int .i64 p_0.2.1), (.int .i64 p_0.2.2)]), (.int .u32 seed_1), (.slice where_2.ptr where_2.len where_2.cap), (.slice gone_3.ptr gone_3.len gone_3.cap)] R h = margin_Rank_m p_0 seed_1 where_2 gone_3 R h := by kernel_rfl
theorem margin_Rank_run (p_0 : Int × Int × Int) (seed_1 : Int) (where_2 : Sl) (gone_3 : Sl) {R : Value → Heap → Prop} {h : Heap} (hm : margin_Rank_m p_0 seed_1 where_2 gone_3 R h) : Meets Tryz.prog 10 #[(.agg #[(.int .i64 p_0.1), (.int .i64 p_0.2.1), (.int .i64 p_0.2.2)]), (.int .u32 seed_1), (.slice where_2.ptr where_2.len where_2.cap), (.slice gone_3.ptr gone_3.len gone_3.cap)] h R :=
  fn_spec C_ok (f := 10) (fn := Tryz.f10) (args := [(.agg #[(.int .i64 p_0.1), (.int .i64 p_0.2.1), (.int .i64 p_0.2.2)]), (.int .u32 seed_1), (.slice where_2.ptr where_2.len where_2.cap), (.slice gone_3.ptr gone_3.len gone_3.cap)]) Tryz.func10 (by rw [Tryz.ntmps10]; exact Nat.le_of_ble_eq_true rfl) (cast (margin_Rank_eq p_0 seed_1 where_2 gone_3 R h).symm hm)
/-- wellspring/wellspringref21.Rank -/
abbrev wellspringref21_Rank_id : FuncId := 11
noncomputable def wellspringref21_Rank_m (p_0 : Int × Int × Int) (seed_1 : Int) (where_2 : Sl) (gone_3 : Sl) (R : Value → Heap → Prop) (h : Heap) : Prop :=
  RunsA Tryz.prog (Instr.box 23 (.agg #[(.int .i64 p_0.1), (.int .i64 p_0.2.1), (.int .i64 p_0.2.2)])) h fun a1 h1 =>
  ∃ x2 : Int × Int × Int, cellsAt h1 a1 0 [(.int .i64 x2.1), (.int .i64 x2.2.1), (.int .i64 x2.2.2)] ∧
  CallM Tryz.prog 23 #[(.slice where_2.ptr where_2.len where_2.cap), (.slice gone_3.ptr gone_3.len gone_3.cap)] (.one (.sc .slc)) h1 fun r3 h2 =>
  (Held.ok [(a1, (.int .i64 x2.1)), (a1.add 1, (.int .i64 x2.2.1)), (a1.add 2, (.int .i64 x2.2.2))] h2) ∧
  CallM Tryz.prog 22 #[(.agg #[(.int .i64 x2.1), (.int .i64 x2.2.1), (.int .i64 x2.2.2)]), (.int .u32 seed_1), (.slice r3.ptr r3.len r3.cap)] (.one (.sc (.int .i64))) h2 fun r4 h3 =>
  (Held.ok [] h3) ∧
  R (.int .i64 r4) h3
noncomputable def wellspringref21_Rank_ann : Ann := .n
theorem wellspringref21_Rank_eq (p_0 : Int × Int × Int) (seed_1 : Int) (where_2 : Sl) (gone_3 : Sl) (R : Value → Heap → Prop) (h : Heap) : fnV C Tryz.f11 300 wellspringref21_Rank_ann [(.agg #[(.int .i64 p_0.1), (.int .i64 p_0.2.1), (.int .i64 p_0.2.2)]), (.int .u32 seed_1), (.slice where_2.ptr where_2.len where_2.cap), (.slice gone_3.ptr gone_3.len gone_3.cap)] R h = wellspringref21_Rank_m p_0 seed_1 where_2 gone_3 R h := by kernel_rfl
theorem wellspringref21_Rank_run (p_0 : Int × Int × Int) (seed_1 : Int) (where_2 : Sl) (gone_3 : Sl) {R : Value → Heap → Prop} {h : Heap} (hm : wellspringref21_Rank_m p_0 seed_1 where_2 gone_3 R h) : Meets Tryz.prog 11 #[(.agg #[(.int .i64 p_0.1), (.int .i64 p_0.2.1), (.int .i64 p_0.2.2)]), (.int .u32 seed_1), (.slice where_2.ptr where_2.len where_2.cap), (.slice gone_3.ptr gone_3.len gone_3.cap)] h R :=
  fn_spec C_ok (f := 11) (fn := Tryz.f11) (args := [(.agg #[(.int .i64 p_0.1), (.int .i64 p_0.2.1), (.int .i64 p_0.2.2)]), (.int .u32 seed_1), (.slice where_2.ptr where_2.len where_2.cap), (.slice gone_3.ptr gone_3.len gone_3.cap)]) Tryz.func11 (by rw [Tryz.ntmps11]; exact Nat.le_of_ble_eq_true rfl) (cast (wellspringref21_Rank_eq p_0 seed_1 where_2 gone_3 R h).symm hm)
/-- wellspring/margin.Weak -/
abbrev margin_Weak_id : FuncId := 12
noncomputable def margin_Weak_m (p_0 : Int × Int × Int) (seed_1 : Int) (where_2 : Sl) (t_3 : Int) (R : Value → Heap → Prop) (h : Heap) : Prop :=
  RunsA Tryz.prog (Instr.box 23 (.agg #[(.int .i64 p_0.1), (.int .i64 p_0.2.1), (.int .i64 p_0.2.2)])) h fun a1 h1 =>
  ∃ x2 : Int × Int × Int, cellsAt h1 a1 0 [(.int .i64 x2.1), (.int .i64 x2.2.1), (.int .i64 x2.2.2)] ∧
  CallM Tryz.prog 24 #[(.agg #[(.int .i64 x2.1), (.int .i64 x2.2.1), (.int .i64 x2.2.2)])] (.one (.sc .bool)) h1 fun r3 h2 =>
  Br (!r3)
  (R (.tuple #[(.slice none 0 0), (.bool false), (.int .i64 (1 : Int))]) h2)
  (CallM Tryz.prog 25 #[(.int .i64 ((where_2.len : Nat) : Int)), (.int .i64 t_3)] (.many [(.sc .slc), (.sc (.int .i64))]) h2 fun r4 h3 =>
  Br (r4.2 != (0 : Int))
  (R (.tuple #[(.slice none 0 0), (.bool false), (.int .i64 r4.2)]) h3)
  (∃ x5 : Int × Int × Int, cellsAt h3 a1 0 [(.int .i64 x5.1), (.int .i64 x5.2.1), (.int .i64 x5.2.2)] ∧
  CallM Tryz.prog 26 #[(.agg #[(.int .i64 x5.1), (.int .i64 x5.2.1), (.int .i64 x5.2.2)])] (.one (.sc (.int .i64))) h3 fun r6 h4 =>
  CallM Tryz.prog 28 #[] (.one (.sc .ptr)) h4 fun r7 h5 =>
  CallM Tryz.prog 27 #[(.pointer r7), (.int .i64 r6)] (.one (.sc .ptr)) h5 fun r8 h6 =>
  ∃ x9 : Int × Int × Int, cellsAt h6 a1 0 [(.int .i64 x9.1), (.int .i64 x9.2.1), (.int .i64 x9.2.2)] ∧
  CallM Tryz.prog 29 #[(.agg #[(.int .i64 x9.1), (.int .i64 x9.2.1), (.int .i64 x9.2.2)])] (.one (.sc .slc)) h6 fun r10 h7 =>
  LoopM (σ := Int) (fun s11 K1 h8 =>
  Br (decide (s11 < ((r10.len : Nat) : Int)))
  (∃ a12 : Addr, (r10.ptr = some a12 ∧ 0 ≤ s11 ∧ s11 < ((r10.len : Nat) : Int)) ∧
  ∃ x13 : Sl, cellOf h8 (a12.add (s11.toNat * 1)) = some (.slice x13.ptr x13.len x13.cap) ∧
  CallM Tryz.prog 30 #[(.pointer r8), (.slice x13.ptr x13.len x13.cap)] (.one (.sc .bool)) h8 fun _ h9 =>
  K1 (IntKind.wrap .i64 (s11 + (1 : Int))) h9)
  (∃ x15 : Int × Int × Int, cellsAt h8 a1 0 [(.int .i64 x15.1), (.int .i64 x15.2.1), (.int .i64 x15.2.2)] ∧
  CallM Tryz.prog 31 #[(.agg #[(.int .i64 x15.1), (.int .i64 x15.2.1), (.int .i64 x15.2.2)]), (.int .u32 seed_1), (.slice where_2.ptr where_2.len where_2.cap)] (.one (.sc .slc)) h8 fun r16 h10 =>
  LoopM (σ := Int) (fun s17 K2 h11 =>
  Br (decide (s17 < ((r4.1.len : Nat) : Int)))
  (∃ a18 : Addr, (r4.1.ptr = some a18 ∧ 0 ≤ s17 ∧ s17 < ((r4.1.len : Nat) : Int)) ∧
  ∃ x19 : Sl, cellOf h11 (a18.add (s17.toNat * 1)) = some (.slice x19.ptr x19.len x19.cap) ∧
  CallM Tryz.prog 32 #[(.pointer r8), (.slice r16.ptr r16.len r16.cap), (.slice x19.ptr x19.len x19.cap), (.int .i64 r6)] (.one (.sc .bool)) h11 fun r20 h12 =>
  Br (!r20)
  (R (.tuple #[(.slice x19.ptr x19.len x19.cap), (.bool true), (.int .i64 (0 : Int))]) h12)
  (K2 (IntKind.wrap .i64 (s17 + (1 : Int))) h12))
  (R (.tuple #[(.slice none 0 0), (.bool false), (.int .i64 (0 : Int))]) h11)) (0 : Int) h10)) (0 : Int) h7))
noncomputable def margin_Weak_ann : Ann := (.two .n (.two .n (.two .n (.two .n (.two .n (.two .n (.two (.two .n (.inn (.loop [(40, (.sc (.int .i64)))] [(15, 16), (40, 48)] .n))) (.two .n (.two (.two .n (.inn (.loop [(54, (.sc (.int .i64)))] [(8, 11), (18, 19), (54, 66)] .n))) .n)))))))))
theorem margin_Weak_eq (p_0 : Int × Int × Int) (seed_1 : Int) (where_2 : Sl) (t_3 : Int) (R : Value → Heap → Prop) (h : Heap) : fnV C Tryz.f12 300 margin_Weak_ann [(.agg #[(.int .i64 p_0.1), (.int .i64 p_0.2.1), (.int .i64 p_0.2.2)]), (.int .u32 seed_1), (.slice where_2.ptr where_2.len where_2.cap), (.int .i64 t_3)] R h = margin_Weak_m p_0 seed_1 where_2 t_3 R h := by kernel_rfl
theorem margin_Weak_run (p_0 : Int × Int × Int) (seed_1 : Int) (where_2 : Sl) (t_3 : Int) {R : Value → Heap → Prop} {h : Heap} (hm : margin_Weak_m p_0 seed_1 where_2 t_3 R h) : Meets Tryz.prog 12 #[(.agg #[(.int .i64 p_0.1), (.int .i64 p_0.2.1), (.int .i64 p_0.2.2)]), (.int .u32 seed_1), (.slice where_2.ptr where_2.len where_2.cap), (.int .i64 t_3)] h R :=
  fn_spec C_ok (f := 12) (fn := Tryz.f12) (args := [(.agg #[(.int .i64 p_0.1), (.int .i64 p_0.2.1), (.int .i64 p_0.2.2)]), (.int .u32 seed_1), (.slice where_2.ptr where_2.len where_2.cap), (.int .i64 t_3)]) Tryz.func12 (by rw [Tryz.ntmps12]; exact Nat.le_of_ble_eq_true rfl) (cast (margin_Weak_eq p_0 seed_1 where_2 t_3 R h).symm hm)
/-- wellspring/wellspringref21.Weak -/
abbrev wellspringref21_Weak_id : FuncId := 13
noncomputable def wellspringref21_Weak_m (p_0 : Int × Int × Int) (seed_1 : Int) (where_2 : Sl) (t_3 : Int) (R : Value → Heap → Prop) (h : Heap) : Prop :=
  RunsA Tryz.prog (Instr.box 23 (.agg #[(.int .i64 p_0.1), (.int .i64 p_0.2.1), (.int .i64 p_0.2.2)])) h fun a1 h1 =>
  ∃ x2 : Int × Int × Int, cellsAt h1 a1 0 [(.int .i64 x2.1), (.int .i64 x2.2.1), (.int .i64 x2.2.2)] ∧
  CallM Tryz.prog 33 #[(.agg #[(.int .i64 x2.1), (.int .i64 x2.2.1), (.int .i64 x2.2.2)])] (.one (.sc .bool)) h1 fun r3 h2 =>
  Br (!r3)
  (R (.tuple #[(.slice none 0 0), (.bool false), (.int .i64 (1 : Int))]) h2)
  (CallM Tryz.prog 34 #[(.int .i64 ((where_2.len : Nat) : Int)), (.int .i64 t_3)] (.many [(.sc .slc), (.sc (.int .i64))]) h2 fun r4 h3 =>
  Br (r4.2 != (0 : Int))
  (R (.tuple #[(.slice none 0 0), (.bool false), (.int .i64 r4.2)]) h3)
  (LoopM (σ := Int) (fun s5 K1 h4 =>
  Br (decide (s5 < ((r4.1.len : Nat) : Int)))
  (∃ a6 : Addr, (r4.1.ptr = some a6 ∧ 0 ≤ s5 ∧ s5 < ((r4.1.len : Nat) : Int)) ∧
  ∃ x7 : Sl, cellOf h4 (a6.add (s5.toNat * 1)) = some (.slice x7.ptr x7.len x7.cap) ∧
  ∃ x8 : Int × Int × Int, cellsAt h4 a1 0 [(.int .i64 x8.1), (.int .i64 x8.2.1), (.int .i64 x8.2.2)] ∧
  CallM Tryz.prog 23 #[(.slice where_2.ptr where_2.len where_2.cap), (.slice x7.ptr x7.len x7.cap)] (.one (.sc .slc)) h4 fun r9 h5 =>
  (Held.ok [(a1, (.int .i64 x8.1)), (a1.add 1, (.int .i64 x8.2.1)), (a1.add 2, (.int .i64 x8.2.2))] h5) ∧
  CallM Tryz.prog 35 #[(.agg #[(.int .i64 x8.1), (.int .i64 x8.2.1), (.int .i64 x8.2.2)]), (.int .u32 seed_1), (.slice r9.ptr r9.len r9.cap)] (.one (.sc .bool)) h5 fun r10 h6 =>
  (Held.ok [] h6) ∧
  Br (!r10)
  (R (.tuple #[(.slice x7.ptr x7.len x7.cap), (.bool true), (.int .i64 (0 : Int))]) h6)
  (K1 (IntKind.wrap .i64 (s5 + (1 : Int))) h6))
  (R (.tuple #[(.slice none 0 0), (.bool false), (.int .i64 (0 : Int))]) h4)) (0 : Int) h3))
noncomputable def wellspringref21_Weak_ann : Ann := (.two .n (.two .n (.two .n (.two .n (.two (.two .n (.inn (.loop [(30, (.sc (.int .i64)))] [(8, 11), (14, 15), (30, 43)] .n))) .n)))))
theorem wellspringref21_Weak_eq (p_0 : Int × Int × Int) (seed_1 : Int) (where_2 : Sl) (t_3 : Int) (R : Value → Heap → Prop) (h : Heap) : fnV C Tryz.f13 300 wellspringref21_Weak_ann [(.agg #[(.int .i64 p_0.1), (.int .i64 p_0.2.1), (.int .i64 p_0.2.2)]), (.int .u32 seed_1), (.slice where_2.ptr where_2.len where_2.cap), (.int .i64 t_3)] R h = wellspringref21_Weak_m p_0 seed_1 where_2 t_3 R h := by kernel_rfl
theorem wellspringref21_Weak_run (p_0 : Int × Int × Int) (seed_1 : Int) (where_2 : Sl) (t_3 : Int) {R : Value → Heap → Prop} {h : Heap} (hm : wellspringref21_Weak_m p_0 seed_1 where_2 t_3 R h) : Meets Tryz.prog 13 #[(.agg #[(.int .i64 p_0.1), (.int .i64 p_0.2.1), (.int .i64 p_0.2.2)]), (.int .u32 seed_1), (.slice where_2.ptr where_2.len where_2.cap), (.int .i64 t_3)] h R :=
  fn_spec C_ok (f := 13) (fn := Tryz.f13) (args := [(.agg #[(.int .i64 p_0.1), (.int .i64 p_0.2.1), (.int .i64 p_0.2.2)]), (.int .u32 seed_1), (.slice where_2.ptr where_2.len where_2.cap), (.int .i64 t_3)]) Tryz.func13 (by rw [Tryz.ntmps13]; exact Nat.le_of_ble_eq_true rfl) (cast (wellspringref21_Weak_eq p_0 seed_1 where_2 t_3 R h).symm hm)
/-- wellspring/wellspringkeep.Same[int] -/
abbrev wellspringkeep_Same_int_id : FuncId := 14
noncomputable def wellspringkeep_Same_int_m (a_0 : Sl) (b_1 : Sl) (R : Value → Heap → Prop) (h : Heap) : Prop :=
  Br (((a_0.len : Nat) : Int) != ((b_1.len : Nat) : Int))
  (R (.bool false) h)
  (LoopM (σ := Int) (fun s1 K1 h1 =>
  Br (decide (s1 < ((a_0.len : Nat) : Int)))
  (∃ a2 : Addr, (a_0.ptr = some a2 ∧ 0 ≤ s1 ∧ s1 < ((a_0.len : Nat) : Int)) ∧
  ∃ x3 : Int, cellOf h1 (a2.add (s1.toNat * 1)) = some (.int .i64 x3) ∧
  ∃ a4 : Addr, (b_1.ptr = some a4 ∧ 0 ≤ s1 ∧ s1 < ((b_1.len : Nat) : Int)) ∧
  ∃ x5 : Int, cellOf h1 (a4.add (s1.toNat * 1)) = some (.int .i64 x5) ∧
  Br (x3 != x5)
  (R (.bool false) h1)
  (K1 (IntKind.wrap .i64 (s1 + (1 : Int))) h1))
  (R (.bool true) h1)) (0 : Int) h)
noncomputable def wellspringkeep_Same_int_ann : Ann := (.two .n (.two .n (.two (.two .n (.inn (.loop [(13, (.sc (.int .i64)))] [(4, 6), (13, 26)] .n))) .n)))
theorem wellspringkeep_Same_int_eq (a_0 : Sl) (b_1 : Sl) (R : Value → Heap → Prop) (h : Heap) : fnV C Tryz.f14 300 wellspringkeep_Same_int_ann [(.slice a_0.ptr a_0.len a_0.cap), (.slice b_1.ptr b_1.len b_1.cap)] R h = wellspringkeep_Same_int_m a_0 b_1 R h := by kernel_rfl
theorem wellspringkeep_Same_int_run (a_0 : Sl) (b_1 : Sl) {R : Value → Heap → Prop} {h : Heap} (hm : wellspringkeep_Same_int_m a_0 b_1 R h) : Meets Tryz.prog 14 #[(.slice a_0.ptr a_0.len a_0.cap), (.slice b_1.ptr b_1.len b_1.cap)] h R :=
  fn_spec C_ok (f := 14) (fn := Tryz.f14) (args := [(.slice a_0.ptr a_0.len a_0.cap), (.slice b_1.ptr b_1.len b_1.cap)]) Tryz.func14 (by rw [Tryz.ntmps14]; exact Nat.le_of_ble_eq_true rfl) (cast (wellspringkeep_Same_int_eq a_0 b_1 R h).symm hm)
/-- wellspring/wellspringkeep.Rows[int] -/
abbrev wellspringkeep_Rows_int_id : FuncId := 15
noncomputable def wellspringkeep_Rows_int_m (a_0 : Sl) (b_1 : Sl) (R : Value → Heap → Prop) (h : Heap) : Prop :=
  Br (((a_0.len : Nat) : Int) != ((b_1.len : Nat) : Int))
  (R (.bool false) h)
  (LoopM (σ := Int) (fun s1 K1 h1 =>
  Br (decide (s1 < ((a_0.len : Nat) : Int)))
  (∃ a2 : Addr, (a_0.ptr = some a2 ∧ 0 ≤ s1 ∧ s1 < ((a_0.len : Nat) : Int)) ∧
  ∃ x3 : Sl, cellOf h1 (a2.add (s1.toNat * 1)) = some (.slice x3.ptr x3.len x3.cap) ∧
  ∃ a4 : Addr, (b_1.ptr = some a4 ∧ 0 ≤ s1 ∧ s1 < ((b_1.len : Nat) : Int)) ∧
  ∃ x5 : Sl, cellOf h1 (a4.add (s1.toNat * 1)) = some (.slice x5.ptr x5.len x5.cap) ∧
  CallM Tryz.prog 14 #[(.slice x3.ptr x3.len x3.cap), (.slice x5.ptr x5.len x5.cap)] (.one (.sc .bool)) h1 fun r6 h2 =>
  (Held.ok [] h2) ∧
  Br (!r6)
  (R (.bool false) h2)
  (K1 (IntKind.wrap .i64 (s1 + (1 : Int))) h2))
  (R (.bool true) h1)) (0 : Int) h)
noncomputable def wellspringkeep_Rows_int_ann : Ann := (.two .n (.two .n (.two (.two .n (.inn (.loop [(13, (.sc (.int .i64)))] [(4, 6), (13, 27)] .n))) .n)))
theorem wellspringkeep_Rows_int_eq (a_0 : Sl) (b_1 : Sl) (R : Value → Heap → Prop) (h : Heap) : fnV C Tryz.f15 300 wellspringkeep_Rows_int_ann [(.slice a_0.ptr a_0.len a_0.cap), (.slice b_1.ptr b_1.len b_1.cap)] R h = wellspringkeep_Rows_int_m a_0 b_1 R h := by kernel_rfl
theorem wellspringkeep_Rows_int_run (a_0 : Sl) (b_1 : Sl) {R : Value → Heap → Prop} {h : Heap} (hm : wellspringkeep_Rows_int_m a_0 b_1 R h) : Meets Tryz.prog 15 #[(.slice a_0.ptr a_0.len a_0.cap), (.slice b_1.ptr b_1.len b_1.cap)] h R :=
  fn_spec C_ok (f := 15) (fn := Tryz.f15) (args := [(.slice a_0.ptr a_0.len a_0.cap), (.slice b_1.ptr b_1.len b_1.cap)]) Tryz.func15 (by rw [Tryz.ntmps15]; exact Nat.le_of_ble_eq_true rfl) (cast (wellspringkeep_Rows_int_eq a_0 b_1 R h).symm hm)
/-- wellspring/wellspringlaw27.wakes -/
abbrev wellspringlaw27_wakes_id : FuncId := 16
noncomputable def wellspringlaw27_wakes_m  (R : Value → Heap → Prop) (h : Heap) : Prop :=
  CallM Tryz.prog 12 #[(.agg #[(.int .i64 (1 : Int)), (.int .i64 (1 : Int)), (.int .i64 (1 : Int))]), (.int .u32 (0 : Int)), (.slice none 0 0), (.int .i64 (0 : Int))] (.many [(.sc .slc), (.sc .bool), (.sc (.int .i64))]) h fun r1 h1 =>
  Br r1.2.1 (Br (r1.2.2 == (0 : Int)) (R (.bool (((r1.1.len : Nat) : Int) == (0 : Int))) h1) (R (.bool false) h1)) (R (.bool false) h1)
noncomputable def wellspringlaw27_wakes_ann : Ann := .n
theorem wellspringlaw27_wakes_eq  (R : Value → Heap → Prop) (h : Heap) : fnV C Tryz.f16 300 wellspringlaw27_wakes_ann [] R h = wellspringlaw27_wakes_m  R h := by kernel_rfl
theorem wellspringlaw27_wakes_run  {R : Value → Heap → Prop} {h : Heap} (hm : wellspringlaw27_wakes_m  R h) : Meets Tryz.prog 16 #[] h R :=
  fn_spec C_ok (f := 16) (fn := Tryz.f16) (args := []) Tryz.func16 (by rw [Tryz.ntmps16]; exact Nat.le_of_ble_eq_true rfl) (cast (wellspringlaw27_wakes_eq  R h).symm hm)
/-- wellspring/wellspringlaw10.IDs -/
abbrev wellspringlaw10_IDs_id : FuncId := 17
noncomputable def wellspringlaw10_IDs_m (l_0 : Sl) (most_1 : Int) (R : Value → Heap → Prop) (h : Heap) : Prop :=
  JoinM (σ := Sl) (fun s19 h11 =>
  R (.slice s19.ptr s19.len s19.cap) h11)
  (fun K1 =>
  LoopM (σ := Sl × Int) (fun s1 K2 h1 =>
  JoinM (σ := Unit) (fun _ h2 =>
  ∃ a3 : Addr, (l_0.ptr = some a3 ∧ 0 ≤ s1.2 ∧ s1.2 < ((l_0.len : Nat) : Int)) ∧
  ∃ x4 : Int, cellOf h2 (a3.add (s1.2.toNat * 1)) = some (.int .i64 x4) ∧
  ((7 : Int) ≠ 0) ∧
  Br ((Int.tmod x4 (7 : Int)) == (5 : Int))
  (∃ a5 : Addr, (l_0.ptr = some a5 ∧ 0 ≤ s1.2 ∧ s1.2 < ((l_0.len : Nat) : Int)) ∧
  ∃ x6 : Int, cellOf h2 (a5.add (s1.2.toNat * 1)) = some (.int .i64 x6) ∧
  ((7 : Int) ≠ 0) ∧
  CallM Tryz.prog 5 #[(.int .i64 (IntKind.wrap .i64 (Int.tdiv x6 (7 : Int)))), (.int .i64 (65536 : Int))] (.one (.sc (.int .i64))) h2 fun r7 h3 =>
  RunsR Tryz.prog (Instr.buildSlice 25 1 #[(0, (.int .i64 r7))]) (.one (.sc .slc)) h3 fun v8 h4 =>
  RunsR Tryz.prog (Builtin.append_ #[25, 25] 25 #[(.slice s1.1.ptr s1.1.len s1.1.cap), (.slice v8.ptr v8.len v8.cap)]) (.one (.sc .slc)) h4 fun v9 h5 =>
  K2 ((⟨v9.ptr, v9.len, v9.cap⟩ : Sl), IntKind.wrap .i64 (s1.2 + (1 : Int))) h5)
  (Br ((Int.tmod x4 (7 : Int)) == (6 : Int))
  (∃ a10 : Addr, (l_0.ptr = some a10 ∧ 0 ≤ s1.2 ∧ s1.2 < ((l_0.len : Nat) : Int)) ∧
  ∃ x11 : Int, cellOf h2 (a10.add (s1.2.toNat * 1)) = some (.int .i64 x11) ∧
  RunsR Tryz.prog (Instr.buildSlice 25 1 #[(0, (.int .i64 x11))]) (.one (.sc .slc)) h2 fun v12 h6 =>
  RunsR Tryz.prog (Builtin.append_ #[25, 25] 25 #[(.slice s1.1.ptr s1.1.len s1.1.cap), (.slice v12.ptr v12.len v12.cap)]) (.one (.sc .slc)) h6 fun v13 h7 =>
  K2 ((⟨v13.ptr, v13.len, v13.cap⟩ : Sl), IntKind.wrap .i64 (s1.2 + (1 : Int))) h7)
  (∃ a14 : Addr, (l_0.ptr = some a14 ∧ 0 ≤ s1.2 ∧ s1.2 < ((l_0.len : Nat) : Int)) ∧
  ∃ x15 : Int, cellOf h2 (a14.add (s1.2.toNat * 1)) = some (.int .i64 x15) ∧
  ((7 : Int) ≠ 0) ∧
  CallM Tryz.prog 5 #[(.int .i64 (IntKind.wrap .i64 (Int.tdiv x15 (7 : Int)))), (.int .i64 (40 : Int))] (.one (.sc (.int .i64))) h2 fun r16 h8 =>
  RunsR Tryz.prog (Instr.buildSlice 25 1 #[(0, (.int .i64 r16))]) (.one (.sc .slc)) h8 fun v17 h9 =>
  RunsR Tryz.prog (Builtin.append_ #[25, 25] 25 #[(.slice s1.1.ptr s1.1.len s1.1.cap), (.slice v17.ptr v17.len v17.cap)]) (.one (.sc .slc)) h9 fun v18 h10 =>
  K2 ((⟨v18.ptr, v18.len, v18.cap⟩ : Sl), IntKind.wrap .i64 (s1.2 + (1 : Int))) h10)))
  (fun K3 =>
  Br (decide (s1.2 < ((l_0.len : Nat) : Int))) (Br (decide (s1.2 < most_1))
  (K3 () h1)
  (K1 (⟨s1.1.ptr, s1.1.len, s1.1.cap⟩ : Sl) h1)) (K1 (⟨s1.1.ptr, s1.1.len, s1.1.cap⟩ : Sl) h1))) ((⟨none, 0, 0⟩ : Sl), (0 : Int)) h)
noncomputable def wellspringlaw10_IDs_ann : Ann := (.two .n (.two .n (.two (.join [(5, (.sc .slc))] [(5, 52)] (.two .n (.inn (.loop [(5, (.sc .slc)), (6, (.sc (.int .i64)))] [(5, 52)] (.two (.join [] [(7, 16)] .n) .n))))) .n)))
theorem wellspringlaw10_IDs_eq (l_0 : Sl) (most_1 : Int) (R : Value → Heap → Prop) (h : Heap) : fnV C Tryz.f17 300 wellspringlaw10_IDs_ann [(.slice l_0.ptr l_0.len l_0.cap), (.int .i64 most_1)] R h = wellspringlaw10_IDs_m l_0 most_1 R h := by kernel_rfl
theorem wellspringlaw10_IDs_run (l_0 : Sl) (most_1 : Int) {R : Value → Heap → Prop} {h : Heap} (hm : wellspringlaw10_IDs_m l_0 most_1 R h) : Meets Tryz.prog 17 #[(.slice l_0.ptr l_0.len l_0.cap), (.int .i64 most_1)] h R :=
  fn_spec C_ok (f := 17) (fn := Tryz.f17) (args := [(.slice l_0.ptr l_0.len l_0.cap), (.int .i64 most_1)]) Tryz.func17 (by rw [Tryz.ntmps17]; exact Nat.le_of_ble_eq_true rfl) (cast (wellspringlaw10_IDs_eq l_0 most_1 R h).symm hm)
/-- wellspring/system.Right -/
abbrev system_Right_id : FuncId := 18
noncomputable def system_Right_m (p_0 : Int × Int × Int) (seed_1 : Int) (R : Value → Heap → Prop) (h : Heap) : Prop :=
  RunsA Tryz.prog (Instr.box 23 (.agg #[(.int .i64 p_0.1), (.int .i64 p_0.2.1), (.int .i64 p_0.2.2)])) h fun a1 h1 =>
  ∃ x2 : Int × Int × Int, cellsAt h1 a1 0 [(.int .i64 x2.1), (.int .i64 x2.2.1), (.int .i64 x2.2.2)] ∧
  ∃ x3 : Int × Int × Int, cellsAt h1 a1 0 [(.int .i64 x3.1), (.int .i64 x3.2.1), (.int .i64 x3.2.2)] ∧
  CallM Tryz.prog 37 #[(.agg #[(.int .i64 x3.1), (.int .i64 x3.2.1), (.int .i64 x3.2.2)])] (.one (.sc .slc)) h1 fun r4 h2 =>
  (Held.ok [(a1, (.int .i64 x2.1)), (a1.add 1, (.int .i64 x2.2.1)), (a1.add 2, (.int .i64 x2.2.2))] h2) ∧
  CallM Tryz.prog 36 #[(.agg #[(.int .i64 x2.1), (.int .i64 x2.2.1), (.int .i64 x2.2.2)]), (.int .u32 seed_1), (.slice r4.ptr r4.len r4.cap)] (.one (.sc .bool)) h2 fun r5 h3 =>
  (Held.ok [] h3) ∧
  R (.bool r5) h3
noncomputable def system_Right_ann : Ann := .n
theorem system_Right_eq (p_0 : Int × Int × Int) (seed_1 : Int) (R : Value → Heap → Prop) (h : Heap) : fnV C Tryz.f18 300 system_Right_ann [(.agg #[(.int .i64 p_0.1), (.int .i64 p_0.2.1), (.int .i64 p_0.2.2)]), (.int .u32 seed_1)] R h = system_Right_m p_0 seed_1 R h := by kernel_rfl
theorem system_Right_run (p_0 : Int × Int × Int) (seed_1 : Int) {R : Value → Heap → Prop} {h : Heap} (hm : system_Right_m p_0 seed_1 R h) : Meets Tryz.prog 18 #[(.agg #[(.int .i64 p_0.1), (.int .i64 p_0.2.1), (.int .i64 p_0.2.2)]), (.int .u32 seed_1)] h R :=
  fn_spec C_ok (f := 18) (fn := Tryz.f18) (args := [(.agg #[(.int .i64 p_0.1), (.int .i64 p_0.2.1), (.int .i64 p_0.2.2)]), (.int .u32 seed_1)]) Tryz.func18 (by rw [Tryz.ntmps18]; exact Nat.le_of_ble_eq_true rfl) (cast (system_Right_eq p_0 seed_1 R h).symm hm)
/-- wellspring/wellspringkeep.Copy[int] -/
abbrev wellspringkeep_Copy_int_id : FuncId := 19
noncomputable def wellspringkeep_Copy_int_m (l_0 : Sl) (R : Value → Heap → Prop) (h : Heap) : Prop :=
  RunsR Tryz.prog (Instr.makeSlice 25 (.int .i64 (0 : Int)) (.int .i64 (IntKind.wrap .i64 (((l_0.len : Nat) : Int) + (2 : Int))))) (.one (.sc .slc)) h fun v1 h1 =>
  RunsR Tryz.prog (Builtin.append_ #[25, 25] 25 #[(.slice v1.ptr v1.len v1.cap), (.slice l_0.ptr l_0.len l_0.cap)]) (.one (.sc .slc)) h1 fun v2 h2 =>
  R (.slice v2.ptr v2.len v2.cap) h2
noncomputable def wellspringkeep_Copy_int_ann : Ann := .n
theorem wellspringkeep_Copy_int_eq (l_0 : Sl) (R : Value → Heap → Prop) (h : Heap) : fnV C Tryz.f19 300 wellspringkeep_Copy_int_ann [(.slice l_0.ptr l_0.len l_0.cap)] R h = wellspringkeep_Copy_int_m l_0 R h := by kernel_rfl
theorem wellspringkeep_Copy_int_run (l_0 : Sl) {R : Value → Heap → Prop} {h : Heap} (hm : wellspringkeep_Copy_int_m l_0 R h) : Meets Tryz.prog 19 #[(.slice l_0.ptr l_0.len l_0.cap)] h R :=
  fn_spec C_ok (f := 19) (fn := Tryz.f19) (args := [(.slice l_0.ptr l_0.len l_0.cap)]) Tryz.func19 (by rw [Tryz.ntmps19]; exact Nat.le_of_ble_eq_true rfl) (cast (wellspringkeep_Copy_int_eq l_0 R h).symm hm)
/-- slices.Contains[[]int,int] -/
abbrev slices_Contains_int_int_id : FuncId := 20
noncomputable def slices_Contains_int_int_m (s_0 : Sl) (v_1 : Int) (R : Value → Heap → Prop) (h : Heap) : Prop :=
  CallM Tryz.prog 38 #[(.slice s_0.ptr s_0.len s_0.cap), (.int .i64 v_1)] (.one (.sc (.int .i64))) h fun r1 h1 =>
  R (.bool (decide (r1 ≥ (0 : Int)))) h1
noncomputable def slices_Contains_int_int_ann : Ann := .n
theorem slices_Contains_int_int_eq (s_0 : Sl) (v_1 : Int) (R : Value → Heap → Prop) (h : Heap) : fnV C Tryz.f20 300 slices_Contains_int_int_ann [(.slice s_0.ptr s_0.len s_0.cap), (.int .i64 v_1)] R h = slices_Contains_int_int_m s_0 v_1 R h := by kernel_rfl
theorem slices_Contains_int_int_run (s_0 : Sl) (v_1 : Int) {R : Value → Heap → Prop} {h : Heap} (hm : slices_Contains_int_int_m s_0 v_1 R h) : Meets Tryz.prog 20 #[(.slice s_0.ptr s_0.len s_0.cap), (.int .i64 v_1)] h R :=
  fn_spec C_ok (f := 20) (fn := Tryz.f20) (args := [(.slice s_0.ptr s_0.len s_0.cap), (.int .i64 v_1)]) Tryz.func20 (by rw [Tryz.ntmps20]; exact Nat.le_of_ble_eq_true rfl) (cast (slices_Contains_int_int_eq s_0 v_1 R h).symm hm)
/-- wellspring/system.Rank -/
abbrev system_Rank_id : FuncId := 21
noncomputable def system_Rank_m (p_0 : Int × Int × Int) (seed_1 : Int) (ids_2 : Sl) (R : Value → Heap → Prop) (h : Heap) : Prop :=
  RunsA Tryz.prog (Instr.box 23 (.agg #[(.int .i64 p_0.1), (.int .i64 p_0.2.1), (.int .i64 p_0.2.2)])) h fun a1 h1 =>
  ∃ x2 : Int × Int × Int, cellsAt h1 a1 0 [(.int .i64 x2.1), (.int .i64 x2.2.1), (.int .i64 x2.2.2)] ∧
  CallM Tryz.prog 28 #[] (.one (.sc .ptr)) h1 fun r3 h2 =>
  (Held.ok [(a1, (.int .i64 x2.1)), (a1.add 1, (.int .i64 x2.2.1)), (a1.add 2, (.int .i64 x2.2.2))] h2) ∧
  CallM Tryz.prog 40 #[(.agg #[(.int .i64 x2.1), (.int .i64 x2.2.1), (.int .i64 x2.2.2)]), (.int .u32 seed_1), (.slice ids_2.ptr ids_2.len ids_2.cap)] (.one (.sc .slc)) h2 fun r4 h3 =>
  (Held.ok [] h3) ∧
  CallM Tryz.prog 39 #[(.pointer r3), (.slice r4.ptr r4.len r4.cap)] (.one (.sc (.int .i64))) h3 fun r5 h4 =>
  (Held.ok [] h4) ∧
  R (.int .i64 r5) h4
noncomputable def system_Rank_ann : Ann := .n
theorem system_Rank_eq (p_0 : Int × Int × Int) (seed_1 : Int) (ids_2 : Sl) (R : Value → Heap → Prop) (h : Heap) : fnV C Tryz.f21 300 system_Rank_ann [(.agg #[(.int .i64 p_0.1), (.int .i64 p_0.2.1), (.int .i64 p_0.2.2)]), (.int .u32 seed_1), (.slice ids_2.ptr ids_2.len ids_2.cap)] R h = system_Rank_m p_0 seed_1 ids_2 R h := by kernel_rfl
theorem system_Rank_run (p_0 : Int × Int × Int) (seed_1 : Int) (ids_2 : Sl) {R : Value → Heap → Prop} {h : Heap} (hm : system_Rank_m p_0 seed_1 ids_2 R h) : Meets Tryz.prog 21 #[(.agg #[(.int .i64 p_0.1), (.int .i64 p_0.2.1), (.int .i64 p_0.2.2)]), (.int .u32 seed_1), (.slice ids_2.ptr ids_2.len ids_2.cap)] h R :=
  fn_spec C_ok (f := 21) (fn := Tryz.f21) (args := [(.agg #[(.int .i64 p_0.1), (.int .i64 p_0.2.1), (.int .i64 p_0.2.2)]), (.int .u32 seed_1), (.slice ids_2.ptr ids_2.len ids_2.cap)]) Tryz.func21 (by rw [Tryz.ntmps21]; exact Nat.le_of_ble_eq_true rfl) (cast (system_Rank_eq p_0 seed_1 ids_2 R h).symm hm)
end Go.Proofs.YtmadbodaleaaeaaGreat
