/- Part of the proof that wellspringlaw11's EncodeTells answers true whatever the input reads, and leaves it as it was; no condition. -/
import Derived.Test.YtgcbahhnnphejaaGreatHpA
import Derived.Test.YtgcbahhnnphejaaGreatProg
set_option linter.unusedVariables false
set_option linter.unusedSimpArgs false
namespace Go.Proofs.YtgcbahhnnphejaaGreat
open Go Go.Vc Go.Proofs
set_option maxRecDepth 1000000

abbrev T_func : Nat := 1
abbrev T_int64 : Nat := 2
abbrev T_int : Nat := 3
abbrev T_bool : Nat := 4
abbrev T_uint8 : Nat := 5
abbrev T_abi_BoundsErrorCode : Nat := 6
abbrev T_runtime_boundsError : Nat := 8
abbrev T_string : Nat := 9
abbrev T_runtime_errorString : Nat := 10
abbrev T_runtime_plainError : Nat := 11
abbrev T_uintptr : Nat := 12
abbrev T_struct_msg_string_addr_uintptr : Nat := 13
abbrev T_runtime_errorAddressString : Nat := 14
abbrev T_ptr_runtime_TypeAssertionError : Nat := 15
abbrev T_ptr_runtime_PanicNilError : Nat := 16
abbrev T_ptr_abi_Type : Nat := 17
abbrev T_struct_typ_ptr_abi_Type : Nat := 18
abbrev T_maps_unhashableTypeError : Nat := 19
abbrev T_interface : Nat := 20
abbrev T_int32 : Nat := 21
abbrev T_struct_K_int_H_int_Size_int : Nat := 22
abbrev T_api_Params : Nat := 23
abbrev T_uint : Nat := 24
abbrev T_sl_uint8 : Nat := 25
abbrev T_sl_int : Nat := 26
abbrev T_func_bool : Nat := 27
abbrev T_func_int_int_int_api_Params : Nat := 28
abbrev T_sl_api_Params : Nat := 29
abbrev T_uint32 : Nat := 30
abbrev T_func_api_Params_bool : Nat := 31
abbrev T_func_api_Params_uint_uint32 : Nat := 32
abbrev T_func_sl_uint8_int_sl_uint8 : Nat := 33
abbrev T_func_sl_uint8_uint8_sl_uint8 : Nat := 34
abbrev T_ptr_encode_Block : Nat := 35
abbrev T_api_Errno : Nat := 36
abbrev T_ptr_encode_Block_api_Errno : Nat := 37
abbrev T_ptr_wellspringref11_Block : Nat := 39
abbrev T_ptr_wellspringref11_Block_api_Errno : Nat := 40
abbrev T_func_sl_uint8_sl_uint8_uint8_bool : Nat := 42
abbrev T_func_sl_sl_uint8_sl_sl_uint8_bool : Nat := 43
abbrev T_sl_sl_uint8 : Nat := 44
abbrev T_func_sl_sl_uint8 : Nat := 45
abbrev T_wellspringref11_Block : Nat := 47
abbrev T_func_sl_uint8_sl_uint8_bool : Nat := 48
abbrev T_func_int_sl_uint8 : Nat := 49
abbrev T_func_int_int_int : Nat := 51
abbrev T_func_api_Params_uint32_bool : Nat := 52
abbrev T_sl_sl_uint8_api_Errno : Nat := 53
abbrev T_ptr_gf_Field : Nat := 55
abbrev T_func_ptr_gf_Field : Nat := 56
abbrev T_func_api_Params_sl_int : Nat := 58
abbrev T_encode_Block : Nat := 60
abbrev T_func_api_Params_sl_sl_uint8 : Nat := 61
abbrev T_func_api_Params_uint32_int_sl_uint8 : Nat := 62
abbrev T_func_sl_uint8_sl_uint8 : Nat := 64
abbrev T_func_api_Params_uint32_int_sl_int : Nat := 65
abbrev T_func_int_bool : Nat := 66
abbrev T_func_api_Params_uint32_sl_int_bool : Nat := 68
abbrev T_func_sl_sl_uint8_bool : Nat := 69
abbrev T_func_sl_sl_uint8_int : Nat := 70
abbrev T_func_sl_sl_uint8_sl_sl_uint8 : Nat := 71
abbrev T_func_ptr_gf_Field_sl_sl_uint8_int_int : Nat := 72
abbrev T_func_ptr_gf_Field_ptr_gf_Field : Nat := 73
abbrev T_func_sl_uint8_int : Nat := 74
abbrev T_255_uint8 : Nat := 75
abbrev T_func_255_uint8 : Nat := 76
abbrev T_256_int : Nat := 77
abbrev T_func_255_uint8_256_int : Nat := 78
abbrev T_struct_exp_255_uint8_log_256_int : Nat := 79
abbrev T_gf_Field : Nat := 80
abbrev T_func_int_uint8 : Nat := 81
abbrev T_func_api_Params_int : Nat := 82
abbrev T_func_uint8_uint8 : Nat := 83
abbrev T_func_uint8_sl_uint8_sl_uint8 : Nat := 84
abbrev T_func_uint8_sl_uint8_sl_uint8_sl_uint8 : Nat := 85
abbrev T_ptr_draw_Draw : Nat := 86
abbrev T_func_uint32_ptr_draw_Draw : Nat := 87
abbrev T_func_uint32 : Nat := 88
abbrev T_func_sl_int_ptr_draw_Draw_int : Nat := 89
abbrev T_func_int_sl_int : Nat := 90
abbrev T_func_ptr_draw_Draw_int_int_sl_int : Nat := 91
abbrev T_func_sl_uint8_sl_uint8_sl_uint8 : Nat := 92
abbrev T_ptr_wellspringref01_Draw : Nat := 93
abbrev T_uint64 : Nat := 94
abbrev T_struct_S_uint64 : Nat := 95
abbrev T_wellspringref01_Draw : Nat := 96
abbrev T_func_api_Params_uint32_sl_int_int : Nat := 99
abbrev T_func_sl_sl_uint8_int_int_int : Nat := 100
abbrev T_func_sl_uint8_func_uint8_bool_int : Nat := 103
abbrev T_func_uint8_bool : Nat := 104
abbrev T_func_uint8_uint8_uint8 : Nat := 105
abbrev T_func_int_int_sl_uint8 : Nat := 106
abbrev T_struct_at_uint64 : Nat := 107
abbrev T_draw_Draw : Nat := 108
abbrev T_func_sl_int_int_int : Nat := 109
abbrev T_func_int_int : Nat := 110
abbrev T_func_sl_int_sl_int : Nat := 111
abbrev T_func_sl_int : Nat := 112
abbrev T_func_ptr_gf_Field_sl_sl_uint8_int : Nat := 113
abbrev T_uint16 : Nat := 114
abbrev T_func_uint_int : Nat := 115
abbrev T_func_sl_int_int_int_int : Nat := 116
abbrev T_func_uint32_int : Nat := 118
abbrev T_func_uint64_int : Nat := 119
abbrev T_slices_sortedHint : Nat := 121
abbrev T_int_slices_sortedHint : Nat := 122
abbrev T_func_sl_int_int_int_bool : Nat := 124
abbrev T_func_int_int_bool : Nat := 125
abbrev T_func_sl_int_int_int_int_int : Nat := 126
abbrev T_int_bool : Nat := 127
abbrev T_func_sl_int_int_int_int_int_bool : Nat := 128
abbrev T_slices_xorshift : Nat := 129
abbrev T_func_int_uint : Nat := 130
abbrev T_func_uint64 : Nat := 131
abbrev T_func_sl_int_int_ptr_int_int : Nat := 132
abbrev T_ptr_int : Nat := 133
abbrev T_func_sl_int_int_int_int_ptr_int_int : Nat := 134
abbrev T_ptr_slices_xorshift : Nat := 135
abbrev T_int_int : Nat := 136
abbrev T_func_sl_int_int_int_ptr_int_int_int : Nat := 137
abbrev T_func_string : Nat := 138
abbrev T_runtime_TypeAssertionError : Nat := 140
abbrev T_0_ptr_runtime_PanicNilError : Nat := 141
abbrev T_struct_0_ptr_runtime_PanicNilError : Nat := 142
abbrev T_runtime_PanicNilError : Nat := 143
abbrev T_func_int : Nat := 144
abbrev T_abi_TFlag : Nat := 145
abbrev T_abi_Kind : Nat := 146
abbrev T_ptr_uint8 : Nat := 148
abbrev T_abi_NameOff : Nat := 149
abbrev T_abi_TypeOff : Nat := 150
abbrev T_abi_Type : Nat := 152
abbrev T_unsafe_Pointer : Nat := 153
noncomputable def tbl : Tbl := [
  ⟨.other, (.sc .any), 1, 0, [(Go.Value.tuple #[])]⟩,
  ⟨.fn, (.sc .fn), 1, 8, [Go.Value.nilFunc]⟩,
  ⟨.int .i64, (.sc (.int .i64)), 1, 8, [(Go.Value.int Go.IntKind.i64 0)]⟩,
  ⟨.int .i64, (.sc (.int .i64)), 1, 8, [(Go.Value.int Go.IntKind.i64 0)]⟩,
  ⟨.bool, (.sc .bool), 1, 1, [(Go.Value.bool Bool.false)]⟩,
  ⟨.int .u8, (.sc (.int .u8)), 1, 1, [(Go.Value.int Go.IntKind.u8 0)]⟩,
  ⟨.int .u8, (.sc (.int .u8)), 1, 1, [(Go.Value.int Go.IntKind.u8 0)]⟩,
  ⟨.struct [(0, 2), (1, 3), (2, 4), (3, 6)], (.agg [(.int .i64), (.int .i64), .bool, (.int .u8)]), 4, 24, [(Go.Value.int Go.IntKind.i64 0), (Go.Value.int Go.IntKind.i64 0), (Go.Value.bool Bool.false), (Go.Value.int Go.IntKind.u8 0)]⟩,
  ⟨.struct [(0, 2), (1, 3), (2, 4), (3, 6)], (.agg [(.int .i64), (.int .i64), .bool, (.int .u8)]), 4, 24, [(Go.Value.int Go.IntKind.i64 0), (Go.Value.int Go.IntKind.i64 0), (Go.Value.bool Bool.false), (Go.Value.int Go.IntKind.u8 0)]⟩,
  ⟨.str, (.sc .str), 1, 16, [(Go.Value.string (ByteArray.mk #[]))]⟩,
  ⟨.str, (.sc .str), 1, 16, [(Go.Value.string (ByteArray.mk #[]))]⟩,
  ⟨.str, (.sc .str), 1, 16, [(Go.Value.string (ByteArray.mk #[]))]⟩,
  ⟨.int .u64, (.sc (.int .u64)), 1, 8, [(Go.Value.int Go.IntKind.u64 0)]⟩,
  ⟨.struct [(0, 9), (1, 12)], (.agg [.str, (.int .u64)]), 2, 24, [(Go.Value.string (ByteArray.mk #[])), (Go.Value.int Go.IntKind.u64 0)]⟩,
  ⟨.struct [(0, 9), (1, 12)], (.agg [.str, (.int .u64)]), 2, 24, [(Go.Value.string (ByteArray.mk #[])), (Go.Value.int Go.IntKind.u64 0)]⟩,
  ⟨.ptr 140, (.sc .ptr), 1, 8, [(Go.Value.pointer Option.none)]⟩,
  ⟨.ptr 143, (.sc .ptr), 1, 8, [(Go.Value.pointer Option.none)]⟩,
  ⟨.ptr 152, (.sc .ptr), 1, 8, [(Go.Value.pointer Option.none)]⟩,
  ⟨.struct [(0, 17)], (.agg [.ptr]), 1, 8, [(Go.Value.pointer Option.none)]⟩,
  ⟨.struct [(0, 17)], (.agg [.ptr]), 1, 8, [(Go.Value.pointer Option.none)]⟩,
  ⟨.other, (.sc .any), 1, 16, [Go.Value.nilIface]⟩,
  ⟨.int .i32, (.sc (.int .i32)), 1, 4, [(Go.Value.int Go.IntKind.i32 0)]⟩,
  ⟨.struct [(0, 3), (1, 3), (2, 3)], (.agg [(.int .i64), (.int .i64), (.int .i64)]), 3, 24, [(Go.Value.int Go.IntKind.i64 0), (Go.Value.int Go.IntKind.i64 0), (Go.Value.int Go.IntKind.i64 0)]⟩,
  ⟨.struct [(0, 3), (1, 3), (2, 3)], (.agg [(.int .i64), (.int .i64), (.int .i64)]), 3, 24, [(Go.Value.int Go.IntKind.i64 0), (Go.Value.int Go.IntKind.i64 0), (Go.Value.int Go.IntKind.i64 0)]⟩,
  ⟨.int .u64, (.sc (.int .u64)), 1, 8, [(Go.Value.int Go.IntKind.u64 0)]⟩,
  ⟨.slice 5, (.sc .slc), 1, 24, [(Go.Value.slice Option.none 0 0)]⟩,
  ⟨.slice 3, (.sc .slc), 1, 24, [(Go.Value.slice Option.none 0 0)]⟩,
  ⟨.fn, (.sc .fn), 1, 8, [Go.Value.nilFunc]⟩,
  ⟨.fn, (.sc .fn), 1, 8, [Go.Value.nilFunc]⟩,
  ⟨.slice 23, (.sc .slc), 1, 24, [(Go.Value.slice Option.none 0 0)]⟩,
  ⟨.int .u32, (.sc (.int .u32)), 1, 4, [(Go.Value.int Go.IntKind.u32 0)]⟩,
  ⟨.fn, (.sc .fn), 1, 8, [Go.Value.nilFunc]⟩,
  ⟨.fn, (.sc .fn), 1, 8, [Go.Value.nilFunc]⟩,
  ⟨.fn, (.sc .fn), 1, 8, [Go.Value.nilFunc]⟩,
  ⟨.fn, (.sc .fn), 1, 8, [Go.Value.nilFunc]⟩,
  ⟨.ptr 60, (.sc .ptr), 1, 8, [(Go.Value.pointer Option.none)]⟩,
  ⟨.int .i64, (.sc (.int .i64)), 1, 8, [(Go.Value.int Go.IntKind.i64 0)]⟩,
  ⟨.other, (.sc .any), 1, 0, [(Go.Value.tuple #[(Go.Value.pointer Option.none), (Go.Value.int Go.IntKind.i64 0)])]⟩,
  ⟨.fn, (.sc .fn), 1, 8, [Go.Value.nilFunc]⟩,
  ⟨.ptr 47, (.sc .ptr), 1, 8, [(Go.Value.pointer Option.none)]⟩,
  ⟨.other, (.sc .any), 1, 0, [(Go.Value.tuple #[(Go.Value.pointer Option.none), (Go.Value.int Go.IntKind.i64 0)])]⟩,
  ⟨.fn, (.sc .fn), 1, 8, [Go.Value.nilFunc]⟩,
  ⟨.fn, (.sc .fn), 1, 8, [Go.Value.nilFunc]⟩,
  ⟨.fn, (.sc .fn), 1, 8, [Go.Value.nilFunc]⟩,
  ⟨.slice 25, (.sc .slc), 1, 24, [(Go.Value.slice Option.none 0 0)]⟩,
  ⟨.fn, (.sc .fn), 1, 8, [Go.Value.nilFunc]⟩,
  ⟨.struct [(0, 23), (3, 30), (4, 44)], (.agg [(.int .i64), (.int .i64), (.int .i64), (.int .u32), .slc]), 5, 56, [(Go.Value.int Go.IntKind.i64 0), (Go.Value.int Go.IntKind.i64 0), (Go.Value.int Go.IntKind.i64 0), (Go.Value.int Go.IntKind.u32 0), (Go.Value.slice Option.none 0 0)]⟩,
  ⟨.struct [(0, 23), (3, 30), (4, 44)], (.agg [(.int .i64), (.int .i64), (.int .i64), (.int .u32), .slc]), 5, 56, [(Go.Value.int Go.IntKind.i64 0), (Go.Value.int Go.IntKind.i64 0), (Go.Value.int Go.IntKind.i64 0), (Go.Value.int Go.IntKind.u32 0), (Go.Value.slice Option.none 0 0)]⟩,
  ⟨.fn, (.sc .fn), 1, 8, [Go.Value.nilFunc]⟩,
  ⟨.fn, (.sc .fn), 1, 8, [Go.Value.nilFunc]⟩,
  ⟨.fn, (.sc .fn), 1, 8, [Go.Value.nilFunc]⟩,
  ⟨.fn, (.sc .fn), 1, 8, [Go.Value.nilFunc]⟩,
  ⟨.fn, (.sc .fn), 1, 8, [Go.Value.nilFunc]⟩,
  ⟨.other, (.sc .any), 1, 0, [(Go.Value.tuple #[(Go.Value.slice Option.none 0 0), (Go.Value.int Go.IntKind.i64 0)])]⟩,
  ⟨.fn, (.sc .fn), 1, 8, [Go.Value.nilFunc]⟩,
  ⟨.ptr 80, (.sc .ptr), 1, 8, [(Go.Value.pointer Option.none)]⟩,
  ⟨.fn, (.sc .fn), 1, 8, [Go.Value.nilFunc]⟩,
  ⟨.fn, (.sc .fn), 1, 8, [Go.Value.nilFunc]⟩,
  ⟨.fn, (.sc .fn), 1, 8, [Go.Value.nilFunc]⟩,
  ⟨.struct [(0, 23), (3, 30), (4, 44)], (.agg [(.int .i64), (.int .i64), (.int .i64), (.int .u32), .slc]), 5, 56, [(Go.Value.int Go.IntKind.i64 0), (Go.Value.int Go.IntKind.i64 0), (Go.Value.int Go.IntKind.i64 0), (Go.Value.int Go.IntKind.u32 0), (Go.Value.slice Option.none 0 0)]⟩,
  ⟨.struct [(0, 23), (3, 30), (4, 44)], (.agg [(.int .i64), (.int .i64), (.int .i64), (.int .u32), .slc]), 5, 56, [(Go.Value.int Go.IntKind.i64 0), (Go.Value.int Go.IntKind.i64 0), (Go.Value.int Go.IntKind.i64 0), (Go.Value.int Go.IntKind.u32 0), (Go.Value.slice Option.none 0 0)]⟩,
  ⟨.fn, (.sc .fn), 1, 8, [Go.Value.nilFunc]⟩,
  ⟨.fn, (.sc .fn), 1, 8, [Go.Value.nilFunc]⟩,
  ⟨.fn, (.sc .fn), 1, 8, [Go.Value.nilFunc]⟩,
  ⟨.fn, (.sc .fn), 1, 8, [Go.Value.nilFunc]⟩,
  ⟨.fn, (.sc .fn), 1, 8, [Go.Value.nilFunc]⟩,
  ⟨.fn, (.sc .fn), 1, 8, [Go.Value.nilFunc]⟩,
  ⟨.fn, (.sc .fn), 1, 8, [Go.Value.nilFunc]⟩,
  ⟨.fn, (.sc .fn), 1, 8, [Go.Value.nilFunc]⟩,
  ⟨.fn, (.sc .fn), 1, 8, [Go.Value.nilFunc]⟩,
  ⟨.fn, (.sc .fn), 1, 8, [Go.Value.nilFunc]⟩,
  ⟨.fn, (.sc .fn), 1, 8, [Go.Value.nilFunc]⟩,
  ⟨.fn, (.sc .fn), 1, 8, [Go.Value.nilFunc]⟩,
  ⟨.fn, (.sc .fn), 1, 8, [Go.Value.nilFunc]⟩,
  ⟨.fn, (.sc .fn), 1, 8, [Go.Value.nilFunc]⟩,
  ⟨.array 255 5, (.arr (.int .u8)), 255, 255, [(Go.Value.int Go.IntKind.u8 0), (Go.Value.int Go.IntKind.u8 0), (Go.Value.int Go.IntKind.u8 0), (Go.Value.int Go.IntKind.u8 0), (Go.Value.int Go.IntKind.u8 0), (Go.Value.int Go.IntKind.u8 0), (Go.Value.int Go.IntKind.u8 0), (Go.Value.int Go.IntKind.u8 0), (Go.Value.int Go.IntKind.u8 0), (Go.Value.int Go.IntKind.u8 0), (Go.Value.int Go.IntKind.u8 0), (Go.Value.int Go.IntKind.u8 0), (Go.Value.int Go.IntKind.u8 0), (Go.Value.int Go.IntKind.u8 0), (Go.Value.int Go.IntKind.u8 0), (Go.Value.int Go.IntKind.u8 0), (Go.Value.int Go.IntKind.u8 0), (Go.Value.int Go.IntKind.u8 0), (Go.Value.int Go.IntKind.u8 0), (Go.Value.int Go.IntKind.u8 0), (Go.Value.int Go.IntKind.u8 0), (Go.Value.int Go.IntKind.u8 0), (Go.Value.int Go.IntKind.u8 0), (Go.Value.int Go.IntKind.u8 0), (Go.Value.int Go.IntKind.u8 0), (Go.Value.int Go.IntKind.u8 0), (Go.Value.int Go.IntKind.u8 0), (Go.Value.int Go.IntKind.u8 0), (Go.Value.int Go.IntKind.u8 0), (Go.Value.int Go.IntKind.u8 0), (Go.Value.int Go.IntKind.u8 0), (Go.Value.int Go.IntKind.u8 0), (Go.Value.int Go.IntKind.u8 0), (Go.Value.int Go.IntKind.u8 0), (Go.Value.int Go.IntKind.u8 0), (Go.Value.int Go.IntKind.u8 0), (Go.Value.int Go.IntKind.u8 0), (Go.Value.int Go.IntKind.u8 0), (Go.Value.int Go.IntKind.u8 0), (Go.Value.int Go.IntKind.u8 0), (Go.Value.int Go.IntKind.u8 0), (Go.Value.int Go.IntKind.u8 0), (Go.Value.int Go.IntKind.u8 0), (Go.Value.int Go.IntKind.u8 0), (Go.Value.int Go.IntKind.u8 0), (Go.Value.int Go.IntKind.u8 0), (Go.Value.int Go.IntKind.u8 0), (Go.Value.int Go.IntKind.u8 0), (Go.Value.int Go.IntKind.u8 0), (Go.Value.int Go.IntKind.u8 0), (Go.Value.int Go.IntKind.u8 0), (Go.Value.int Go.IntKind.u8 0), (Go.Value.int Go.IntKind.u8 0), (Go.Value.int Go.IntKind.u8 0), (Go.Value.int Go.IntKind.u8 0), (Go.Value.int Go.IntKind.u8 0), (Go.Value.int Go.IntKind.u8 0), (Go.Value.int Go.IntKind.u8 0), (Go.Value.int Go.IntKind.u8 0), (Go.Value.int Go.IntKind.u8 0), (Go.Value.int Go.IntKind.u8 0), (Go.Value.int Go.IntKind.u8 0), (Go.Value.int Go.IntKind.u8 0), (Go.Value.int Go.IntKind.u8 0), (Go.Value.int Go.IntKind.u8 0), (Go.Value.int Go.IntKind.u8 0), (Go.Value.int Go.IntKind.u8 0), (Go.Value.int Go.IntKind.u8 0), (Go.Value.int Go.IntKind.u8 0), (Go.Value.int Go.IntKind.u8 0), (Go.Value.int Go.IntKind.u8 0), (Go.Value.int Go.IntKind.u8 0), (Go.Value.int Go.IntKind.u8 0), (Go.Value.int Go.IntKind.u8 0), (Go.Value.int Go.IntKind.u8 0), (Go.Value.int Go.IntKind.u8 0), (Go.Value.int Go.IntKind.u8 0), (Go.Value.int Go.IntKind.u8 0), (Go.Value.int Go.IntKind.u8 0), (Go.Value.int Go.IntKind.u8 0), (Go.Value.int Go.IntKind.u8 0), (Go.Value.int Go.IntKind.u8 0), (Go.Value.int Go.IntKind.u8 0), (Go.Value.int Go.IntKind.u8 0), (Go.Value.int Go.IntKind.u8 0), (Go.Value.int Go.IntKind.u8 0), (Go.Value.int Go.IntKind.u8 0), (Go.Value.int Go.IntKind.u8 0), (Go.Value.int Go.IntKind.u8 0), (Go.Value.int Go.IntKind.u8 0), (Go.Value.int Go.IntKind.u8 0), (Go.Value.int Go.IntKind.u8 0), (Go.Value.int Go.IntKind.u8 0), (Go.Value.int Go.IntKind.u8 0), (Go.Value.int Go.IntKind.u8 0), (Go.Value.int Go.IntKind.u8 0), (Go.Value.int Go.IntKind.u8 0), (Go.Value.int Go.IntKind.u8 0), (Go.Value.int Go.IntKind.u8 0), (Go.Value.int Go.IntKind.u8 0), (Go.Value.int Go.IntKind.u8 0), (Go.Value.int Go.IntKind.u8 0), (Go.Value.int Go.IntKind.u8 0), (Go.Value.int Go.IntKind.u8 0), (Go.Value.int Go.IntKind.u8 0), (Go.Value.int Go.IntKind.u8 0), (Go.Value.int Go.IntKind.u8 0), (Go.Value.int Go.IntKind.u8 0), (Go.Value.int Go.IntKind.u8 0), (Go.Value.int Go.IntKind.u8 0), (Go.Value.int Go.IntKind.u8 0), (Go.Value.int Go.IntKind.u8 0), (Go.Value.int Go.IntKind.u8 0), (Go.Value.int Go.IntKind.u8 0), (Go.Value.int Go.IntKind.u8 0), (Go.Value.int Go.IntKind.u8 0), (Go.Value.int Go.IntKind.u8 0), (Go.Value.int Go.IntKind.u8 0), (Go.Value.int Go.IntKind.u8 0), (Go.Value.int Go.IntKind.u8 0), (Go.Value.int Go.IntKind.u8 0), (Go.Value.int Go.IntKind.u8 0), (Go.Value.int Go.IntKind.u8 0), (Go.Value.int Go.IntKind.u8 0), (Go.Value.int Go.IntKind.u8 0), (Go.Value.int Go.IntKind.u8 0), (Go.Value.int Go.IntKind.u8 0), (Go.Value.int Go.IntKind.u8 0), (Go.Value.int Go.IntKind.u8 0), (Go.Value.int Go.IntKind.u8 0), (Go.Value.int Go.IntKind.u8 0), (Go.Value.int Go.IntKind.u8 0), (Go.Value.int Go.IntKind.u8 0), (Go.Value.int Go.IntKind.u8 0), (Go.Value.int Go.IntKind.u8 0), (Go.Value.int Go.IntKind.u8 0), (Go.Value.int Go.IntKind.u8 0), (Go.Value.int Go.IntKind.u8 0), (Go.Value.int Go.IntKind.u8 0), (Go.Value.int Go.IntKind.u8 0), (Go.Value.int Go.IntKind.u8 0), (Go.Value.int Go.IntKind.u8 0), (Go.Value.int Go.IntKind.u8 0), (Go.Value.int Go.IntKind.u8 0), (Go.Value.int Go.IntKind.u8 0), (Go.Value.int Go.IntKind.u8 0), (Go.Value.int Go.IntKind.u8 0), (Go.Value.int Go.IntKind.u8 0), (Go.Value.int Go.IntKind.u8 0), (Go.Value.int Go.IntKind.u8 0), (Go.Value.int Go.IntKind.u8 0), (Go.Value.int Go.IntKind.u8 0), (Go.Value.int Go.IntKind.u8 0), (Go.Value.int Go.IntKind.u8 0), (Go.Value.int Go.IntKind.u8 0), (Go.Value.int Go.IntKind.u8 0), (Go.Value.int Go.IntKind.u8 0), (Go.Value.int Go.IntKind.u8 0), (Go.Value.int Go.IntKind.u8 0), (Go.Value.int Go.IntKind.u8 0), (Go.Value.int Go.IntKind.u8 0), (Go.Value.int Go.IntKind.u8 0), (Go.Value.int Go.IntKind.u8 0), (Go.Value.int Go.IntKind.u8 0), (Go.Value.int Go.IntKind.u8 0), (Go.Value.int Go.IntKind.u8 0), (Go.Value.int Go.IntKind.u8 0), (Go.Value.int Go.IntKind.u8 0), (Go.Value.int Go.IntKind.u8 0), (Go.Value.int Go.IntKind.u8 0), (Go.Value.int Go.IntKind.u8 0), (Go.Value.int Go.IntKind.u8 0), (Go.Value.int Go.IntKind.u8 0), (Go.Value.int Go.IntKind.u8 0), (Go.Value.int Go.IntKind.u8 0), (Go.Value.int Go.IntKind.u8 0), (Go.Value.int Go.IntKind.u8 0), (Go.Value.int Go.IntKind.u8 0), (Go.Value.int Go.IntKind.u8 0), (Go.Value.int Go.IntKind.u8 0), (Go.Value.int Go.IntKind.u8 0), (Go.Value.int Go.IntKind.u8 0), (Go.Value.int Go.IntKind.u8 0), (Go.Value.int Go.IntKind.u8 0), (Go.Value.int Go.IntKind.u8 0), (Go.Value.int Go.IntKind.u8 0), (Go.Value.int Go.IntKind.u8 0), (Go.Value.int Go.IntKind.u8 0), (Go.Value.int Go.IntKind.u8 0), (Go.Value.int Go.IntKind.u8 0), (Go.Value.int Go.IntKind.u8 0), (Go.Value.int Go.IntKind.u8 0), (Go.Value.int Go.IntKind.u8 0), (Go.Value.int Go.IntKind.u8 0), (Go.Value.int Go.IntKind.u8 0), (Go.Value.int Go.IntKind.u8 0), (Go.Value.int Go.IntKind.u8 0), (Go.Value.int Go.IntKind.u8 0), (Go.Value.int Go.IntKind.u8 0), (Go.Value.int Go.IntKind.u8 0), (Go.Value.int Go.IntKind.u8 0), (Go.Value.int Go.IntKind.u8 0), (Go.Value.int Go.IntKind.u8 0), (Go.Value.int Go.IntKind.u8 0), (Go.Value.int Go.IntKind.u8 0), (Go.Value.int Go.IntKind.u8 0), (Go.Value.int Go.IntKind.u8 0), (Go.Value.int Go.IntKind.u8 0), (Go.Value.int Go.IntKind.u8 0), (Go.Value.int Go.IntKind.u8 0), (Go.Value.int Go.IntKind.u8 0), (Go.Value.int Go.IntKind.u8 0), (Go.Value.int Go.IntKind.u8 0), (Go.Value.int Go.IntKind.u8 0), (Go.Value.int Go.IntKind.u8 0), (Go.Value.int Go.IntKind.u8 0), (Go.Value.int Go.IntKind.u8 0), (Go.Value.int Go.IntKind.u8 0), (Go.Value.int Go.IntKind.u8 0), (Go.Value.int Go.IntKind.u8 0), (Go.Value.int Go.IntKind.u8 0), (Go.Value.int Go.IntKind.u8 0), (Go.Value.int Go.IntKind.u8 0), (Go.Value.int Go.IntKind.u8 0), (Go.Value.int Go.IntKind.u8 0), (Go.Value.int Go.IntKind.u8 0), (Go.Value.int Go.IntKind.u8 0), (Go.Value.int Go.IntKind.u8 0), (Go.Value.int Go.IntKind.u8 0), (Go.Value.int Go.IntKind.u8 0), (Go.Value.int Go.IntKind.u8 0), (Go.Value.int Go.IntKind.u8 0), (Go.Value.int Go.IntKind.u8 0), (Go.Value.int Go.IntKind.u8 0), (Go.Value.int Go.IntKind.u8 0), (Go.Value.int Go.IntKind.u8 0), (Go.Value.int Go.IntKind.u8 0), (Go.Value.int Go.IntKind.u8 0), (Go.Value.int Go.IntKind.u8 0), (Go.Value.int Go.IntKind.u8 0), (Go.Value.int Go.IntKind.u8 0), (Go.Value.int Go.IntKind.u8 0), (Go.Value.int Go.IntKind.u8 0), (Go.Value.int Go.IntKind.u8 0), (Go.Value.int Go.IntKind.u8 0), (Go.Value.int Go.IntKind.u8 0), (Go.Value.int Go.IntKind.u8 0), (Go.Value.int Go.IntKind.u8 0), (Go.Value.int Go.IntKind.u8 0), (Go.Value.int Go.IntKind.u8 0), (Go.Value.int Go.IntKind.u8 0), (Go.Value.int Go.IntKind.u8 0), (Go.Value.int Go.IntKind.u8 0), (Go.Value.int Go.IntKind.u8 0), (Go.Value.int Go.IntKind.u8 0)]⟩,
  ⟨.fn, (.sc .fn), 1, 8, [Go.Value.nilFunc]⟩,
  ⟨.array 256 3, (.arr (.int .i64)), 256, 2048, [(Go.Value.int Go.IntKind.i64 0), (Go.Value.int Go.IntKind.i64 0), (Go.Value.int Go.IntKind.i64 0), (Go.Value.int Go.IntKind.i64 0), (Go.Value.int Go.IntKind.i64 0), (Go.Value.int Go.IntKind.i64 0), (Go.Value.int Go.IntKind.i64 0), (Go.Value.int Go.IntKind.i64 0), (Go.Value.int Go.IntKind.i64 0), (Go.Value.int Go.IntKind.i64 0), (Go.Value.int Go.IntKind.i64 0), (Go.Value.int Go.IntKind.i64 0), (Go.Value.int Go.IntKind.i64 0), (Go.Value.int Go.IntKind.i64 0), (Go.Value.int Go.IntKind.i64 0), (Go.Value.int Go.IntKind.i64 0), (Go.Value.int Go.IntKind.i64 0), (Go.Value.int Go.IntKind.i64 0), (Go.Value.int Go.IntKind.i64 0), (Go.Value.int Go.IntKind.i64 0), (Go.Value.int Go.IntKind.i64 0), (Go.Value.int Go.IntKind.i64 0), (Go.Value.int Go.IntKind.i64 0), (Go.Value.int Go.IntKind.i64 0), (Go.Value.int Go.IntKind.i64 0), (Go.Value.int Go.IntKind.i64 0), (Go.Value.int Go.IntKind.i64 0), (Go.Value.int Go.IntKind.i64 0), (Go.Value.int Go.IntKind.i64 0), (Go.Value.int Go.IntKind.i64 0), (Go.Value.int Go.IntKind.i64 0), (Go.Value.int Go.IntKind.i64 0), (Go.Value.int Go.IntKind.i64 0), (Go.Value.int Go.IntKind.i64 0), (Go.Value.int Go.IntKind.i64 0), (Go.Value.int Go.IntKind.i64 0), (Go.Value.int Go.IntKind.i64 0), (Go.Value.int Go.IntKind.i64 0), (Go.Value.int Go.IntKind.i64 0), (Go.Value.int Go.IntKind.i64 0), (Go.Value.int Go.IntKind.i64 0), (Go.Value.int Go.IntKind.i64 0), (Go.Value.int Go.IntKind.i64 0), (Go.Value.int Go.IntKind.i64 0), (Go.Value.int Go.IntKind.i64 0), (Go.Value.int Go.IntKind.i64 0), (Go.Value.int Go.IntKind.i64 0), (Go.Value.int Go.IntKind.i64 0), (Go.Value.int Go.IntKind.i64 0), (Go.Value.int Go.IntKind.i64 0), (Go.Value.int Go.IntKind.i64 0), (Go.Value.int Go.IntKind.i64 0), (Go.Value.int Go.IntKind.i64 0), (Go.Value.int Go.IntKind.i64 0), (Go.Value.int Go.IntKind.i64 0), (Go.Value.int Go.IntKind.i64 0), (Go.Value.int Go.IntKind.i64 0), (Go.Value.int Go.IntKind.i64 0), (Go.Value.int Go.IntKind.i64 0), (Go.Value.int Go.IntKind.i64 0), (Go.Value.int Go.IntKind.i64 0), (Go.Value.int Go.IntKind.i64 0), (Go.Value.int Go.IntKind.i64 0), (Go.Value.int Go.IntKind.i64 0), (Go.Value.int Go.IntKind.i64 0), (Go.Value.int Go.IntKind.i64 0), (Go.Value.int Go.IntKind.i64 0), (Go.Value.int Go.IntKind.i64 0), (Go.Value.int Go.IntKind.i64 0), (Go.Value.int Go.IntKind.i64 0), (Go.Value.int Go.IntKind.i64 0), (Go.Value.int Go.IntKind.i64 0), (Go.Value.int Go.IntKind.i64 0), (Go.Value.int Go.IntKind.i64 0), (Go.Value.int Go.IntKind.i64 0), (Go.Value.int Go.IntKind.i64 0), (Go.Value.int Go.IntKind.i64 0), (Go.Value.int Go.IntKind.i64 0), (Go.Value.int Go.IntKind.i64 0), (Go.Value.int Go.IntKind.i64 0), (Go.Value.int Go.IntKind.i64 0), (Go.Value.int Go.IntKind.i64 0), (Go.Value.int Go.IntKind.i64 0), (Go.Value.int Go.IntKind.i64 0), (Go.Value.int Go.IntKind.i64 0), (Go.Value.int Go.IntKind.i64 0), (Go.Value.int Go.IntKind.i64 0), (Go.Value.int Go.IntKind.i64 0), (Go.Value.int Go.IntKind.i64 0), (Go.Value.int Go.IntKind.i64 0), (Go.Value.int Go.IntKind.i64 0), (Go.Value.int Go.IntKind.i64 0), (Go.Value.int Go.IntKind.i64 0), (Go.Value.int Go.IntKind.i64 0), (Go.Value.int Go.IntKind.i64 0), (Go.Value.int Go.IntKind.i64 0), (Go.Value.int Go.IntKind.i64 0), (Go.Value.int Go.IntKind.i64 0), (Go.Value.int Go.IntKind.i64 0), (Go.Value.int Go.IntKind.i64 0), (Go.Value.int Go.IntKind.i64 0), (Go.Value.int Go.IntKind.i64 0), (Go.Value.int Go.IntKind.i64 0), (Go.Value.int Go.IntKind.i64 0), (Go.Value.int Go.IntKind.i64 0), (Go.Value.int Go.IntKind.i64 0), (Go.Value.int Go.IntKind.i64 0), (Go.Value.int Go.IntKind.i64 0), (Go.Value.int Go.IntKind.i64 0), (Go.Value.int Go.IntKind.i64 0), (Go.Value.int Go.IntKind.i64 0), (Go.Value.int Go.IntKind.i64 0), (Go.Value.int Go.IntKind.i64 0), (Go.Value.int Go.IntKind.i64 0), (Go.Value.int Go.IntKind.i64 0), (Go.Value.int Go.IntKind.i64 0), (Go.Value.int Go.IntKind.i64 0), (Go.Value.int Go.IntKind.i64 0), (Go.Value.int Go.IntKind.i64 0), (Go.Value.int Go.IntKind.i64 0), (Go.Value.int Go.IntKind.i64 0), (Go.Value.int Go.IntKind.i64 0), (Go.Value.int Go.IntKind.i64 0), (Go.Value.int Go.IntKind.i64 0), (Go.Value.int Go.IntKind.i64 0), (Go.Value.int Go.IntKind.i64 0), (Go.Value.int Go.IntKind.i64 0), (Go.Value.int Go.IntKind.i64 0), (Go.Value.int Go.IntKind.i64 0), (Go.Value.int Go.IntKind.i64 0), (Go.Value.int Go.IntKind.i64 0), (Go.Value.int Go.IntKind.i64 0), (Go.Value.int Go.IntKind.i64 0), (Go.Value.int Go.IntKind.i64 0), (Go.Value.int Go.IntKind.i64 0), (Go.Value.int Go.IntKind.i64 0), (Go.Value.int Go.IntKind.i64 0), (Go.Value.int Go.IntKind.i64 0), (Go.Value.int Go.IntKind.i64 0), (Go.Value.int Go.IntKind.i64 0), (Go.Value.int Go.IntKind.i64 0), (Go.Value.int Go.IntKind.i64 0), (Go.Value.int Go.IntKind.i64 0), (Go.Value.int Go.IntKind.i64 0), (Go.Value.int Go.IntKind.i64 0), (Go.Value.int Go.IntKind.i64 0), (Go.Value.int Go.IntKind.i64 0), (Go.Value.int Go.IntKind.i64 0), (Go.Value.int Go.IntKind.i64 0), (Go.Value.int Go.IntKind.i64 0), (Go.Value.int Go.IntKind.i64 0), (Go.Value.int Go.IntKind.i64 0), (Go.Value.int Go.IntKind.i64 0), (Go.Value.int Go.IntKind.i64 0), (Go.Value.int Go.IntKind.i64 0), (Go.Value.int Go.IntKind.i64 0), (Go.Value.int Go.IntKind.i64 0), (Go.Value.int Go.IntKind.i64 0), (Go.Value.int Go.IntKind.i64 0), (Go.Value.int Go.IntKind.i64 0), (Go.Value.int Go.IntKind.i64 0), (Go.Value.int Go.IntKind.i64 0), (Go.Value.int Go.IntKind.i64 0), (Go.Value.int Go.IntKind.i64 0), (Go.Value.int Go.IntKind.i64 0), (Go.Value.int Go.IntKind.i64 0), (Go.Value.int Go.IntKind.i64 0), (Go.Value.int Go.IntKind.i64 0), (Go.Value.int Go.IntKind.i64 0), (Go.Value.int Go.IntKind.i64 0), (Go.Value.int Go.IntKind.i64 0), (Go.Value.int Go.IntKind.i64 0), (Go.Value.int Go.IntKind.i64 0), (Go.Value.int Go.IntKind.i64 0), (Go.Value.int Go.IntKind.i64 0), (Go.Value.int Go.IntKind.i64 0), (Go.Value.int Go.IntKind.i64 0), (Go.Value.int Go.IntKind.i64 0), (Go.Value.int Go.IntKind.i64 0), (Go.Value.int Go.IntKind.i64 0), (Go.Value.int Go.IntKind.i64 0), (Go.Value.int Go.IntKind.i64 0), (Go.Value.int Go.IntKind.i64 0), (Go.Value.int Go.IntKind.i64 0), (Go.Value.int Go.IntKind.i64 0), (Go.Value.int Go.IntKind.i64 0), (Go.Value.int Go.IntKind.i64 0), (Go.Value.int Go.IntKind.i64 0), (Go.Value.int Go.IntKind.i64 0), (Go.Value.int Go.IntKind.i64 0), (Go.Value.int Go.IntKind.i64 0), (Go.Value.int Go.IntKind.i64 0), (Go.Value.int Go.IntKind.i64 0), (Go.Value.int Go.IntKind.i64 0), (Go.Value.int Go.IntKind.i64 0), (Go.Value.int Go.IntKind.i64 0), (Go.Value.int Go.IntKind.i64 0), (Go.Value.int Go.IntKind.i64 0), (Go.Value.int Go.IntKind.i64 0), (Go.Value.int Go.IntKind.i64 0), (Go.Value.int Go.IntKind.i64 0), (Go.Value.int Go.IntKind.i64 0), (Go.Value.int Go.IntKind.i64 0), (Go.Value.int Go.IntKind.i64 0), (Go.Value.int Go.IntKind.i64 0), (Go.Value.int Go.IntKind.i64 0), (Go.Value.int Go.IntKind.i64 0), (Go.Value.int Go.IntKind.i64 0), (Go.Value.int Go.IntKind.i64 0), (Go.Value.int Go.IntKind.i64 0), (Go.Value.int Go.IntKind.i64 0), (Go.Value.int Go.IntKind.i64 0), (Go.Value.int Go.IntKind.i64 0), (Go.Value.int Go.IntKind.i64 0), (Go.Value.int Go.IntKind.i64 0), (Go.Value.int Go.IntKind.i64 0), (Go.Value.int Go.IntKind.i64 0), (Go.Value.int Go.IntKind.i64 0), (Go.Value.int Go.IntKind.i64 0), (Go.Value.int Go.IntKind.i64 0), (Go.Value.int Go.IntKind.i64 0), (Go.Value.int Go.IntKind.i64 0), (Go.Value.int Go.IntKind.i64 0), (Go.Value.int Go.IntKind.i64 0), (Go.Value.int Go.IntKind.i64 0), (Go.Value.int Go.IntKind.i64 0), (Go.Value.int Go.IntKind.i64 0), (Go.Value.int Go.IntKind.i64 0), (Go.Value.int Go.IntKind.i64 0), (Go.Value.int Go.IntKind.i64 0), (Go.Value.int Go.IntKind.i64 0), (Go.Value.int Go.IntKind.i64 0), (Go.Value.int Go.IntKind.i64 0), (Go.Value.int Go.IntKind.i64 0), (Go.Value.int Go.IntKind.i64 0), (Go.Value.int Go.IntKind.i64 0), (Go.Value.int Go.IntKind.i64 0), (Go.Value.int Go.IntKind.i64 0), (Go.Value.int Go.IntKind.i64 0), (Go.Value.int Go.IntKind.i64 0), (Go.Value.int Go.IntKind.i64 0), (Go.Value.int Go.IntKind.i64 0), (Go.Value.int Go.IntKind.i64 0), (Go.Value.int Go.IntKind.i64 0), (Go.Value.int Go.IntKind.i64 0), (Go.Value.int Go.IntKind.i64 0), (Go.Value.int Go.IntKind.i64 0), (Go.Value.int Go.IntKind.i64 0), (Go.Value.int Go.IntKind.i64 0), (Go.Value.int Go.IntKind.i64 0), (Go.Value.int Go.IntKind.i64 0), (Go.Value.int Go.IntKind.i64 0), (Go.Value.int Go.IntKind.i64 0), (Go.Value.int Go.IntKind.i64 0), (Go.Value.int Go.IntKind.i64 0), (Go.Value.int Go.IntKind.i64 0)]⟩,
  ⟨.fn, (.sc .fn), 1, 8, [Go.Value.nilFunc]⟩,
  ⟨.struct [(0, 75), (255, 77)], (.arr .any), 511, 2304, [(Go.Value.int Go.IntKind.u8 0), (Go.Value.int Go.IntKind.u8 0), (Go.Value.int Go.IntKind.u8 0), (Go.Value.int Go.IntKind.u8 0), (Go.Value.int Go.IntKind.u8 0), (Go.Value.int Go.IntKind.u8 0), (Go.Value.int Go.IntKind.u8 0), (Go.Value.int Go.IntKind.u8 0), (Go.Value.int Go.IntKind.u8 0), (Go.Value.int Go.IntKind.u8 0), (Go.Value.int Go.IntKind.u8 0), (Go.Value.int Go.IntKind.u8 0), (Go.Value.int Go.IntKind.u8 0), (Go.Value.int Go.IntKind.u8 0), (Go.Value.int Go.IntKind.u8 0), (Go.Value.int Go.IntKind.u8 0), (Go.Value.int Go.IntKind.u8 0), (Go.Value.int Go.IntKind.u8 0), (Go.Value.int Go.IntKind.u8 0), (Go.Value.int Go.IntKind.u8 0), (Go.Value.int Go.IntKind.u8 0), (Go.Value.int Go.IntKind.u8 0), (Go.Value.int Go.IntKind.u8 0), (Go.Value.int Go.IntKind.u8 0), (Go.Value.int Go.IntKind.u8 0), (Go.Value.int Go.IntKind.u8 0), (Go.Value.int Go.IntKind.u8 0), (Go.Value.int Go.IntKind.u8 0), (Go.Value.int Go.IntKind.u8 0), (Go.Value.int Go.IntKind.u8 0), (Go.Value.int Go.IntKind.u8 0), (Go.Value.int Go.IntKind.u8 0), (Go.Value.int Go.IntKind.u8 0), (Go.Value.int Go.IntKind.u8 0), (Go.Value.int Go.IntKind.u8 0), (Go.Value.int Go.IntKind.u8 0), (Go.Value.int Go.IntKind.u8 0), (Go.Value.int Go.IntKind.u8 0), (Go.Value.int Go.IntKind.u8 0), (Go.Value.int Go.IntKind.u8 0), (Go.Value.int Go.IntKind.u8 0), (Go.Value.int Go.IntKind.u8 0), (Go.Value.int Go.IntKind.u8 0), (Go.Value.int Go.IntKind.u8 0), (Go.Value.int Go.IntKind.u8 0), (Go.Value.int Go.IntKind.u8 0), (Go.Value.int Go.IntKind.u8 0), (Go.Value.int Go.IntKind.u8 0), (Go.Value.int Go.IntKind.u8 0), (Go.Value.int Go.IntKind.u8 0), (Go.Value.int Go.IntKind.u8 0), (Go.Value.int Go.IntKind.u8 0), (Go.Value.int Go.IntKind.u8 0), (Go.Value.int Go.IntKind.u8 0), (Go.Value.int Go.IntKind.u8 0), (Go.Value.int Go.IntKind.u8 0), (Go.Value.int Go.IntKind.u8 0), (Go.Value.int Go.IntKind.u8 0), (Go.Value.int Go.IntKind.u8 0), (Go.Value.int Go.IntKind.u8 0), (Go.Value.int Go.IntKind.u8 0), (Go.Value.int Go.IntKind.u8 0), (Go.Value.int Go.IntKind.u8 0), (Go.Value.int Go.IntKind.u8 0), (Go.Value.int Go.IntKind.u8 0), (Go.Value.int Go.IntKind.u8 0), (Go.Value.int Go.IntKind.u8 0), (Go.Value.int Go.IntKind.u8 0), (Go.Value.int Go.IntKind.u8 0), (Go.Value.int Go.IntKind.u8 0), (Go.Value.int Go.IntKind.u8 0), (Go.Value.int Go.IntKind.u8 0), (Go.Value.int Go.IntKind.u8 0), (Go.Value.int Go.IntKind.u8 0), (Go.Value.int Go.IntKind.u8 0), (Go.Value.int Go.IntKind.u8 0), (Go.Value.int Go.IntKind.u8 0), (Go.Value.int Go.IntKind.u8 0), (Go.Value.int Go.IntKind.u8 0), (Go.Value.int Go.IntKind.u8 0), (Go.Value.int Go.IntKind.u8 0), (Go.Value.int Go.IntKind.u8 0), (Go.Value.int Go.IntKind.u8 0), (Go.Value.int Go.IntKind.u8 0), (Go.Value.int Go.IntKind.u8 0), (Go.Value.int Go.IntKind.u8 0), (Go.Value.int Go.IntKind.u8 0), (Go.Value.int Go.IntKind.u8 0), (Go.Value.int Go.IntKind.u8 0), (Go.Value.int Go.IntKind.u8 0), (Go.Value.int Go.IntKind.u8 0), (Go.Value.int Go.IntKind.u8 0), (Go.Value.int Go.IntKind.u8 0), (Go.Value.int Go.IntKind.u8 0), (Go.Value.int Go.IntKind.u8 0), (Go.Value.int Go.IntKind.u8 0), (Go.Value.int Go.IntKind.u8 0), (Go.Value.int Go.IntKind.u8 0), (Go.Value.int Go.IntKind.u8 0), (Go.Value.int Go.IntKind.u8 0), (Go.Value.int Go.IntKind.u8 0), (Go.Value.int Go.IntKind.u8 0), (Go.Value.int Go.IntKind.u8 0), (Go.Value.int Go.IntKind.u8 0), (Go.Value.int Go.IntKind.u8 0), (Go.Value.int Go.IntKind.u8 0), (Go.Value.int Go.IntKind.u8 0), (Go.Value.int Go.IntKind.u8 0), (Go.Value.int Go.IntKind.u8 0), (Go.Value.int Go.IntKind.u8 0), (Go.Value.int Go.IntKind.u8 0), (Go.Value.int Go.IntKind.u8 0), (Go.Value.int Go.IntKind.u8 0), (Go.Value.int Go.IntKind.u8 0), (Go.Value.int Go.IntKind.u8 0), (Go.Value.int Go.IntKind.u8 0), (Go.Value.int Go.IntKind.u8 0), (Go.Value.int Go.IntKind.u8 0), (Go.Value.int Go.IntKind.u8 0), (Go.Value.int Go.IntKind.u8 0), (Go.Value.int Go.IntKind.u8 0), (Go.Value.int Go.IntKind.u8 0), (Go.Value.int Go.IntKind.u8 0), (Go.Value.int Go.IntKind.u8 0), (Go.Value.int Go.IntKind.u8 0), (Go.Value.int Go.IntKind.u8 0), (Go.Value.int Go.IntKind.u8 0), (Go.Value.int Go.IntKind.u8 0), (Go.Value.int Go.IntKind.u8 0), (Go.Value.int Go.IntKind.u8 0), (Go.Value.int Go.IntKind.u8 0), (Go.Value.int Go.IntKind.u8 0), (Go.Value.int Go.IntKind.u8 0), (Go.Value.int Go.IntKind.u8 0), (Go.Value.int Go.IntKind.u8 0), (Go.Value.int Go.IntKind.u8 0), (Go.Value.int Go.IntKind.u8 0), (Go.Value.int Go.IntKind.u8 0), (Go.Value.int Go.IntKind.u8 0), (Go.Value.int Go.IntKind.u8 0), (Go.Value.int Go.IntKind.u8 0), (Go.Value.int Go.IntKind.u8 0), (Go.Value.int Go.IntKind.u8 0), (Go.Value.int Go.IntKind.u8 0), (Go.Value.int Go.IntKind.u8 0), (Go.Value.int Go.IntKind.u8 0), (Go.Value.int Go.IntKind.u8 0), (Go.Value.int Go.IntKind.u8 0), (Go.Value.int Go.IntKind.u8 0), (Go.Value.int Go.IntKind.u8 0), (Go.Value.int Go.IntKind.u8 0), (Go.Value.int Go.IntKind.u8 0), (Go.Value.int Go.IntKind.u8 0), (Go.Value.int Go.IntKind.u8 0), (Go.Value.int Go.IntKind.u8 0), (Go.Value.int Go.IntKind.u8 0), (Go.Value.int Go.IntKind.u8 0), (Go.Value.int Go.IntKind.u8 0), (Go.Value.int Go.IntKind.u8 0), (Go.Value.int Go.IntKind.u8 0), (Go.Value.int Go.IntKind.u8 0), (Go.Value.int Go.IntKind.u8 0), (Go.Value.int Go.IntKind.u8 0), (Go.Value.int Go.IntKind.u8 0), (Go.Value.int Go.IntKind.u8 0), (Go.Value.int Go.IntKind.u8 0), (Go.Value.int Go.IntKind.u8 0), (Go.Value.int Go.IntKind.u8 0), (Go.Value.int Go.IntKind.u8 0), (Go.Value.int Go.IntKind.u8 0), (Go.Value.int Go.IntKind.u8 0), (Go.Value.int Go.IntKind.u8 0), (Go.Value.int Go.IntKind.u8 0), (Go.Value.int Go.IntKind.u8 0), (Go.Value.int Go.IntKind.u8 0), (Go.Value.int Go.IntKind.u8 0), (Go.Value.int Go.IntKind.u8 0), (Go.Value.int Go.IntKind.u8 0), (Go.Value.int Go.IntKind.u8 0), (Go.Value.int Go.IntKind.u8 0), (Go.Value.int Go.IntKind.u8 0), (Go.Value.int Go.IntKind.u8 0), (Go.Value.int Go.IntKind.u8 0), (Go.Value.int Go.IntKind.u8 0), (Go.Value.int Go.IntKind.u8 0), (Go.Value.int Go.IntKind.u8 0), (Go.Value.int Go.IntKind.u8 0), (Go.Value.int Go.IntKind.u8 0), (Go.Value.int Go.IntKind.u8 0), (Go.Value.int Go.IntKind.u8 0), (Go.Value.int Go.IntKind.u8 0), (Go.Value.int Go.IntKind.u8 0), (Go.Value.int Go.IntKind.u8 0), (Go.Value.int Go.IntKind.u8 0), (Go.Value.int Go.IntKind.u8 0), (Go.Value.int Go.IntKind.u8 0), (Go.Value.int Go.IntKind.u8 0), (Go.Value.int Go.IntKind.u8 0), (Go.Value.int Go.IntKind.u8 0), (Go.Value.int Go.IntKind.u8 0), (Go.Value.int Go.IntKind.u8 0), (Go.Value.int Go.IntKind.u8 0), (Go.Value.int Go.IntKind.u8 0), (Go.Value.int Go.IntKind.u8 0), (Go.Value.int Go.IntKind.u8 0), (Go.Value.int Go.IntKind.u8 0), (Go.Value.int Go.IntKind.u8 0), (Go.Value.int Go.IntKind.u8 0), (Go.Value.int Go.IntKind.u8 0), (Go.Value.int Go.IntKind.u8 0), (Go.Value.int Go.IntKind.u8 0), (Go.Value.int Go.IntKind.u8 0), (Go.Value.int Go.IntKind.u8 0), (Go.Value.int Go.IntKind.u8 0), (Go.Value.int Go.IntKind.u8 0), (Go.Value.int Go.IntKind.u8 0), (Go.Value.int Go.IntKind.u8 0), (Go.Value.int Go.IntKind.u8 0), (Go.Value.int Go.IntKind.u8 0), (Go.Value.int Go.IntKind.u8 0), (Go.Value.int Go.IntKind.u8 0), (Go.Value.int Go.IntKind.u8 0), (Go.Value.int Go.IntKind.u8 0), (Go.Value.int Go.IntKind.u8 0), (Go.Value.int Go.IntKind.u8 0), (Go.Value.int Go.IntKind.u8 0), (Go.Value.int Go.IntKind.u8 0), (Go.Value.int Go.IntKind.u8 0), (Go.Value.int Go.IntKind.u8 0), (Go.Value.int Go.IntKind.u8 0), (Go.Value.int Go.IntKind.u8 0), (Go.Value.int Go.IntKind.u8 0), (Go.Value.int Go.IntKind.u8 0), (Go.Value.int Go.IntKind.u8 0), (Go.Value.int Go.IntKind.u8 0), (Go.Value.int Go.IntKind.u8 0), (Go.Value.int Go.IntKind.u8 0), (Go.Value.int Go.IntKind.u8 0), (Go.Value.int Go.IntKind.u8 0), (Go.Value.int Go.IntKind.u8 0), (Go.Value.int Go.IntKind.u8 0), (Go.Value.int Go.IntKind.u8 0), (Go.Value.int Go.IntKind.u8 0), (Go.Value.int Go.IntKind.u8 0), (Go.Value.int Go.IntKind.u8 0), (Go.Value.int Go.IntKind.u8 0), (Go.Value.int Go.IntKind.u8 0), (Go.Value.int Go.IntKind.u8 0), (Go.Value.int Go.IntKind.u8 0), (Go.Value.int Go.IntKind.u8 0), (Go.Value.int Go.IntKind.u8 0), (Go.Value.int Go.IntKind.u8 0), (Go.Value.int Go.IntKind.u8 0), (Go.Value.int Go.IntKind.u8 0), (Go.Value.int Go.IntKind.u8 0), (Go.Value.int Go.IntKind.i64 0), (Go.Value.int Go.IntKind.i64 0), (Go.Value.int Go.IntKind.i64 0), (Go.Value.int Go.IntKind.i64 0), (Go.Value.int Go.IntKind.i64 0), (Go.Value.int Go.IntKind.i64 0), (Go.Value.int Go.IntKind.i64 0), (Go.Value.int Go.IntKind.i64 0), (Go.Value.int Go.IntKind.i64 0), (Go.Value.int Go.IntKind.i64 0), (Go.Value.int Go.IntKind.i64 0), (Go.Value.int Go.IntKind.i64 0), (Go.Value.int Go.IntKind.i64 0), (Go.Value.int Go.IntKind.i64 0), (Go.Value.int Go.IntKind.i64 0), (Go.Value.int Go.IntKind.i64 0), (Go.Value.int Go.IntKind.i64 0), (Go.Value.int Go.IntKind.i64 0), (Go.Value.int Go.IntKind.i64 0), (Go.Value.int Go.IntKind.i64 0), (Go.Value.int Go.IntKind.i64 0), (Go.Value.int Go.IntKind.i64 0), (Go.Value.int Go.IntKind.i64 0), (Go.Value.int Go.IntKind.i64 0), (Go.Value.int Go.IntKind.i64 0), (Go.Value.int Go.IntKind.i64 0), (Go.Value.int Go.IntKind.i64 0), (Go.Value.int Go.IntKind.i64 0), (Go.Value.int Go.IntKind.i64 0), (Go.Value.int Go.IntKind.i64 0), (Go.Value.int Go.IntKind.i64 0), (Go.Value.int Go.IntKind.i64 0), (Go.Value.int Go.IntKind.i64 0), (Go.Value.int Go.IntKind.i64 0), (Go.Value.int Go.IntKind.i64 0), (Go.Value.int Go.IntKind.i64 0), (Go.Value.int Go.IntKind.i64 0), (Go.Value.int Go.IntKind.i64 0), (Go.Value.int Go.IntKind.i64 0), (Go.Value.int Go.IntKind.i64 0), (Go.Value.int Go.IntKind.i64 0), (Go.Value.int Go.IntKind.i64 0), (Go.Value.int Go.IntKind.i64 0), (Go.Value.int Go.IntKind.i64 0), (Go.Value.int Go.IntKind.i64 0), (Go.Value.int Go.IntKind.i64 0), (Go.Value.int Go.IntKind.i64 0), (Go.Value.int Go.IntKind.i64 0), (Go.Value.int Go.IntKind.i64 0), (Go.Value.int Go.IntKind.i64 0), (Go.Value.int Go.IntKind.i64 0), (Go.Value.int Go.IntKind.i64 0), (Go.Value.int Go.IntKind.i64 0), (Go.Value.int Go.IntKind.i64 0), (Go.Value.int Go.IntKind.i64 0), (Go.Value.int Go.IntKind.i64 0), (Go.Value.int Go.IntKind.i64 0), (Go.Value.int Go.IntKind.i64 0), (Go.Value.int Go.IntKind.i64 0), (Go.Value.int Go.IntKind.i64 0), (Go.Value.int Go.IntKind.i64 0), (Go.Value.int Go.IntKind.i64 0), (Go.Value.int Go.IntKind.i64 0), (Go.Value.int Go.IntKind.i64 0), (Go.Value.int Go.IntKind.i64 0), (Go.Value.int Go.IntKind.i64 0), (Go.Value.int Go.IntKind.i64 0), (Go.Value.int Go.IntKind.i64 0), (Go.Value.int Go.IntKind.i64 0), (Go.Value.int Go.IntKind.i64 0), (Go.Value.int Go.IntKind.i64 0), (Go.Value.int Go.IntKind.i64 0), (Go.Value.int Go.IntKind.i64 0), (Go.Value.int Go.IntKind.i64 0), (Go.Value.int Go.IntKind.i64 0), (Go.Value.int Go.IntKind.i64 0), (Go.Value.int Go.IntKind.i64 0), (Go.Value.int Go.IntKind.i64 0), (Go.Value.int Go.IntKind.i64 0), (Go.Value.int Go.IntKind.i64 0), (Go.Value.int Go.IntKind.i64 0), (Go.Value.int Go.IntKind.i64 0), (Go.Value.int Go.IntKind.i64 0), (Go.Value.int Go.IntKind.i64 0), (Go.Value.int Go.IntKind.i64 0), (Go.Value.int Go.IntKind.i64 0), (Go.Value.int Go.IntKind.i64 0), (Go.Value.int Go.IntKind.i64 0), (Go.Value.int Go.IntKind.i64 0), (Go.Value.int Go.IntKind.i64 0), (Go.Value.int Go.IntKind.i64 0), (Go.Value.int Go.IntKind.i64 0), (Go.Value.int Go.IntKind.i64 0), (Go.Value.int Go.IntKind.i64 0), (Go.Value.int Go.IntKind.i64 0), (Go.Value.int Go.IntKind.i64 0), (Go.Value.int Go.IntKind.i64 0), (Go.Value.int Go.IntKind.i64 0), (Go.Value.int Go.IntKind.i64 0), (Go.Value.int Go.IntKind.i64 0), (Go.Value.int Go.IntKind.i64 0), (Go.Value.int Go.IntKind.i64 0), (Go.Value.int Go.IntKind.i64 0), (Go.Value.int Go.IntKind.i64 0), (Go.Value.int Go.IntKind.i64 0), (Go.Value.int Go.IntKind.i64 0), (Go.Value.int Go.IntKind.i64 0), (Go.Value.int Go.IntKind.i64 0), (Go.Value.int Go.IntKind.i64 0), (Go.Value.int Go.IntKind.i64 0), (Go.Value.int Go.IntKind.i64 0), (Go.Value.int Go.IntKind.i64 0), (Go.Value.int Go.IntKind.i64 0), (Go.Value.int Go.IntKind.i64 0), (Go.Value.int Go.IntKind.i64 0), (Go.Value.int Go.IntKind.i64 0), (Go.Value.int Go.IntKind.i64 0), (Go.Value.int Go.IntKind.i64 0), (Go.Value.int Go.IntKind.i64 0), (Go.Value.int Go.IntKind.i64 0), (Go.Value.int Go.IntKind.i64 0), (Go.Value.int Go.IntKind.i64 0), (Go.Value.int Go.IntKind.i64 0), (Go.Value.int Go.IntKind.i64 0), (Go.Value.int Go.IntKind.i64 0), (Go.Value.int Go.IntKind.i64 0), (Go.Value.int Go.IntKind.i64 0), (Go.Value.int Go.IntKind.i64 0), (Go.Value.int Go.IntKind.i64 0), (Go.Value.int Go.IntKind.i64 0), (Go.Value.int Go.IntKind.i64 0), (Go.Value.int Go.IntKind.i64 0), (Go.Value.int Go.IntKind.i64 0), (Go.Value.int Go.IntKind.i64 0), (Go.Value.int Go.IntKind.i64 0), (Go.Value.int Go.IntKind.i64 0), (Go.Value.int Go.IntKind.i64 0), (Go.Value.int Go.IntKind.i64 0), (Go.Value.int Go.IntKind.i64 0), (Go.Value.int Go.IntKind.i64 0), (Go.Value.int Go.IntKind.i64 0), (Go.Value.int Go.IntKind.i64 0), (Go.Value.int Go.IntKind.i64 0), (Go.Value.int Go.IntKind.i64 0), (Go.Value.int Go.IntKind.i64 0), (Go.Value.int Go.IntKind.i64 0), (Go.Value.int Go.IntKind.i64 0), (Go.Value.int Go.IntKind.i64 0), (Go.Value.int Go.IntKind.i64 0), (Go.Value.int Go.IntKind.i64 0), (Go.Value.int Go.IntKind.i64 0), (Go.Value.int Go.IntKind.i64 0), (Go.Value.int Go.IntKind.i64 0), (Go.Value.int Go.IntKind.i64 0), (Go.Value.int Go.IntKind.i64 0), (Go.Value.int Go.IntKind.i64 0), (Go.Value.int Go.IntKind.i64 0), (Go.Value.int Go.IntKind.i64 0), (Go.Value.int Go.IntKind.i64 0), (Go.Value.int Go.IntKind.i64 0), (Go.Value.int Go.IntKind.i64 0), (Go.Value.int Go.IntKind.i64 0), (Go.Value.int Go.IntKind.i64 0), (Go.Value.int Go.IntKind.i64 0), (Go.Value.int Go.IntKind.i64 0), (Go.Value.int Go.IntKind.i64 0), (Go.Value.int Go.IntKind.i64 0), (Go.Value.int Go.IntKind.i64 0), (Go.Value.int Go.IntKind.i64 0), (Go.Value.int Go.IntKind.i64 0), (Go.Value.int Go.IntKind.i64 0), (Go.Value.int Go.IntKind.i64 0), (Go.Value.int Go.IntKind.i64 0), (Go.Value.int Go.IntKind.i64 0), (Go.Value.int Go.IntKind.i64 0), (Go.Value.int Go.IntKind.i64 0), (Go.Value.int Go.IntKind.i64 0), (Go.Value.int Go.IntKind.i64 0), (Go.Value.int Go.IntKind.i64 0), (Go.Value.int Go.IntKind.i64 0), (Go.Value.int Go.IntKind.i64 0), (Go.Value.int Go.IntKind.i64 0), (Go.Value.int Go.IntKind.i64 0), (Go.Value.int Go.IntKind.i64 0), (Go.Value.int Go.IntKind.i64 0), (Go.Value.int Go.IntKind.i64 0), (Go.Value.int Go.IntKind.i64 0), (Go.Value.int Go.IntKind.i64 0), (Go.Value.int Go.IntKind.i64 0), (Go.Value.int Go.IntKind.i64 0), (Go.Value.int Go.IntKind.i64 0), (Go.Value.int Go.IntKind.i64 0), (Go.Value.int Go.IntKind.i64 0), (Go.Value.int Go.IntKind.i64 0), (Go.Value.int Go.IntKind.i64 0), (Go.Value.int Go.IntKind.i64 0), (Go.Value.int Go.IntKind.i64 0), (Go.Value.int Go.IntKind.i64 0), (Go.Value.int Go.IntKind.i64 0), (Go.Value.int Go.IntKind.i64 0), (Go.Value.int Go.IntKind.i64 0), (Go.Value.int Go.IntKind.i64 0), (Go.Value.int Go.IntKind.i64 0), (Go.Value.int Go.IntKind.i64 0), (Go.Value.int Go.IntKind.i64 0), (Go.Value.int Go.IntKind.i64 0), (Go.Value.int Go.IntKind.i64 0), (Go.Value.int Go.IntKind.i64 0), (Go.Value.int Go.IntKind.i64 0), (Go.Value.int Go.IntKind.i64 0), (Go.Value.int Go.IntKind.i64 0), (Go.Value.int Go.IntKind.i64 0), (Go.Value.int Go.IntKind.i64 0), (Go.Value.int Go.IntKind.i64 0), (Go.Value.int Go.IntKind.i64 0), (Go.Value.int Go.IntKind.i64 0), (Go.Value.int Go.IntKind.i64 0), (Go.Value.int Go.IntKind.i64 0), (Go.Value.int Go.IntKind.i64 0), (Go.Value.int Go.IntKind.i64 0), (Go.Value.int Go.IntKind.i64 0), (Go.Value.int Go.IntKind.i64 0), (Go.Value.int Go.IntKind.i64 0), (Go.Value.int Go.IntKind.i64 0), (Go.Value.int Go.IntKind.i64 0), (Go.Value.int Go.IntKind.i64 0), (Go.Value.int Go.IntKind.i64 0), (Go.Value.int Go.IntKind.i64 0), (Go.Value.int Go.IntKind.i64 0), (Go.Value.int Go.IntKind.i64 0), (Go.Value.int Go.IntKind.i64 0), (Go.Value.int Go.IntKind.i64 0), (Go.Value.int Go.IntKind.i64 0), (Go.Value.int Go.IntKind.i64 0), (Go.Value.int Go.IntKind.i64 0), (Go.Value.int Go.IntKind.i64 0), (Go.Value.int Go.IntKind.i64 0), (Go.Value.int Go.IntKind.i64 0), (Go.Value.int Go.IntKind.i64 0), (Go.Value.int Go.IntKind.i64 0), (Go.Value.int Go.IntKind.i64 0), (Go.Value.int Go.IntKind.i64 0), (Go.Value.int Go.IntKind.i64 0), (Go.Value.int Go.IntKind.i64 0), (Go.Value.int Go.IntKind.i64 0), (Go.Value.int Go.IntKind.i64 0), (Go.Value.int Go.IntKind.i64 0), (Go.Value.int Go.IntKind.i64 0), (Go.Value.int Go.IntKind.i64 0), (Go.Value.int Go.IntKind.i64 0), (Go.Value.int Go.IntKind.i64 0), (Go.Value.int Go.IntKind.i64 0), (Go.Value.int Go.IntKind.i64 0), (Go.Value.int Go.IntKind.i64 0), (Go.Value.int Go.IntKind.i64 0), (Go.Value.int Go.IntKind.i64 0)]⟩,
  ⟨.struct [(0, 75), (255, 77)], (.arr .any), 511, 2304, [(Go.Value.int Go.IntKind.u8 0), (Go.Value.int Go.IntKind.u8 0), (Go.Value.int Go.IntKind.u8 0), (Go.Value.int Go.IntKind.u8 0), (Go.Value.int Go.IntKind.u8 0), (Go.Value.int Go.IntKind.u8 0), (Go.Value.int Go.IntKind.u8 0), (Go.Value.int Go.IntKind.u8 0), (Go.Value.int Go.IntKind.u8 0), (Go.Value.int Go.IntKind.u8 0), (Go.Value.int Go.IntKind.u8 0), (Go.Value.int Go.IntKind.u8 0), (Go.Value.int Go.IntKind.u8 0), (Go.Value.int Go.IntKind.u8 0), (Go.Value.int Go.IntKind.u8 0), (Go.Value.int Go.IntKind.u8 0), (Go.Value.int Go.IntKind.u8 0), (Go.Value.int Go.IntKind.u8 0), (Go.Value.int Go.IntKind.u8 0), (Go.Value.int Go.IntKind.u8 0), (Go.Value.int Go.IntKind.u8 0), (Go.Value.int Go.IntKind.u8 0), (Go.Value.int Go.IntKind.u8 0), (Go.Value.int Go.IntKind.u8 0), (Go.Value.int Go.IntKind.u8 0), (Go.Value.int Go.IntKind.u8 0), (Go.Value.int Go.IntKind.u8 0), (Go.Value.int Go.IntKind.u8 0), (Go.Value.int Go.IntKind.u8 0), (Go.Value.int Go.IntKind.u8 0), (Go.Value.int Go.IntKind.u8 0), (Go.Value.int Go.IntKind.u8 0), (Go.Value.int Go.IntKind.u8 0), (Go.Value.int Go.IntKind.u8 0), (Go.Value.int Go.IntKind.u8 0), (Go.Value.int Go.IntKind.u8 0), (Go.Value.int Go.IntKind.u8 0), (Go.Value.int Go.IntKind.u8 0), (Go.Value.int Go.IntKind.u8 0), (Go.Value.int Go.IntKind.u8 0), (Go.Value.int Go.IntKind.u8 0), (Go.Value.int Go.IntKind.u8 0), (Go.Value.int Go.IntKind.u8 0), (Go.Value.int Go.IntKind.u8 0), (Go.Value.int Go.IntKind.u8 0), (Go.Value.int Go.IntKind.u8 0), (Go.Value.int Go.IntKind.u8 0), (Go.Value.int Go.IntKind.u8 0), (Go.Value.int Go.IntKind.u8 0), (Go.Value.int Go.IntKind.u8 0), (Go.Value.int Go.IntKind.u8 0), (Go.Value.int Go.IntKind.u8 0), (Go.Value.int Go.IntKind.u8 0), (Go.Value.int Go.IntKind.u8 0), (Go.Value.int Go.IntKind.u8 0), (Go.Value.int Go.IntKind.u8 0), (Go.Value.int Go.IntKind.u8 0), (Go.Value.int Go.IntKind.u8 0), (Go.Value.int Go.IntKind.u8 0), (Go.Value.int Go.IntKind.u8 0), (Go.Value.int Go.IntKind.u8 0), (Go.Value.int Go.IntKind.u8 0), (Go.Value.int Go.IntKind.u8 0), (Go.Value.int Go.IntKind.u8 0), (Go.Value.int Go.IntKind.u8 0), (Go.Value.int Go.IntKind.u8 0), (Go.Value.int Go.IntKind.u8 0), (Go.Value.int Go.IntKind.u8 0), (Go.Value.int Go.IntKind.u8 0), (Go.Value.int Go.IntKind.u8 0), (Go.Value.int Go.IntKind.u8 0), (Go.Value.int Go.IntKind.u8 0), (Go.Value.int Go.IntKind.u8 0), (Go.Value.int Go.IntKind.u8 0), (Go.Value.int Go.IntKind.u8 0), (Go.Value.int Go.IntKind.u8 0), (Go.Value.int Go.IntKind.u8 0), (Go.Value.int Go.IntKind.u8 0), (Go.Value.int Go.IntKind.u8 0), (Go.Value.int Go.IntKind.u8 0), (Go.Value.int Go.IntKind.u8 0), (Go.Value.int Go.IntKind.u8 0), (Go.Value.int Go.IntKind.u8 0), (Go.Value.int Go.IntKind.u8 0), (Go.Value.int Go.IntKind.u8 0), (Go.Value.int Go.IntKind.u8 0), (Go.Value.int Go.IntKind.u8 0), (Go.Value.int Go.IntKind.u8 0), (Go.Value.int Go.IntKind.u8 0), (Go.Value.int Go.IntKind.u8 0), (Go.Value.int Go.IntKind.u8 0), (Go.Value.int Go.IntKind.u8 0), (Go.Value.int Go.IntKind.u8 0), (Go.Value.int Go.IntKind.u8 0), (Go.Value.int Go.IntKind.u8 0), (Go.Value.int Go.IntKind.u8 0), (Go.Value.int Go.IntKind.u8 0), (Go.Value.int Go.IntKind.u8 0), (Go.Value.int Go.IntKind.u8 0), (Go.Value.int Go.IntKind.u8 0), (Go.Value.int Go.IntKind.u8 0), (Go.Value.int Go.IntKind.u8 0), (Go.Value.int Go.IntKind.u8 0), (Go.Value.int Go.IntKind.u8 0), (Go.Value.int Go.IntKind.u8 0), (Go.Value.int Go.IntKind.u8 0), (Go.Value.int Go.IntKind.u8 0), (Go.Value.int Go.IntKind.u8 0), (Go.Value.int Go.IntKind.u8 0), (Go.Value.int Go.IntKind.u8 0), (Go.Value.int Go.IntKind.u8 0), (Go.Value.int Go.IntKind.u8 0), (Go.Value.int Go.IntKind.u8 0), (Go.Value.int Go.IntKind.u8 0), (Go.Value.int Go.IntKind.u8 0), (Go.Value.int Go.IntKind.u8 0), (Go.Value.int Go.IntKind.u8 0), (Go.Value.int Go.IntKind.u8 0), (Go.Value.int Go.IntKind.u8 0), (Go.Value.int Go.IntKind.u8 0), (Go.Value.int Go.IntKind.u8 0), (Go.Value.int Go.IntKind.u8 0), (Go.Value.int Go.IntKind.u8 0), (Go.Value.int Go.IntKind.u8 0), (Go.Value.int Go.IntKind.u8 0), (Go.Value.int Go.IntKind.u8 0), (Go.Value.int Go.IntKind.u8 0), (Go.Value.int Go.IntKind.u8 0), (Go.Value.int Go.IntKind.u8 0), (Go.Value.int Go.IntKind.u8 0), (Go.Value.int Go.IntKind.u8 0), (Go.Value.int Go.IntKind.u8 0), (Go.Value.int Go.IntKind.u8 0), (Go.Value.int Go.IntKind.u8 0), (Go.Value.int Go.IntKind.u8 0), (Go.Value.int Go.IntKind.u8 0), (Go.Value.int Go.IntKind.u8 0), (Go.Value.int Go.IntKind.u8 0), (Go.Value.int Go.IntKind.u8 0), (Go.Value.int Go.IntKind.u8 0), (Go.Value.int Go.IntKind.u8 0), (Go.Value.int Go.IntKind.u8 0), (Go.Value.int Go.IntKind.u8 0), (Go.Value.int Go.IntKind.u8 0), (Go.Value.int Go.IntKind.u8 0), (Go.Value.int Go.IntKind.u8 0), (Go.Value.int Go.IntKind.u8 0), (Go.Value.int Go.IntKind.u8 0), (Go.Value.int Go.IntKind.u8 0), (Go.Value.int Go.IntKind.u8 0), (Go.Value.int Go.IntKind.u8 0), (Go.Value.int Go.IntKind.u8 0), (Go.Value.int Go.IntKind.u8 0), (Go.Value.int Go.IntKind.u8 0), (Go.Value.int Go.IntKind.u8 0), (Go.Value.int Go.IntKind.u8 0), (Go.Value.int Go.IntKind.u8 0), (Go.Value.int Go.IntKind.u8 0), (Go.Value.int Go.IntKind.u8 0), (Go.Value.int Go.IntKind.u8 0), (Go.Value.int Go.IntKind.u8 0), (Go.Value.int Go.IntKind.u8 0), (Go.Value.int Go.IntKind.u8 0), (Go.Value.int Go.IntKind.u8 0), (Go.Value.int Go.IntKind.u8 0), (Go.Value.int Go.IntKind.u8 0), (Go.Value.int Go.IntKind.u8 0), (Go.Value.int Go.IntKind.u8 0), (Go.Value.int Go.IntKind.u8 0), (Go.Value.int Go.IntKind.u8 0), (Go.Value.int Go.IntKind.u8 0), (Go.Value.int Go.IntKind.u8 0), (Go.Value.int Go.IntKind.u8 0), (Go.Value.int Go.IntKind.u8 0), (Go.Value.int Go.IntKind.u8 0), (Go.Value.int Go.IntKind.u8 0), (Go.Value.int Go.IntKind.u8 0), (Go.Value.int Go.IntKind.u8 0), (Go.Value.int Go.IntKind.u8 0), (Go.Value.int Go.IntKind.u8 0), (Go.Value.int Go.IntKind.u8 0), (Go.Value.int Go.IntKind.u8 0), (Go.Value.int Go.IntKind.u8 0), (Go.Value.int Go.IntKind.u8 0), (Go.Value.int Go.IntKind.u8 0), (Go.Value.int Go.IntKind.u8 0), (Go.Value.int Go.IntKind.u8 0), (Go.Value.int Go.IntKind.u8 0), (Go.Value.int Go.IntKind.u8 0), (Go.Value.int Go.IntKind.u8 0), (Go.Value.int Go.IntKind.u8 0), (Go.Value.int Go.IntKind.u8 0), (Go.Value.int Go.IntKind.u8 0), (Go.Value.int Go.IntKind.u8 0), (Go.Value.int Go.IntKind.u8 0), (Go.Value.int Go.IntKind.u8 0), (Go.Value.int Go.IntKind.u8 0), (Go.Value.int Go.IntKind.u8 0), (Go.Value.int Go.IntKind.u8 0), (Go.Value.int Go.IntKind.u8 0), (Go.Value.int Go.IntKind.u8 0), (Go.Value.int Go.IntKind.u8 0), (Go.Value.int Go.IntKind.u8 0), (Go.Value.int Go.IntKind.u8 0), (Go.Value.int Go.IntKind.u8 0), (Go.Value.int Go.IntKind.u8 0), (Go.Value.int Go.IntKind.u8 0), (Go.Value.int Go.IntKind.u8 0), (Go.Value.int Go.IntKind.u8 0), (Go.Value.int Go.IntKind.u8 0), (Go.Value.int Go.IntKind.u8 0), (Go.Value.int Go.IntKind.u8 0), (Go.Value.int Go.IntKind.u8 0), (Go.Value.int Go.IntKind.u8 0), (Go.Value.int Go.IntKind.u8 0), (Go.Value.int Go.IntKind.u8 0), (Go.Value.int Go.IntKind.u8 0), (Go.Value.int Go.IntKind.u8 0), (Go.Value.int Go.IntKind.u8 0), (Go.Value.int Go.IntKind.u8 0), (Go.Value.int Go.IntKind.u8 0), (Go.Value.int Go.IntKind.u8 0), (Go.Value.int Go.IntKind.u8 0), (Go.Value.int Go.IntKind.u8 0), (Go.Value.int Go.IntKind.u8 0), (Go.Value.int Go.IntKind.u8 0), (Go.Value.int Go.IntKind.u8 0), (Go.Value.int Go.IntKind.u8 0), (Go.Value.int Go.IntKind.u8 0), (Go.Value.int Go.IntKind.u8 0), (Go.Value.int Go.IntKind.u8 0), (Go.Value.int Go.IntKind.u8 0), (Go.Value.int Go.IntKind.u8 0), (Go.Value.int Go.IntKind.u8 0), (Go.Value.int Go.IntKind.u8 0), (Go.Value.int Go.IntKind.u8 0), (Go.Value.int Go.IntKind.u8 0), (Go.Value.int Go.IntKind.u8 0), (Go.Value.int Go.IntKind.u8 0), (Go.Value.int Go.IntKind.u8 0), (Go.Value.int Go.IntKind.u8 0), (Go.Value.int Go.IntKind.u8 0), (Go.Value.int Go.IntKind.u8 0), (Go.Value.int Go.IntKind.u8 0), (Go.Value.int Go.IntKind.u8 0), (Go.Value.int Go.IntKind.u8 0), (Go.Value.int Go.IntKind.u8 0), (Go.Value.int Go.IntKind.u8 0), (Go.Value.int Go.IntKind.u8 0), (Go.Value.int Go.IntKind.u8 0), (Go.Value.int Go.IntKind.u8 0), (Go.Value.int Go.IntKind.u8 0), (Go.Value.int Go.IntKind.u8 0), (Go.Value.int Go.IntKind.u8 0), (Go.Value.int Go.IntKind.u8 0), (Go.Value.int Go.IntKind.i64 0), (Go.Value.int Go.IntKind.i64 0), (Go.Value.int Go.IntKind.i64 0), (Go.Value.int Go.IntKind.i64 0), (Go.Value.int Go.IntKind.i64 0), (Go.Value.int Go.IntKind.i64 0), (Go.Value.int Go.IntKind.i64 0), (Go.Value.int Go.IntKind.i64 0), (Go.Value.int Go.IntKind.i64 0), (Go.Value.int Go.IntKind.i64 0), (Go.Value.int Go.IntKind.i64 0), (Go.Value.int Go.IntKind.i64 0), (Go.Value.int Go.IntKind.i64 0), (Go.Value.int Go.IntKind.i64 0), (Go.Value.int Go.IntKind.i64 0), (Go.Value.int Go.IntKind.i64 0), (Go.Value.int Go.IntKind.i64 0), (Go.Value.int Go.IntKind.i64 0), (Go.Value.int Go.IntKind.i64 0), (Go.Value.int Go.IntKind.i64 0), (Go.Value.int Go.IntKind.i64 0), (Go.Value.int Go.IntKind.i64 0), (Go.Value.int Go.IntKind.i64 0), (Go.Value.int Go.IntKind.i64 0), (Go.Value.int Go.IntKind.i64 0), (Go.Value.int Go.IntKind.i64 0), (Go.Value.int Go.IntKind.i64 0), (Go.Value.int Go.IntKind.i64 0), (Go.Value.int Go.IntKind.i64 0), (Go.Value.int Go.IntKind.i64 0), (Go.Value.int Go.IntKind.i64 0), (Go.Value.int Go.IntKind.i64 0), (Go.Value.int Go.IntKind.i64 0), (Go.Value.int Go.IntKind.i64 0), (Go.Value.int Go.IntKind.i64 0), (Go.Value.int Go.IntKind.i64 0), (Go.Value.int Go.IntKind.i64 0), (Go.Value.int Go.IntKind.i64 0), (Go.Value.int Go.IntKind.i64 0), (Go.Value.int Go.IntKind.i64 0), (Go.Value.int Go.IntKind.i64 0), (Go.Value.int Go.IntKind.i64 0), (Go.Value.int Go.IntKind.i64 0), (Go.Value.int Go.IntKind.i64 0), (Go.Value.int Go.IntKind.i64 0), (Go.Value.int Go.IntKind.i64 0), (Go.Value.int Go.IntKind.i64 0), (Go.Value.int Go.IntKind.i64 0), (Go.Value.int Go.IntKind.i64 0), (Go.Value.int Go.IntKind.i64 0), (Go.Value.int Go.IntKind.i64 0), (Go.Value.int Go.IntKind.i64 0), (Go.Value.int Go.IntKind.i64 0), (Go.Value.int Go.IntKind.i64 0), (Go.Value.int Go.IntKind.i64 0), (Go.Value.int Go.IntKind.i64 0), (Go.Value.int Go.IntKind.i64 0), (Go.Value.int Go.IntKind.i64 0), (Go.Value.int Go.IntKind.i64 0), (Go.Value.int Go.IntKind.i64 0), (Go.Value.int Go.IntKind.i64 0), (Go.Value.int Go.IntKind.i64 0), (Go.Value.int Go.IntKind.i64 0), (Go.Value.int Go.IntKind.i64 0), (Go.Value.int Go.IntKind.i64 0), (Go.Value.int Go.IntKind.i64 0), (Go.Value.int Go.IntKind.i64 0), (Go.Value.int Go.IntKind.i64 0), (Go.Value.int Go.IntKind.i64 0), (Go.Value.int Go.IntKind.i64 0), (Go.Value.int Go.IntKind.i64 0), (Go.Value.int Go.IntKind.i64 0), (Go.Value.int Go.IntKind.i64 0), (Go.Value.int Go.IntKind.i64 0), (Go.Value.int Go.IntKind.i64 0), (Go.Value.int Go.IntKind.i64 0), (Go.Value.int Go.IntKind.i64 0), (Go.Value.int Go.IntKind.i64 0), (Go.Value.int Go.IntKind.i64 0), (Go.Value.int Go.IntKind.i64 0), (Go.Value.int Go.IntKind.i64 0), (Go.Value.int Go.IntKind.i64 0), (Go.Value.int Go.IntKind.i64 0), (Go.Value.int Go.IntKind.i64 0), (Go.Value.int Go.IntKind.i64 0), (Go.Value.int Go.IntKind.i64 0), (Go.Value.int Go.IntKind.i64 0), (Go.Value.int Go.IntKind.i64 0), (Go.Value.int Go.IntKind.i64 0), (Go.Value.int Go.IntKind.i64 0), (Go.Value.int Go.IntKind.i64 0), (Go.Value.int Go.IntKind.i64 0), (Go.Value.int Go.IntKind.i64 0), (Go.Value.int Go.IntKind.i64 0), (Go.Value.int Go.IntKind.i64 0), (Go.Value.int Go.IntKind.i64 0), (Go.Value.int Go.IntKind.i64 0), (Go.Value.int Go.IntKind.i64 0), (Go.Value.int Go.IntKind.i64 0), (Go.Value.int Go.IntKind.i64 0), (Go.Value.int Go.IntKind.i64 0), (Go.Value.int Go.IntKind.i64 0), (Go.Value.int Go.IntKind.i64 0), (Go.Value.int Go.IntKind.i64 0), (Go.Value.int Go.IntKind.i64 0), (Go.Value.int Go.IntKind.i64 0), (Go.Value.int Go.IntKind.i64 0), (Go.Value.int Go.IntKind.i64 0), (Go.Value.int Go.IntKind.i64 0), (Go.Value.int Go.IntKind.i64 0), (Go.Value.int Go.IntKind.i64 0), (Go.Value.int Go.IntKind.i64 0), (Go.Value.int Go.IntKind.i64 0), (Go.Value.int Go.IntKind.i64 0), (Go.Value.int Go.IntKind.i64 0), (Go.Value.int Go.IntKind.i64 0), (Go.Value.int Go.IntKind.i64 0), (Go.Value.int Go.IntKind.i64 0), (Go.Value.int Go.IntKind.i64 0), (Go.Value.int Go.IntKind.i64 0), (Go.Value.int Go.IntKind.i64 0), (Go.Value.int Go.IntKind.i64 0), (Go.Value.int Go.IntKind.i64 0), (Go.Value.int Go.IntKind.i64 0), (Go.Value.int Go.IntKind.i64 0), (Go.Value.int Go.IntKind.i64 0), (Go.Value.int Go.IntKind.i64 0), (Go.Value.int Go.IntKind.i64 0), (Go.Value.int Go.IntKind.i64 0), (Go.Value.int Go.IntKind.i64 0), (Go.Value.int Go.IntKind.i64 0), (Go.Value.int Go.IntKind.i64 0), (Go.Value.int Go.IntKind.i64 0), (Go.Value.int Go.IntKind.i64 0), (Go.Value.int Go.IntKind.i64 0), (Go.Value.int Go.IntKind.i64 0), (Go.Value.int Go.IntKind.i64 0), (Go.Value.int Go.IntKind.i64 0), (Go.Value.int Go.IntKind.i64 0), (Go.Value.int Go.IntKind.i64 0), (Go.Value.int Go.IntKind.i64 0), (Go.Value.int Go.IntKind.i64 0), (Go.Value.int Go.IntKind.i64 0), (Go.Value.int Go.IntKind.i64 0), (Go.Value.int Go.IntKind.i64 0), (Go.Value.int Go.IntKind.i64 0), (Go.Value.int Go.IntKind.i64 0), (Go.Value.int Go.IntKind.i64 0), (Go.Value.int Go.IntKind.i64 0), (Go.Value.int Go.IntKind.i64 0), (Go.Value.int Go.IntKind.i64 0), (Go.Value.int Go.IntKind.i64 0), (Go.Value.int Go.IntKind.i64 0), (Go.Value.int Go.IntKind.i64 0), (Go.Value.int Go.IntKind.i64 0), (Go.Value.int Go.IntKind.i64 0), (Go.Value.int Go.IntKind.i64 0), (Go.Value.int Go.IntKind.i64 0), (Go.Value.int Go.IntKind.i64 0), (Go.Value.int Go.IntKind.i64 0), (Go.Value.int Go.IntKind.i64 0), (Go.Value.int Go.IntKind.i64 0), (Go.Value.int Go.IntKind.i64 0), (Go.Value.int Go.IntKind.i64 0), (Go.Value.int Go.IntKind.i64 0), (Go.Value.int Go.IntKind.i64 0), (Go.Value.int Go.IntKind.i64 0), (Go.Value.int Go.IntKind.i64 0), (Go.Value.int Go.IntKind.i64 0), (Go.Value.int Go.IntKind.i64 0), (Go.Value.int Go.IntKind.i64 0), (Go.Value.int Go.IntKind.i64 0), (Go.Value.int Go.IntKind.i64 0), (Go.Value.int Go.IntKind.i64 0), (Go.Value.int Go.IntKind.i64 0), (Go.Value.int Go.IntKind.i64 0), (Go.Value.int Go.IntKind.i64 0), (Go.Value.int Go.IntKind.i64 0), (Go.Value.int Go.IntKind.i64 0), (Go.Value.int Go.IntKind.i64 0), (Go.Value.int Go.IntKind.i64 0), (Go.Value.int Go.IntKind.i64 0), (Go.Value.int Go.IntKind.i64 0), (Go.Value.int Go.IntKind.i64 0), (Go.Value.int Go.IntKind.i64 0), (Go.Value.int Go.IntKind.i64 0), (Go.Value.int Go.IntKind.i64 0), (Go.Value.int Go.IntKind.i64 0), (Go.Value.int Go.IntKind.i64 0), (Go.Value.int Go.IntKind.i64 0), (Go.Value.int Go.IntKind.i64 0), (Go.Value.int Go.IntKind.i64 0), (Go.Value.int Go.IntKind.i64 0), (Go.Value.int Go.IntKind.i64 0), (Go.Value.int Go.IntKind.i64 0), (Go.Value.int Go.IntKind.i64 0), (Go.Value.int Go.IntKind.i64 0), (Go.Value.int Go.IntKind.i64 0), (Go.Value.int Go.IntKind.i64 0), (Go.Value.int Go.IntKind.i64 0), (Go.Value.int Go.IntKind.i64 0), (Go.Value.int Go.IntKind.i64 0), (Go.Value.int Go.IntKind.i64 0), (Go.Value.int Go.IntKind.i64 0), (Go.Value.int Go.IntKind.i64 0), (Go.Value.int Go.IntKind.i64 0), (Go.Value.int Go.IntKind.i64 0), (Go.Value.int Go.IntKind.i64 0), (Go.Value.int Go.IntKind.i64 0), (Go.Value.int Go.IntKind.i64 0), (Go.Value.int Go.IntKind.i64 0), (Go.Value.int Go.IntKind.i64 0), (Go.Value.int Go.IntKind.i64 0), (Go.Value.int Go.IntKind.i64 0), (Go.Value.int Go.IntKind.i64 0), (Go.Value.int Go.IntKind.i64 0), (Go.Value.int Go.IntKind.i64 0), (Go.Value.int Go.IntKind.i64 0), (Go.Value.int Go.IntKind.i64 0), (Go.Value.int Go.IntKind.i64 0), (Go.Value.int Go.IntKind.i64 0), (Go.Value.int Go.IntKind.i64 0), (Go.Value.int Go.IntKind.i64 0), (Go.Value.int Go.IntKind.i64 0), (Go.Value.int Go.IntKind.i64 0), (Go.Value.int Go.IntKind.i64 0), (Go.Value.int Go.IntKind.i64 0), (Go.Value.int Go.IntKind.i64 0), (Go.Value.int Go.IntKind.i64 0), (Go.Value.int Go.IntKind.i64 0), (Go.Value.int Go.IntKind.i64 0), (Go.Value.int Go.IntKind.i64 0), (Go.Value.int Go.IntKind.i64 0), (Go.Value.int Go.IntKind.i64 0), (Go.Value.int Go.IntKind.i64 0), (Go.Value.int Go.IntKind.i64 0), (Go.Value.int Go.IntKind.i64 0), (Go.Value.int Go.IntKind.i64 0), (Go.Value.int Go.IntKind.i64 0), (Go.Value.int Go.IntKind.i64 0), (Go.Value.int Go.IntKind.i64 0), (Go.Value.int Go.IntKind.i64 0), (Go.Value.int Go.IntKind.i64 0), (Go.Value.int Go.IntKind.i64 0), (Go.Value.int Go.IntKind.i64 0), (Go.Value.int Go.IntKind.i64 0), (Go.Value.int Go.IntKind.i64 0), (Go.Value.int Go.IntKind.i64 0), (Go.Value.int Go.IntKind.i64 0), (Go.Value.int Go.IntKind.i64 0), (Go.Value.int Go.IntKind.i64 0), (Go.Value.int Go.IntKind.i64 0), (Go.Value.int Go.IntKind.i64 0), (Go.Value.int Go.IntKind.i64 0), (Go.Value.int Go.IntKind.i64 0), (Go.Value.int Go.IntKind.i64 0)]⟩,
  ⟨.fn, (.sc .fn), 1, 8, [Go.Value.nilFunc]⟩,
  ⟨.fn, (.sc .fn), 1, 8, [Go.Value.nilFunc]⟩,
  ⟨.fn, (.sc .fn), 1, 8, [Go.Value.nilFunc]⟩,
  ⟨.fn, (.sc .fn), 1, 8, [Go.Value.nilFunc]⟩,
  ⟨.fn, (.sc .fn), 1, 8, [Go.Value.nilFunc]⟩,
  ⟨.ptr 108, (.sc .ptr), 1, 8, [(Go.Value.pointer Option.none)]⟩,
  ⟨.fn, (.sc .fn), 1, 8, [Go.Value.nilFunc]⟩,
  ⟨.fn, (.sc .fn), 1, 8, [Go.Value.nilFunc]⟩,
  ⟨.fn, (.sc .fn), 1, 8, [Go.Value.nilFunc]⟩,
  ⟨.fn, (.sc .fn), 1, 8, [Go.Value.nilFunc]⟩,
  ⟨.fn, (.sc .fn), 1, 8, [Go.Value.nilFunc]⟩,
  ⟨.fn, (.sc .fn), 1, 8, [Go.Value.nilFunc]⟩,
  ⟨.ptr 96, (.sc .ptr), 1, 8, [(Go.Value.pointer Option.none)]⟩,
  ⟨.int .u64, (.sc (.int .u64)), 1, 8, [(Go.Value.int Go.IntKind.u64 0)]⟩,
  ⟨.struct [(0, 94)], (.agg [(.int .u64)]), 1, 8, [(Go.Value.int Go.IntKind.u64 0)]⟩,
  ⟨.struct [(0, 94)], (.agg [(.int .u64)]), 1, 8, [(Go.Value.int Go.IntKind.u64 0)]⟩,
  ⟨.fn, (.sc .fn), 1, 8, [Go.Value.nilFunc]⟩,
  ⟨.fn, (.sc .fn), 1, 8, [Go.Value.nilFunc]⟩,
  ⟨.fn, (.sc .fn), 1, 8, [Go.Value.nilFunc]⟩,
  ⟨.fn, (.sc .fn), 1, 8, [Go.Value.nilFunc]⟩,
  ⟨.fn, (.sc .fn), 1, 8, [Go.Value.nilFunc]⟩,
  ⟨.fn, (.sc .fn), 1, 8, [Go.Value.nilFunc]⟩,
  ⟨.fn, (.sc .fn), 1, 8, [Go.Value.nilFunc]⟩,
  ⟨.fn, (.sc .fn), 1, 8, [Go.Value.nilFunc]⟩,
  ⟨.fn, (.sc .fn), 1, 8, [Go.Value.nilFunc]⟩,
  ⟨.fn, (.sc .fn), 1, 8, [Go.Value.nilFunc]⟩,
  ⟨.struct [(0, 94)], (.agg [(.int .u64)]), 1, 8, [(Go.Value.int Go.IntKind.u64 0)]⟩,
  ⟨.struct [(0, 94)], (.agg [(.int .u64)]), 1, 8, [(Go.Value.int Go.IntKind.u64 0)]⟩,
  ⟨.fn, (.sc .fn), 1, 8, [Go.Value.nilFunc]⟩,
  ⟨.fn, (.sc .fn), 1, 8, [Go.Value.nilFunc]⟩,
  ⟨.fn, (.sc .fn), 1, 8, [Go.Value.nilFunc]⟩,
  ⟨.fn, (.sc .fn), 1, 8, [Go.Value.nilFunc]⟩,
  ⟨.fn, (.sc .fn), 1, 8, [Go.Value.nilFunc]⟩,
  ⟨.int .u16, (.sc (.int .u16)), 1, 2, [(Go.Value.int Go.IntKind.u16 0)]⟩,
  ⟨.fn, (.sc .fn), 1, 8, [Go.Value.nilFunc]⟩,
  ⟨.fn, (.sc .fn), 1, 8, [Go.Value.nilFunc]⟩,
  ⟨.fn, (.sc .fn), 1, 8, [Go.Value.nilFunc]⟩,
  ⟨.fn, (.sc .fn), 1, 8, [Go.Value.nilFunc]⟩,
  ⟨.fn, (.sc .fn), 1, 8, [Go.Value.nilFunc]⟩,
  ⟨.fn, (.sc .fn), 1, 8, [Go.Value.nilFunc]⟩,
  ⟨.int .i64, (.sc (.int .i64)), 1, 8, [(Go.Value.int Go.IntKind.i64 0)]⟩,
  ⟨.other, (.sc .any), 1, 0, [(Go.Value.tuple #[(Go.Value.int Go.IntKind.i64 0), (Go.Value.int Go.IntKind.i64 0)])]⟩,
  ⟨.fn, (.sc .fn), 1, 8, [Go.Value.nilFunc]⟩,
  ⟨.fn, (.sc .fn), 1, 8, [Go.Value.nilFunc]⟩,
  ⟨.fn, (.sc .fn), 1, 8, [Go.Value.nilFunc]⟩,
  ⟨.fn, (.sc .fn), 1, 8, [Go.Value.nilFunc]⟩,
  ⟨.other, (.sc .any), 1, 0, [(Go.Value.tuple #[(Go.Value.int Go.IntKind.i64 0), (Go.Value.bool Bool.false)])]⟩,
  ⟨.fn, (.sc .fn), 1, 8, [Go.Value.nilFunc]⟩,
  ⟨.int .u64, (.sc (.int .u64)), 1, 8, [(Go.Value.int Go.IntKind.u64 0)]⟩,
  ⟨.fn, (.sc .fn), 1, 8, [Go.Value.nilFunc]⟩,
  ⟨.fn, (.sc .fn), 1, 8, [Go.Value.nilFunc]⟩,
  ⟨.fn, (.sc .fn), 1, 8, [Go.Value.nilFunc]⟩,
  ⟨.ptr 3, (.sc .ptr), 1, 8, [(Go.Value.pointer Option.none)]⟩,
  ⟨.fn, (.sc .fn), 1, 8, [Go.Value.nilFunc]⟩,
  ⟨.ptr 129, (.sc .ptr), 1, 8, [(Go.Value.pointer Option.none)]⟩,
  ⟨.other, (.sc .any), 1, 0, [(Go.Value.tuple #[(Go.Value.int Go.IntKind.i64 0), (Go.Value.int Go.IntKind.i64 0)])]⟩,
  ⟨.fn, (.sc .fn), 1, 8, [Go.Value.nilFunc]⟩,
  ⟨.fn, (.sc .fn), 1, 8, [Go.Value.nilFunc]⟩,
  ⟨.struct [(0, 17), (1, 17), (2, 17), (3, 9)], (.agg [.ptr, .ptr, .ptr, .str]), 4, 40, [(Go.Value.pointer Option.none), (Go.Value.pointer Option.none), (Go.Value.pointer Option.none), (Go.Value.string (ByteArray.mk #[]))]⟩,
  ⟨.struct [(0, 17), (1, 17), (2, 17), (3, 9)], (.agg [.ptr, .ptr, .ptr, .str]), 4, 40, [(Go.Value.pointer Option.none), (Go.Value.pointer Option.none), (Go.Value.pointer Option.none), (Go.Value.string (ByteArray.mk #[]))]⟩,
  ⟨.array 0 16, (.arr .ptr), 0, 0, []⟩,
  ⟨.struct [(0, 141)], (.agg []), 0, 0, []⟩,
  ⟨.struct [(0, 141)], (.agg []), 0, 0, []⟩,
  ⟨.fn, (.sc .fn), 1, 8, [Go.Value.nilFunc]⟩,
  ⟨.int .u8, (.sc (.int .u8)), 1, 1, [(Go.Value.int Go.IntKind.u8 0)]⟩,
  ⟨.int .u8, (.sc (.int .u8)), 1, 1, [(Go.Value.int Go.IntKind.u8 0)]⟩,
  ⟨.fn, (.sc .fn), 1, 8, [Go.Value.nilFunc]⟩,
  ⟨.ptr 5, (.sc .ptr), 1, 8, [(Go.Value.pointer Option.none)]⟩,
  ⟨.int .i32, (.sc (.int .i32)), 1, 4, [(Go.Value.int Go.IntKind.i32 0)]⟩,
  ⟨.int .i32, (.sc (.int .i32)), 1, 4, [(Go.Value.int Go.IntKind.i32 0)]⟩,
  ⟨.struct [(0, 12), (1, 12), (2, 30), (3, 145), (4, 5), (5, 5), (6, 146), (7, 147), (8, 148), (9, 149), (10, 150)], (.agg [(.int .u64), (.int .u64), (.int .u32), (.int .u8), (.int .u8), (.int .u8), (.int .u8), .fn, .ptr, (.int .i32), (.int .i32)]), 11, 48, [(Go.Value.int Go.IntKind.u64 0), (Go.Value.int Go.IntKind.u64 0), (Go.Value.int Go.IntKind.u32 0), (Go.Value.int Go.IntKind.u8 0), (Go.Value.int Go.IntKind.u8 0), (Go.Value.int Go.IntKind.u8 0), (Go.Value.int Go.IntKind.u8 0), Go.Value.nilFunc, (Go.Value.pointer Option.none), (Go.Value.int Go.IntKind.i32 0), (Go.Value.int Go.IntKind.i32 0)]⟩,
  ⟨.struct [(0, 12), (1, 12), (2, 30), (3, 145), (4, 5), (5, 5), (6, 146), (7, 147), (8, 148), (9, 149), (10, 150)], (.agg [(.int .u64), (.int .u64), (.int .u32), (.int .u8), (.int .u8), (.int .u8), (.int .u8), .fn, .ptr, (.int .i32), (.int .i32)]), 11, 48, [(Go.Value.int Go.IntKind.u64 0), (Go.Value.int Go.IntKind.u64 0), (Go.Value.int Go.IntKind.u32 0), (Go.Value.int Go.IntKind.u8 0), (Go.Value.int Go.IntKind.u8 0), (Go.Value.int Go.IntKind.u8 0), (Go.Value.int Go.IntKind.u8 0), Go.Value.nilFunc, (Go.Value.pointer Option.none), (Go.Value.int Go.IntKind.i32 0), (Go.Value.int Go.IntKind.i32 0)]⟩,
  ⟨.other, (.sc .any), 1, 8, [(Go.Value.pointer Option.none)]⟩]
noncomputable def C : Ctx := { P := Tryz.prog, T := tbl, tup := [(0, []), (37, [(.sc .ptr), (.sc (.int .i64))]), (40, [(.sc .ptr), (.sc (.int .i64))]), (53, [(.sc .slc), (.sc (.int .i64))]), (122, [(.sc (.int .i64)), (.sc (.int .i64))]), (127, [(.sc (.int .i64)), (.sc .bool)]), (136, [(.sc (.int .i64)), (.sc (.int .i64))])], fns := [false, false, true, true, true, true, true, true, true, true, true, true, true, true, true, true, true, true, true, true, true, true, true, true, true, true, true, true, true, true, true, true, true, true, true, true, true, true, true, true, true, true, true, true, true, true, true, true, true, true, true, true, true, true, true, true, true, true, true, true, true, true, true, true, true, true, true, true, true, true, true, true, true, true, true, true, true, true, true, true, true, true, true, true, true, true, true, true, true, true, true, true, true, true, true, true, true, true, true, true, true, true, true, true, true, true, true, true, true, true, true, true, false, false, false, false, false, false, false, false, false, false, false, false, false, false, false, false] }
theorem C_tbl : (List.range C.T.length).map (Tbl.seen C.P) = C.T.map Tbl.told := by kernel_rfl
theorem C_mixed : C.P.follows .mixedOrders = true := by kernel_rfl
theorem C_fns : (C.P.funcs.toList.map fun f => !(f.name == "runtime.NumGoroutine") && f.body.isSome) = C.fns := by kernel_rfl
theorem C_ok : C.Ok := { tbl := C_tbl, mixed := C_mixed, fns := C_fns }
/-- wellspring/wellspringlaw11.EncodeTells -/
abbrev wellspringlaw11_EncodeTells_id : FuncId := 3
noncomputable def wellspringlaw11_EncodeTells_m (p_0 : Int × Int × Int) (a_1 : Int) (b_2 : Int) (c_3 : Int) (seed_4 : Int) (data_5 : Sl) (ids_6 : Sl) (fit_7 : Bool) (R : Value → Heap → Prop) (h : Heap) : Prop :=
  RunsA Tryz.prog (Instr.box 23 (.agg #[(.int .i64 p_0.1), (.int .i64 p_0.2.1), (.int .i64 p_0.2.2)])) h fun a1 h1 =>
  Br (decide (((data_5.len : Nat) : Int) > (400 : Int)))
  (CallM Tryz.prog 4 #[] (.one (.sc .bool)) h1 fun r2 h2 =>
  R (.bool r2) h2)
  (JoinM (σ := Unit) (fun _ h30 =>
  CallM Tryz.prog 4 #[] (.one (.sc .bool)) h30 fun r45 h31 =>
  R (.bool r45) h31)
  (fun K1 =>
  JoinM (σ := Sl × Int × Int) (fun s6 h5 =>
  LoopM (σ := Int) (fun s7 K3 h6 =>
  Br (decide (s7 < s6.2.1))
  (∃ a8 : Addr, (s6.1.ptr = some a8 ∧ 0 ≤ s7 ∧ s7 < ((s6.1.len : Nat) : Int)) ∧
  ∃ x9 : Int × Int × Int, cellsAt h6 (a8.add (s7.toNat * 3)) 0 [(.int .i64 x9.1), (.int .i64 x9.2.1), (.int .i64 x9.2.2)] ∧
  RunsA Tryz.prog (Instr.alloc 23 true (.tuple #[])) h6 fun a10 h7 =>
  Runs Tryz.prog (Instr.storeAt 23 (.pointer (some a10)) (.agg #[(.int .i64 x9.1), (.int .i64 x9.2.1), (.int .i64 x9.2.2)])) h7 fun _ h8 =>
  JoinM (σ := Int × Sl) (fun s19 h13 =>
  CallM Tryz.prog 9 #[(.slice s19.2.ptr s19.2.len s19.2.cap), (.int .u8 (71 : Int))] (.one (.sc .slc)) h13 fun r20 h14 =>
  ∃ x21 : Int × Int × Int, cellsAt h14 a10 0 [(.int .i64 x21.1), (.int .i64 x21.2.1), (.int .i64 x21.2.2)] ∧
  CallM Tryz.prog 10 #[(.agg #[(.int .i64 x21.1), (.int .i64 x21.2.1), (.int .i64 x21.2.2)]), (.int .u32 s19.1), (.slice r20.ptr r20.len r20.cap)] (.many [(.sc .ptr), (.sc (.int .i64))]) h14 fun r22 h15 =>
  ∃ x23 : Int × Int × Int, cellsAt h15 a10 0 [(.int .i64 x23.1), (.int .i64 x23.2.1), (.int .i64 x23.2.2)] ∧
  CallM Tryz.prog 11 #[(.agg #[(.int .i64 x23.1), (.int .i64 x23.2.1), (.int .i64 x23.2.2)]), (.int .u32 s19.1), (.slice s19.2.ptr s19.2.len s19.2.cap)] (.many [(.sc .ptr), (.sc (.int .i64))]) h15 fun r24 h16 =>
  JoinM (σ := Unit) (fun _ h18 =>
  Br (Option.isNone r22.1)
  (K3 (IntKind.wrap .i64 (s7 + (1 : Int))) h18)
  (JoinM (σ := Unit) (fun _ h21 =>
  LoopM (σ := Int) (fun s32 K8 h22 =>
  JoinM (σ := Unit) (fun _ h23 =>
  ∃ a34 : Addr, (ids_6.ptr = some a34 ∧ 0 ≤ s32 ∧ s32 < ((ids_6.len : Nat) : Int)) ∧
  ∃ x35 : Int, cellOf h23 (a34.add (s32.toNat * 1)) = some (.int .i64 x35) ∧
  ∃ a36 : Addr, (ids_6.ptr = some a36 ∧ 0 ≤ s32 ∧ s32 < ((ids_6.len : Nat) : Int)) ∧
  ∃ x37 : Int, cellOf h23 (a36.add (s32.toNat * 1)) = some (.int .i64 x37) ∧
  CallM Tryz.prog 16 #[(.pointer r22.1), (.int .i64 x35)] (.one (.sc .slc)) h23 fun r38 h24 =>
  (Held.ok [(a36.add (s32.toNat * 1), (.int .i64 x37))] h24) ∧
  CallM Tryz.prog 17 #[(.pointer r24.1), (.int .i64 x37)] (.one (.sc .slc)) h24 fun r39 h25 =>
  (Held.ok [] h25) ∧
  CallM Tryz.prog 15 #[(.slice r38.ptr r38.len r38.cap), (.slice r39.ptr r39.len r39.cap)] (.one (.sc .bool)) h25 fun r40 h26 =>
  (Held.ok [] h26) ∧
  Br (!r40) ((Held.ok [] h26) ∧
  (Held.ok [] h26) ∧
  (Held.ok [] h26) ∧
  R (.bool false) h26) (CallM Tryz.prog 16 #[(.pointer r22.1), (.int .i64 s32)] (.one (.sc .slc)) h26 fun r41 h27 =>
  (Held.ok [] h27) ∧
  CallM Tryz.prog 17 #[(.pointer r24.1), (.int .i64 s32)] (.one (.sc .slc)) h27 fun r42 h28 =>
  (Held.ok [] h28) ∧
  CallM Tryz.prog 15 #[(.slice r41.ptr r41.len r41.cap), (.slice r42.ptr r42.len r42.cap)] (.one (.sc .bool)) h28 fun r43 h29 =>
  (Held.ok [] h29) ∧
  Br (!r43)
  (R (.bool false) h29)
  (K8 (IntKind.wrap .i64 (s32 + (1 : Int))) h29)))
  (fun K9 =>
  Br (decide (s32 < ((ids_6.len : Nat) : Int))) (Br (decide (s32 < (20 : Int)))
  (K9 () h22)
  (K3 (IntKind.wrap .i64 (s7 + (1 : Int))) h22)) (K3 (IntKind.wrap .i64 (s7 + (1 : Int))) h22))) (0 : Int) h21)
  (fun K7 =>
  ∃ a27 : Addr, (r24.1 = some a27) ∧
  ∃ x28 : Sl, cellOf h18 (a27.add 4) = some (.slice x28.ptr x28.len x28.cap) ∧
  CallM Tryz.prog 14 #[(.pointer r22.1)] (.one (.sc .slc)) h18 fun r29 h19 =>
  (Held.ok [(a27.add 4, (.slice x28.ptr x28.len x28.cap))] h19) ∧
  CallM Tryz.prog 13 #[(.slice r29.ptr r29.len r29.cap), (.slice x28.ptr x28.len x28.cap)] (.one (.sc .bool)) h19 fun r30 h20 =>
  (Held.ok [] h20) ∧
  Br (!r30)
  (R (.bool false) h20)
  (K7 () h20))))
  (fun K6 =>
  Br (r22.2 != r24.2) (R (.bool false) h16) (Br (!((!(Option.isNone r22.1)) == (r22.2 == (0 : Int)))) (R (.bool false) h16) (CallM Tryz.prog 12 #[(.slice r20.ptr r20.len r20.cap), (.slice s19.2.ptr s19.2.len s19.2.cap), (.int .u8 (71 : Int))] (.one (.sc .bool)) h16 fun r25 h17 =>
  Br (!r25)
  (R (.bool false) h17)
  (K6 () h17)))))
  (fun K4 =>
  JoinM (σ := Bool) (fun s13 h10 =>
  Br s13
  (∃ x14 : Int × Int × Int, cellsAt h10 a10 0 [(.int .i64 x14.1), (.int .i64 x14.2.1), (.int .i64 x14.2.2)] ∧
  ∃ x15 : Int, cellOf h10 a10 = some (.int .i64 x15) ∧
  ∃ x16 : Int, cellOf h10 (a10.add 2) = some (.int .i64 x16) ∧
  CallM Tryz.prog 7 #[(.agg #[(.int .i64 x14.1), (.int .i64 x14.2.1), (.int .i64 x14.2.2)]), (.int .u64 seed_4)] (.one (.sc (.int .u32))) h10 fun r17 h11 =>
  (Held.ok [(a10.add 2, (.int .i64 x16)), (a10, (.int .i64 x15))] h11) ∧
  CallM Tryz.prog 8 #[(.slice data_5.ptr data_5.len data_5.cap), (.int .i64 (IntKind.wrap .i64 (x15 * x16)))] (.one (.sc .slc)) h11 fun r18 h12 =>
  (Held.ok [(a10.add 2, (.int .i64 x16)), (a10, (.int .i64 x15))] h12) ∧
  K4 (r17, (⟨r18.ptr, r18.len, r18.cap⟩ : Sl)) h12)
  (K4 (IntKind.wrap .u32 seed_4, (⟨data_5.ptr, data_5.len, data_5.cap⟩ : Sl)) h10))
  (fun K5 =>
  Br fit_7 (∃ x11 : Int × Int × Int, cellsAt h8 a10 0 [(.int .i64 x11.1), (.int .i64 x11.2.1), (.int .i64 x11.2.2)] ∧
  CallM Tryz.prog 6 #[(.agg #[(.int .i64 x11.1), (.int .i64 x11.2.1), (.int .i64 x11.2.2)])] (.one (.sc .bool)) h8 fun r12 h9 =>
  K5 r12 h9) (K5 false h8))))
  (K1 () h6)) s6.2.2 h5)
  (fun K2 =>
  ∃ x3 : Int × Int × Int, cellsAt h1 a1 0 [(.int .i64 x3.1), (.int .i64 x3.2.1), (.int .i64 x3.2.2)] ∧
  CallM Tryz.prog 5 #[(.int .i64 a_1), (.int .i64 b_2), (.int .i64 c_3)] (.one (.agg [(.int .i64), (.int .i64), (.int .i64)])) h1 fun r4 h3 =>
  (Held.ok [(a1, (.int .i64 x3.1)), (a1.add 1, (.int .i64 x3.2.1)), (a1.add 2, (.int .i64 x3.2.2))] h3) ∧
  RunsR Tryz.prog (Instr.buildSlice 29 2 #[(0, (.agg #[(.int .i64 x3.1), (.int .i64 x3.2.1), (.int .i64 x3.2.2)])), (1, (.agg #[(.int .i64 r4.1), (.int .i64 r4.2.1), (.int .i64 r4.2.2)]))]) (.one (.sc .slc)) h3 fun v5 h4 =>
  (Held.ok [] h4) ∧
  K2 ((⟨v5.ptr, v5.len, v5.cap⟩ : Sl), ((v5.len : Nat) : Int), (0 : Int)) h4)))
noncomputable def wellspringlaw11_EncodeTells_ann : Ann := (.two .n (.two .n (.two (.join [] [(16, 17), (18, 27), (31, 137)] (.two (.join [(36, (.sc .slc)), (37, (.sc (.int .i64))), (38, (.sc (.int .i64)))] [(31, 39)] .n) (.inn (.loop [(38, (.sc (.int .i64)))] [(16, 17), (18, 27), (38, 137)] (.two .n (.two .n (.two (.inn (.two .n (.two .n (.two (.join [(19, (.sc (.int .u32))), (20, (.sc .slc))] [(19, 21), (45, 60)] (.two (.join [(49, (.sc .bool))] [(45, 50)] .n) .n)) (.two .n (.two .n (.two .n (.two (.join [] [(16, 17), (76, 92)] .n) (.two .n (.two (.join [] [(16, 17), (94, 102)] .n) (.two .n (.inn (.loop [(26, (.sc (.int .i64)))] [(16, 17), (26, 27), (102, 136)] (.two (.join [] [(102, 110)] .n) .n)))))))))))))) .n))))))) .n)))
theorem wellspringlaw11_EncodeTells_eq (p_0 : Int × Int × Int) (a_1 : Int) (b_2 : Int) (c_3 : Int) (seed_4 : Int) (data_5 : Sl) (ids_6 : Sl) (fit_7 : Bool) (R : Value → Heap → Prop) (h : Heap) : fnV C Tryz.f3 300 wellspringlaw11_EncodeTells_ann [(.agg #[(.int .i64 p_0.1), (.int .i64 p_0.2.1), (.int .i64 p_0.2.2)]), (.int .i64 a_1), (.int .i64 b_2), (.int .i64 c_3), (.int .u64 seed_4), (.slice data_5.ptr data_5.len data_5.cap), (.slice ids_6.ptr ids_6.len ids_6.cap), (.bool fit_7)] R h = wellspringlaw11_EncodeTells_m p_0 a_1 b_2 c_3 seed_4 data_5 ids_6 fit_7 R h := by kernel_rfl
theorem wellspringlaw11_EncodeTells_run (p_0 : Int × Int × Int) (a_1 : Int) (b_2 : Int) (c_3 : Int) (seed_4 : Int) (data_5 : Sl) (ids_6 : Sl) (fit_7 : Bool) {R : Value → Heap → Prop} {h : Heap} (hm : wellspringlaw11_EncodeTells_m p_0 a_1 b_2 c_3 seed_4 data_5 ids_6 fit_7 R h) : Meets Tryz.prog 3 #[(.agg #[(.int .i64 p_0.1), (.int .i64 p_0.2.1), (.int .i64 p_0.2.2)]), (.int .i64 a_1), (.int .i64 b_2), (.int .i64 c_3), (.int .u64 seed_4), (.slice data_5.ptr data_5.len data_5.cap), (.slice ids_6.ptr ids_6.len ids_6.cap), (.bool fit_7)] h R :=
  fn_spec C_ok (f := 3) (fn := Tryz.f3) (args := [(.agg #[(.int .i64 p_0.1), (.int .i64 p_0.2.1), (.int .i64 p_0.2.2)]), (.int .i64 a_1), (.int .i64 b_2), (.int .i64 c_3), (.int .u64 seed_4), (.slice data_5.ptr data_5.len data_5.cap), (.slice ids_6.ptr ids_6.len ids_6.cap), (.bool fit_7)]) Tryz.func3 (by rw [Tryz.ntmps3]; exact Nat.le_of_ble_eq_true rfl) (cast (wellspringlaw11_EncodeTells_eq p_0 a_1 b_2 c_3 seed_4 data_5 ids_6 fit_7 R h).symm hm)
/-- wellspring/wellspringlaw11.wakes -/
abbrev wellspringlaw11_wakes_id : FuncId := 4
noncomputable def wellspringlaw11_wakes_m  (R : Value → Heap → Prop) (h : Heap) : Prop :=
  RunsA Tryz.prog (Instr.alloc 23 true (.tuple #[])) h fun a1 h1 =>
  Runs Tryz.prog (Instr.storeAt 23 (.pointer (some a1)) (.agg #[(.int .i64 (1 : Int)), (.int .i64 (1 : Int)), (.int .i64 (2 : Int))])) h1 fun _ h2 =>
  LoopM (σ := Int) (fun s2 K1 h3 =>
  Br (decide (s2 < (20 : Int)))
  (∃ x3 : Int × Int × Int, cellsAt h3 a1 0 [(.int .i64 x3.1), (.int .i64 x3.2.1), (.int .i64 x3.2.2)] ∧
  RunsR Tryz.prog (Instr.buildSlice 25 2 #[(0, (.int .u8 (5 : Int))), (1, (.int .u8 (6 : Int)))]) (.one (.sc .slc)) h3 fun v4 h4 =>
  CallM Tryz.prog 10 #[(.agg #[(.int .i64 x3.1), (.int .i64 x3.2.1), (.int .i64 x3.2.2)]), (.int .u32 s2), (.slice v4.ptr v4.len v4.cap)] (.many [(.sc .ptr), (.sc (.int .i64))]) h4 fun r5 h5 =>
  Br (r5.2 == (0 : Int))
  (Br (!(Option.isNone r5.1)) (CallM Tryz.prog 16 #[(.pointer r5.1), (.int .i64 (0 : Int))] (.one (.sc .slc)) h5 fun r6 h6 =>
  RunsR Tryz.prog (Instr.buildSlice 25 2 #[(0, (.int .u8 (5 : Int))), (1, (.int .u8 (6 : Int)))]) (.one (.sc .slc)) h6 fun v7 h7 =>
  CallM Tryz.prog 15 #[(.slice r6.ptr r6.len r6.cap), (.slice v7.ptr v7.len v7.cap)] (.one (.sc .bool)) h7 fun r8 h8 =>
  R (.bool r8) h8) (R (.bool false) h5))
  (K1 (IntKind.wrap .u32 (s2 + (1 : Int))) h5))
  (R (.bool false) h3)) (0 : Int) h2
noncomputable def wellspringlaw11_wakes_ann : Ann := (.two .n (.two .n (.two (.two .n (.inn (.loop [(2, (.sc (.int .u32)))] [(0, 1), (2, 5), (6, 27)] .n))) .n)))
theorem wellspringlaw11_wakes_eq  (R : Value → Heap → Prop) (h : Heap) : fnV C Tryz.f4 300 wellspringlaw11_wakes_ann [] R h = wellspringlaw11_wakes_m  R h := by kernel_rfl
theorem wellspringlaw11_wakes_run  {R : Value → Heap → Prop} {h : Heap} (hm : wellspringlaw11_wakes_m  R h) : Meets Tryz.prog 4 #[] h R :=
  fn_spec C_ok (f := 4) (fn := Tryz.f4) (args := []) Tryz.func4 (by rw [Tryz.ntmps4]; exact Nat.le_of_ble_eq_true rfl) (cast (wellspringlaw11_wakes_eq  R h).symm hm)
/-- wellspring/wellspringplay.Params -/
abbrev wellspringplay_Params_id : FuncId := 5
noncomputable def wellspringplay_Params_m (a_0 : Int) (b_1 : Int) (c_2 : Int) (R : Value → Heap → Prop) (h : Heap) : Prop :=
  RunsA Tryz.prog (Instr.alloc 23 true (.tuple #[])) h fun a1 h1 =>
  CallM Tryz.prog 18 #[(.int .i64 a_0), (.int .i64 (16 : Int))] (.one (.sc (.int .i64))) h1 fun r2 h2 =>
  CallM Tryz.prog 18 #[(.int .i64 b_1), (.int .i64 (4 : Int))] (.one (.sc (.int .i64))) h2 fun r3 h3 =>
  CallM Tryz.prog 18 #[(.int .i64 c_2), (.int .i64 (24 : Int))] (.one (.sc (.int .i64))) h3 fun r4 h4 =>
  Runs Tryz.prog (Instr.storeAt 23 (.pointer (some a1)) (.agg #[(.int .i64 (IntKind.wrap .i64 ((1 : Int) + r2))), (.int .i64 (IntKind.wrap .i64 ((1 : Int) + r3))), (.int .i64 (IntKind.wrap .i64 ((1 : Int) + r4)))])) h4 fun _ h5 =>
  ∃ res5 : Int × Int × Int, cellsAt h5 a1 0 [(.int .i64 res5.1), (.int .i64 res5.2.1), (.int .i64 res5.2.2)] ∧
  R (.agg #[(.int .i64 res5.1), (.int .i64 res5.2.1), (.int .i64 res5.2.2)]) h5
noncomputable def wellspringplay_Params_ann : Ann := .n
theorem wellspringplay_Params_eq (a_0 : Int) (b_1 : Int) (c_2 : Int) (R : Value → Heap → Prop) (h : Heap) : fnV C Tryz.f5 300 wellspringplay_Params_ann [(.int .i64 a_0), (.int .i64 b_1), (.int .i64 c_2)] R h = wellspringplay_Params_m a_0 b_1 c_2 R h := by kernel_rfl
theorem wellspringplay_Params_run (a_0 : Int) (b_1 : Int) (c_2 : Int) {R : Value → Heap → Prop} {h : Heap} (hm : wellspringplay_Params_m a_0 b_1 c_2 R h) : Meets Tryz.prog 5 #[(.int .i64 a_0), (.int .i64 b_1), (.int .i64 c_2)] h R :=
  fn_spec C_ok (f := 5) (fn := Tryz.f5) (args := [(.int .i64 a_0), (.int .i64 b_1), (.int .i64 c_2)]) Tryz.func5 (by rw [Tryz.ntmps5]; exact Nat.le_of_ble_eq_true rfl) (cast (wellspringplay_Params_eq a_0 b_1 c_2 R h).symm hm)
/-- wellspring/pre.May -/
abbrev pre_May_id : FuncId := 6
noncomputable def pre_May_m (p_0 : Int × Int × Int) (R : Value → Heap → Prop) (h : Heap) : Prop :=
  RunsA Tryz.prog (Instr.box 23 (.agg #[(.int .i64 p_0.1), (.int .i64 p_0.2.1), (.int .i64 p_0.2.2)])) h fun a1 h1 =>
  ∃ x2 : Int, cellOf h1 a1 = some (.int .i64 x2) ∧
  Br (decide (x2 ≥ (1 : Int))) (∃ x3 : Int, cellOf h1 a1 = some (.int .i64 x3) ∧
  Br (decide (x3 ≤ (16 : Int))) (∃ x4 : Int, cellOf h1 (a1.add 1) = some (.int .i64 x4) ∧
  Br (decide (x4 ≥ (1 : Int))) (∃ x5 : Int, cellOf h1 (a1.add 1) = some (.int .i64 x5) ∧
  Br (decide (x5 ≤ (4 : Int))) (∃ x6 : Int, cellOf h1 (a1.add 2) = some (.int .i64 x6) ∧
  Br (decide (x6 ≥ (1 : Int))) (∃ x7 : Int, cellOf h1 (a1.add 2) = some (.int .i64 x7) ∧
  R (.bool (decide (x7 ≤ (24 : Int)))) h1) (R (.bool false) h1)) (R (.bool false) h1)) (R (.bool false) h1)) (R (.bool false) h1)) (R (.bool false) h1)
noncomputable def pre_May_ann : Ann := .n
theorem pre_May_eq (p_0 : Int × Int × Int) (R : Value → Heap → Prop) (h : Heap) : fnV C Tryz.f6 300 pre_May_ann [(.agg #[(.int .i64 p_0.1), (.int .i64 p_0.2.1), (.int .i64 p_0.2.2)])] R h = pre_May_m p_0 R h := by kernel_rfl
theorem pre_May_run (p_0 : Int × Int × Int) {R : Value → Heap → Prop} {h : Heap} (hm : pre_May_m p_0 R h) : Meets Tryz.prog 6 #[(.agg #[(.int .i64 p_0.1), (.int .i64 p_0.2.1), (.int .i64 p_0.2.2)])] h R :=
  fn_spec C_ok (f := 6) (fn := Tryz.f6) (args := [(.agg #[(.int .i64 p_0.1), (.int .i64 p_0.2.1), (.int .i64 p_0.2.2)])]) Tryz.func6 (by rw [Tryz.ntmps6]; exact Nat.le_of_ble_eq_true rfl) (cast (pre_May_eq p_0 R h).symm hm)
/-- wellspring/wellspringlaw11.Seed -/
abbrev wellspringlaw11_Seed_id : FuncId := 7
noncomputable def wellspringlaw11_Seed_m (p_0 : Int × Int × Int) (seed_1 : Int) (R : Value → Heap → Prop) (h : Heap) : Prop :=
  RunsA Tryz.prog (Instr.box 23 (.agg #[(.int .i64 p_0.1), (.int .i64 p_0.2.1), (.int .i64 p_0.2.2)])) h fun a1 h1 =>
  LoopM (σ := Int) (fun s2 K1 h2 =>
  Br (s2 != (IntKind.wrap .u32 ((IntKind.wrap .u32 seed_1) + (24 : Int))))
  (∃ x3 : Int × Int × Int, cellsAt h2 a1 0 [(.int .i64 x3.1), (.int .i64 x3.2.1), (.int .i64 x3.2.2)] ∧
  CallM Tryz.prog 19 #[(.agg #[(.int .i64 x3.1), (.int .i64 x3.2.1), (.int .i64 x3.2.2)]), (.int .u32 s2)] (.one (.sc .bool)) h2 fun r4 h3 =>
  Br r4
  (R (.int .u32 s2) h3)
  (K1 (IntKind.wrap .u32 (s2 + (1 : Int))) h3))
  (R (.int .u32 (IntKind.wrap .u32 seed_1)) h2)) (IntKind.wrap .u32 seed_1) h1
noncomputable def wellspringlaw11_Seed_ann : Ann := (.two .n (.two (.two .n (.inn (.loop [(5, (.sc (.int .u32)))] [(4, 6), (8, 19)] .n))) .n))
theorem wellspringlaw11_Seed_eq (p_0 : Int × Int × Int) (seed_1 : Int) (R : Value → Heap → Prop) (h : Heap) : fnV C Tryz.f7 300 wellspringlaw11_Seed_ann [(.agg #[(.int .i64 p_0.1), (.int .i64 p_0.2.1), (.int .i64 p_0.2.2)]), (.int .u64 seed_1)] R h = wellspringlaw11_Seed_m p_0 seed_1 R h := by kernel_rfl
theorem wellspringlaw11_Seed_run (p_0 : Int × Int × Int) (seed_1 : Int) {R : Value → Heap → Prop} {h : Heap} (hm : wellspringlaw11_Seed_m p_0 seed_1 R h) : Meets Tryz.prog 7 #[(.agg #[(.int .i64 p_0.1), (.int .i64 p_0.2.1), (.int .i64 p_0.2.2)]), (.int .u64 seed_1)] h R :=
  fn_spec C_ok (f := 7) (fn := Tryz.f7) (args := [(.agg #[(.int .i64 p_0.1), (.int .i64 p_0.2.1), (.int .i64 p_0.2.2)]), (.int .u64 seed_1)]) Tryz.func7 (by rw [Tryz.ntmps7]; exact Nat.le_of_ble_eq_true rfl) (cast (wellspringlaw11_Seed_eq p_0 seed_1 R h).symm hm)
/-- wellspring/wellspringlaw11.Data -/
abbrev wellspringlaw11_Data_id : FuncId := 8
noncomputable def wellspringlaw11_Data_m (l_0 : Sl) (n_1 : Int) (R : Value → Heap → Prop) (h : Heap) : Prop :=
  RunsR Tryz.prog (Instr.makeSlice 25 (.int .i64 n_1) (.int .i64 n_1)) (.one (.sc .slc)) h fun v1 h1 =>
  RunsR Tryz.prog (Builtin.copy_ #[25, 25] 3 #[(.slice v1.ptr v1.len v1.cap), (.slice l_0.ptr l_0.len l_0.cap)]) (.one (.sc (.int .i64))) h1 fun _ h2 =>
  R (.slice v1.ptr v1.len v1.cap) h2
noncomputable def wellspringlaw11_Data_ann : Ann := .n
theorem wellspringlaw11_Data_eq (l_0 : Sl) (n_1 : Int) (R : Value → Heap → Prop) (h : Heap) : fnV C Tryz.f8 300 wellspringlaw11_Data_ann [(.slice l_0.ptr l_0.len l_0.cap), (.int .i64 n_1)] R h = wellspringlaw11_Data_m l_0 n_1 R h := by kernel_rfl
theorem wellspringlaw11_Data_run (l_0 : Sl) (n_1 : Int) {R : Value → Heap → Prop} {h : Heap} (hm : wellspringlaw11_Data_m l_0 n_1 R h) : Meets Tryz.prog 8 #[(.slice l_0.ptr l_0.len l_0.cap), (.int .i64 n_1)] h R :=
  fn_spec C_ok (f := 8) (fn := Tryz.f8) (args := [(.slice l_0.ptr l_0.len l_0.cap), (.int .i64 n_1)]) Tryz.func8 (by rw [Tryz.ntmps8]; exact Nat.le_of_ble_eq_true rfl) (cast (wellspringlaw11_Data_eq l_0 n_1 R h).symm hm)
/-- wellspring/wellspringkeep.Spare[byte] -/
abbrev wellspringkeep_Spare_byte_id : FuncId := 9
noncomputable def wellspringkeep_Spare_byte_m (l_0 : Sl) (mark_1 : Int) (R : Value → Heap → Prop) (h : Heap) : Prop :=
  RunsR Tryz.prog (Instr.makeSlice 25 (.int .i64 ((l_0.len : Nat) : Int)) (.int .i64 (IntKind.wrap .i64 (((l_0.len : Nat) : Int) + (2 : Int))))) (.one (.sc .slc)) h fun v1 h1 =>
  RunsR Tryz.prog (Builtin.copy_ #[25, 25] 3 #[(.slice v1.ptr v1.len v1.cap), (.slice l_0.ptr l_0.len l_0.cap)]) (.one (.sc (.int .i64))) h1 fun _ h2 =>
  (0 ≤ ((v1.cap : Nat) : Int) ∧ ((v1.cap : Nat) : Int) ≤ ((v1.cap : Nat) : Int)) ∧
  LoopM (σ := Int) (fun s3 K1 h3 =>
  Br (decide (s3 < ((((v1.cap : Nat) : Int).toNat : Nat) : Int)))
  (∃ a4 : Addr, (v1.ptr = some a4 ∧ 0 ≤ s3 ∧ s3 < ((((v1.cap : Nat) : Int).toNat : Nat) : Int)) ∧
  Runs Tryz.prog (Instr.storeAt 5 (.pointer (some (a4.add (s3.toNat * 1)))) (.int .u8 mark_1)) h3 fun _ h4 =>
  K1 (IntKind.wrap .i64 (s3 + (1 : Int))) h4)
  (R (.slice v1.ptr v1.len v1.cap) h3)) ((l_0.len : Nat) : Int) h2
noncomputable def wellspringkeep_Spare_byte_ann : Ann := (.two .n (.two .n (.two .n (.two .n (.two (.two .n (.inn (.loop [(7, (.sc (.int .i64)))] [(7, 8), (23, 33)] .n))) .n)))))
theorem wellspringkeep_Spare_byte_eq (l_0 : Sl) (mark_1 : Int) (R : Value → Heap → Prop) (h : Heap) : fnV C Tryz.f9 300 wellspringkeep_Spare_byte_ann [(.slice l_0.ptr l_0.len l_0.cap), (.int .u8 mark_1)] R h = wellspringkeep_Spare_byte_m l_0 mark_1 R h := by kernel_rfl
theorem wellspringkeep_Spare_byte_run (l_0 : Sl) (mark_1 : Int) {R : Value → Heap → Prop} {h : Heap} (hm : wellspringkeep_Spare_byte_m l_0 mark_1 R h) : Meets Tryz.prog 9 #[(.slice l_0.ptr l_0.len l_0.cap), (.int .u8 mark_1)] h R :=
  fn_spec C_ok (f := 9) (fn := Tryz.f9) (args := [(.slice l_0.ptr l_0.len l_0.cap), (.int .u8 mark_1)]) Tryz.func9 (by rw [Tryz.ntmps9]; exact Nat.le_of_ble_eq_true rfl) (cast (wellspringkeep_Spare_byte_eq l_0 mark_1 R h).symm hm)
/-- wellspring/encode.New -/
abbrev encode_New_id : FuncId := 10
noncomputable def encode_New_m (p_0 : Int × Int × Int) (seed_1 : Int) (data_2 : Sl) (R : Value → Heap → Prop) (h : Heap) : Prop :=
  RunsA Tryz.prog (Instr.box 23 (.agg #[(.int .i64 p_0.1), (.int .i64 p_0.2.1), (.int .i64 p_0.2.2)])) h fun a1 h1 =>
  JoinM (σ := Unit) (fun _ h3 =>
  ∃ x7 : Int × Int × Int, cellsAt h3 a1 0 [(.int .i64 x7.1), (.int .i64 x7.2.1), (.int .i64 x7.2.2)] ∧
  CallM Tryz.prog 19 #[(.agg #[(.int .i64 x7.1), (.int .i64 x7.2.1), (.int .i64 x7.2.2)]), (.int .u32 seed_1)] (.one (.sc .bool)) h3 fun r8 h4 =>
  Br (!r8)
  (R (.tuple #[(.pointer none), (.int .i64 (8 : Int))]) h4)
  (∃ x9 : Int, cellOf h4 (a1.add 1) = some (.int .i64 x9) ∧
  LoopM (σ := Sl × Int) (fun s10 K2 h5 =>
  Br (decide (s10.2 < x9))
  (∃ x11 : Int, cellOf h5 (a1.add 2) = some (.int .i64 x11) ∧
  RunsR Tryz.prog (Instr.makeSlice 25 (.int .i64 x11) (.int .i64 x11)) (.one (.sc .slc)) h5 fun v12 h6 =>
  RunsR Tryz.prog (Instr.buildSlice 44 1 #[(0, (.slice v12.ptr v12.len v12.cap))]) (.one (.sc .slc)) h6 fun v13 h7 =>
  RunsR Tryz.prog (Builtin.append_ #[44, 44] 44 #[(.slice s10.1.ptr s10.1.len s10.1.cap), (.slice v13.ptr v13.len v13.cap)]) (.one (.sc .slc)) h7 fun v14 h8 =>
  K2 ((⟨v14.ptr, v14.len, v14.cap⟩ : Sl), IntKind.wrap .i64 (s10.2 + (1 : Int))) h8)
  (∃ x15 : Int, cellOf h5 a1 = some (.int .i64 x15) ∧
  LoopM (σ := Sl × Int) (fun s16 K3 h9 =>
  Br (decide (s16.2 < x15))
  (∃ x17 : Int, cellOf h9 (a1.add 2) = some (.int .i64 x17) ∧
  ∃ x18 : Int, cellOf h9 (a1.add 2) = some (.int .i64 x18) ∧
  (0 ≤ (IntKind.wrap .i64 (s16.2 * x17)) ∧ (IntKind.wrap .i64 (s16.2 * x17)) ≤ (IntKind.wrap .i64 ((IntKind.wrap .i64 (s16.2 + (1 : Int))) * x18)) ∧ (IntKind.wrap .i64 ((IntKind.wrap .i64 (s16.2 + (1 : Int))) * x18)) ≤ ((data_2.cap : Nat) : Int)) ∧
  RunsR Tryz.prog (Instr.buildSlice 44 1 #[(0, (.slice (if data_2.cap = (IntKind.wrap .i64 (s16.2 * x17)).toNat then data_2.ptr else data_2.ptr.map (·.add ((IntKind.wrap .i64 (s16.2 * x17)).toNat * 1))) ((IntKind.wrap .i64 ((IntKind.wrap .i64 (s16.2 + (1 : Int))) * x18)).toNat - (IntKind.wrap .i64 (s16.2 * x17)).toNat) (data_2.cap - (IntKind.wrap .i64 (s16.2 * x17)).toNat)))]) (.one (.sc .slc)) h9 fun v19 h10 =>
  RunsR Tryz.prog (Builtin.append_ #[44, 44] 44 #[(.slice s16.1.ptr s16.1.len s16.1.cap), (.slice v19.ptr v19.len v19.cap)]) (.one (.sc .slc)) h10 fun v20 h11 =>
  K3 ((⟨v20.ptr, v20.len, v20.cap⟩ : Sl), IntKind.wrap .i64 (s16.2 + (1 : Int))) h11)
  (JoinM (σ := Sl × Int) (fun s27 h16 =>
  Br (s27.2 != (0 : Int))
  (R (.tuple #[(.pointer none), (.int .i64 (8 : Int))]) h16)
  (∃ x28 : Int × Int × Int, cellsAt h16 a1 0 [(.int .i64 x28.1), (.int .i64 x28.2.1), (.int .i64 x28.2.2)] ∧
  RunsA Tryz.prog (Instr.box 60 (.agg #[(.int .i64 x28.1), (.int .i64 x28.2.1), (.int .i64 x28.2.2), (.int .u32 seed_1), (.slice s27.1.ptr s27.1.len s27.1.cap)])) h16 fun a29 h17 =>
  R (.tuple #[(.pointer (some a29)), (.int .i64 (0 : Int))]) h17))
  (fun K4 =>
  ∃ x21 : Int × Int × Int, cellsAt h9 a1 0 [(.int .i64 x21.1), (.int .i64 x21.2.1), (.int .i64 x21.2.2)] ∧
  ∃ x22 : Int × Int × Int, cellsAt h9 a1 0 [(.int .i64 x22.1), (.int .i64 x22.2.1), (.int .i64 x22.2.2)] ∧
  CallM Tryz.prog 21 #[] (.one (.sc .ptr)) h9 fun r23 h12 =>
  (Held.ok [(a1, (.int .i64 x22.1)), (a1.add 1, (.int .i64 x22.2.1)), (a1.add 2, (.int .i64 x22.2.2)), (a1, (.int .i64 x21.1)), (a1.add 1, (.int .i64 x21.2.1)), (a1.add 2, (.int .i64 x21.2.2))] h12) ∧
  CallM Tryz.prog 23 #[(.agg #[(.int .i64 x22.1), (.int .i64 x22.2.1), (.int .i64 x22.2.2)])] (.one (.sc .slc)) h12 fun r24 h13 =>
  (Held.ok [(a1, (.int .i64 x21.1)), (a1.add 1, (.int .i64 x21.2.1)), (a1.add 2, (.int .i64 x21.2.2))] h13) ∧
  CallM Tryz.prog 22 #[(.agg #[(.int .i64 x21.1), (.int .i64 x21.2.1), (.int .i64 x21.2.2)]), (.int .u32 seed_1), (.slice r24.ptr r24.len r24.cap)] (.one (.sc .slc)) h13 fun r25 h14 =>
  (Held.ok [] h14) ∧
  CallM Tryz.prog 20 #[(.pointer r23), (.slice r25.ptr r25.len r25.cap), (.slice s16.1.ptr s16.1.len s16.1.cap)] (.many [(.sc .slc), (.sc (.int .i64))]) h14 fun r26 h15 =>
  (Held.ok [] h15) ∧
  K4 ((⟨r26.1.ptr, r26.1.len, r26.1.cap⟩ : Sl), r26.2) h15))) ((⟨s10.1.ptr, s10.1.len, s10.1.cap⟩ : Sl), (0 : Int)) h5)) ((⟨none, 0, 0⟩ : Sl), (0 : Int)) h4))
  (fun K1 =>
  ∃ x2 : Int × Int × Int, cellsAt h1 a1 0 [(.int .i64 x2.1), (.int .i64 x2.2.1), (.int .i64 x2.2.2)] ∧
  CallM Tryz.prog 6 #[(.agg #[(.int .i64 x2.1), (.int .i64 x2.2.1), (.int .i64 x2.2.2)])] (.one (.sc .bool)) h1 fun r3 h2 =>
  Br (!r3) (R (.tuple #[(.pointer none), (.int .i64 (1 : Int))]) h2) (∃ x4 : Int, cellOf h2 a1 = some (.int .i64 x4) ∧
  ∃ x5 : Int, cellOf h2 (a1.add 2) = some (.int .i64 x5) ∧
  Br (((data_2.len : Nat) : Int) != (IntKind.wrap .i64 (x4 * x5)))
  (R (.tuple #[(.pointer none), (.int .i64 (1 : Int))]) h2)
  (K1 () h2)))
noncomputable def encode_New_ann : Ann := (.two .n (.two (.join [] [(6, 8), (12, 25)] .n) (.two .n (.two .n (.two (.two .n (.inn (.loop [(8, (.sc .slc)), (31, (.sc (.int .i64)))] [(8, 9), (31, 40)] .n))) (.two (.two .n (.inn (.loop [(8, (.sc .slc)), (42, (.sc (.int .i64)))] [(8, 10), (42, 60)] .n))) (.two (.join [(10, (.sc .slc)), (11, (.sc (.int .i64)))] [(10, 12), (60, 71)] .n) .n)))))))
theorem encode_New_eq (p_0 : Int × Int × Int) (seed_1 : Int) (data_2 : Sl) (R : Value → Heap → Prop) (h : Heap) : fnV C Tryz.f10 300 encode_New_ann [(.agg #[(.int .i64 p_0.1), (.int .i64 p_0.2.1), (.int .i64 p_0.2.2)]), (.int .u32 seed_1), (.slice data_2.ptr data_2.len data_2.cap)] R h = encode_New_m p_0 seed_1 data_2 R h := by kernel_rfl
theorem encode_New_run (p_0 : Int × Int × Int) (seed_1 : Int) (data_2 : Sl) {R : Value → Heap → Prop} {h : Heap} (hm : encode_New_m p_0 seed_1 data_2 R h) : Meets Tryz.prog 10 #[(.agg #[(.int .i64 p_0.1), (.int .i64 p_0.2.1), (.int .i64 p_0.2.2)]), (.int .u32 seed_1), (.slice data_2.ptr data_2.len data_2.cap)] h R :=
  fn_spec C_ok (f := 10) (fn := Tryz.f10) (args := [(.agg #[(.int .i64 p_0.1), (.int .i64 p_0.2.1), (.int .i64 p_0.2.2)]), (.int .u32 seed_1), (.slice data_2.ptr data_2.len data_2.cap)]) Tryz.func10 (by rw [Tryz.ntmps10]; exact Nat.le_of_ble_eq_true rfl) (cast (encode_New_eq p_0 seed_1 data_2 R h).symm hm)
/-- wellspring/wellspringref11.New -/
abbrev wellspringref11_New_id : FuncId := 11
noncomputable def wellspringref11_New_m (p_0 : Int × Int × Int) (seed_1 : Int) (data_2 : Sl) (R : Value → Heap → Prop) (h : Heap) : Prop :=
  RunsA Tryz.prog (Instr.box 23 (.agg #[(.int .i64 p_0.1), (.int .i64 p_0.2.1), (.int .i64 p_0.2.2)])) h fun a1 h1 =>
  JoinM (σ := Unit) (fun _ h3 =>
  ∃ x7 : Int × Int × Int, cellsAt h3 a1 0 [(.int .i64 x7.1), (.int .i64 x7.2.1), (.int .i64 x7.2.2)] ∧
  CallM Tryz.prog 25 #[(.agg #[(.int .i64 x7.1), (.int .i64 x7.2.1), (.int .i64 x7.2.2)]), (.int .u32 seed_1)] (.one (.sc .bool)) h3 fun r8 h4 =>
  Br (!r8)
  (R (.tuple #[(.pointer none), (.int .i64 (8 : Int))]) h4)
  (∃ x9 : Int × Int × Int, cellsAt h4 a1 0 [(.int .i64 x9.1), (.int .i64 x9.2.1), (.int .i64 x9.2.2)] ∧
  CallM Tryz.prog 26 #[(.agg #[(.int .i64 x9.1), (.int .i64 x9.2.1), (.int .i64 x9.2.2)])] (.one (.sc .slc)) h4 fun r10 h5 =>
  LoopM (σ := Sl × Int) (fun s11 K2 h6 =>
  Br (decide (s11.2 < ((r10.len : Nat) : Int)))
  (∃ x12 : Int, cellOf h6 (a1.add 2) = some (.int .i64 x12) ∧
  RunsR Tryz.prog (Instr.makeSlice 25 (.int .i64 x12) (.int .i64 x12)) (.one (.sc .slc)) h6 fun v13 h7 =>
  RunsR Tryz.prog (Instr.buildSlice 44 1 #[(0, (.slice v13.ptr v13.len v13.cap))]) (.one (.sc .slc)) h7 fun v14 h8 =>
  RunsR Tryz.prog (Builtin.append_ #[44, 44] 44 #[(.slice s11.1.ptr s11.1.len s11.1.cap), (.slice v14.ptr v14.len v14.cap)]) (.one (.sc .slc)) h8 fun v15 h9 =>
  K2 ((⟨v15.ptr, v15.len, v15.cap⟩ : Sl), IntKind.wrap .i64 (s11.2 + (1 : Int))) h9)
  (LoopM (σ := Sl × Sl × Int) (fun s16 K3 h10 =>
  ∃ x17 : Int, cellOf h10 a1 = some (.int .i64 x17) ∧
  Br (decide (s16.2.2 < x17))
  (∃ x18 : Int × Int × Int, cellsAt h10 a1 0 [(.int .i64 x18.1), (.int .i64 x18.2.1), (.int .i64 x18.2.2)] ∧
  CallM Tryz.prog 27 #[(.agg #[(.int .i64 x18.1), (.int .i64 x18.2.1), (.int .i64 x18.2.2)]), (.int .u32 seed_1), (.int .i64 s16.2.2)] (.one (.sc .slc)) h10 fun r19 h11 =>
  RunsR Tryz.prog (Instr.buildSlice 44 1 #[(0, (.slice r19.ptr r19.len r19.cap))]) (.one (.sc .slc)) h11 fun v20 h12 =>
  RunsR Tryz.prog (Builtin.append_ #[44, 44] 44 #[(.slice s16.1.ptr s16.1.len s16.1.cap), (.slice v20.ptr v20.len v20.cap)]) (.one (.sc .slc)) h12 fun v21 h13 =>
  ∃ x22 : Int, cellOf h13 (a1.add 2) = some (.int .i64 x22) ∧
  ∃ x23 : Int, cellOf h13 (a1.add 2) = some (.int .i64 x23) ∧
  (0 ≤ (IntKind.wrap .i64 (s16.2.2 * x22)) ∧ (IntKind.wrap .i64 (s16.2.2 * x22)) ≤ (IntKind.wrap .i64 ((IntKind.wrap .i64 (s16.2.2 + (1 : Int))) * x23)) ∧ (IntKind.wrap .i64 ((IntKind.wrap .i64 (s16.2.2 + (1 : Int))) * x23)) ≤ ((data_2.cap : Nat) : Int)) ∧
  RunsR Tryz.prog (Builtin.append_ #[25, 25] 25 #[(.slice none 0 0), (.slice (if data_2.cap = (IntKind.wrap .i64 (s16.2.2 * x22)).toNat then data_2.ptr else data_2.ptr.map (·.add ((IntKind.wrap .i64 (s16.2.2 * x22)).toNat * 1))) ((IntKind.wrap .i64 ((IntKind.wrap .i64 (s16.2.2 + (1 : Int))) * x23)).toNat - (IntKind.wrap .i64 (s16.2.2 * x22)).toNat) (data_2.cap - (IntKind.wrap .i64 (s16.2.2 * x22)).toNat))]) (.one (.sc .slc)) h13 fun v24 h14 =>
  RunsR Tryz.prog (Instr.buildSlice 44 1 #[(0, (.slice v24.ptr v24.len v24.cap))]) (.one (.sc .slc)) h14 fun v25 h15 =>
  RunsR Tryz.prog (Builtin.append_ #[44, 44] 44 #[(.slice s16.2.1.ptr s16.2.1.len s16.2.1.cap), (.slice v25.ptr v25.len v25.cap)]) (.one (.sc .slc)) h15 fun v26 h16 =>
  K3 ((⟨v21.ptr, v21.len, v21.cap⟩ : Sl), (⟨v26.ptr, v26.len, v26.cap⟩ : Sl), IntKind.wrap .i64 (s16.2.2 + (1 : Int))) h16)
  (CallM Tryz.prog 28 #[(.slice s16.1.ptr s16.1.len s16.1.cap), (.slice s16.2.1.ptr s16.2.1.len s16.2.1.cap)] (.many [(.sc .slc), (.sc (.int .i64))]) h10 fun r27 h17 =>
  ∃ x28 : Int × Int × Int, cellsAt h17 a1 0 [(.int .i64 x28.1), (.int .i64 x28.2.1), (.int .i64 x28.2.2)] ∧
  RunsA Tryz.prog (Instr.box 47 (.agg #[(.int .i64 x28.1), (.int .i64 x28.2.1), (.int .i64 x28.2.2), (.int .u32 seed_1), (.slice r27.1.ptr r27.1.len r27.1.cap)])) h17 fun a29 h18 =>
  R (.tuple #[(.pointer (some a29)), (.int .i64 (0 : Int))]) h18)) ((⟨r10.ptr, r10.len, r10.cap⟩ : Sl), (⟨s11.1.ptr, s11.1.len, s11.1.cap⟩ : Sl), (0 : Int)) h6)) ((⟨none, 0, 0⟩ : Sl), (0 : Int)) h5))
  (fun K1 =>
  ∃ x2 : Int × Int × Int, cellsAt h1 a1 0 [(.int .i64 x2.1), (.int .i64 x2.2.1), (.int .i64 x2.2.2)] ∧
  CallM Tryz.prog 24 #[(.agg #[(.int .i64 x2.1), (.int .i64 x2.2.1), (.int .i64 x2.2.2)])] (.one (.sc .bool)) h1 fun r3 h2 =>
  Br (!r3) (R (.tuple #[(.pointer none), (.int .i64 (1 : Int))]) h2) (∃ x4 : Int, cellOf h2 a1 = some (.int .i64 x4) ∧
  ∃ x5 : Int, cellOf h2 (a1.add 2) = some (.int .i64 x5) ∧
  Br (((data_2.len : Nat) : Int) != (IntKind.wrap .i64 (x4 * x5)))
  (R (.tuple #[(.pointer none), (.int .i64 (1 : Int))]) h2)
  (K1 () h2)))
noncomputable def wellspringref11_New_ann : Ann := (.two .n (.two (.join [] [(6, 8), (13, 26)] .n) (.two .n (.two .n (.two .n (.two (.two .n (.inn (.loop [(9, (.sc .slc)), (34, (.sc (.int .i64)))] [(9, 10), (34, 43)] .n))) (.two (.two .n (.inn (.loop [(8, (.sc .slc)), (9, (.sc .slc)), (10, (.sc (.int .i64)))] [(8, 11), (43, 71)] .n))) .n)))))))
theorem wellspringref11_New_eq (p_0 : Int × Int × Int) (seed_1 : Int) (data_2 : Sl) (R : Value → Heap → Prop) (h : Heap) : fnV C Tryz.f11 300 wellspringref11_New_ann [(.agg #[(.int .i64 p_0.1), (.int .i64 p_0.2.1), (.int .i64 p_0.2.2)]), (.int .u32 seed_1), (.slice data_2.ptr data_2.len data_2.cap)] R h = wellspringref11_New_m p_0 seed_1 data_2 R h := by kernel_rfl
theorem wellspringref11_New_run (p_0 : Int × Int × Int) (seed_1 : Int) (data_2 : Sl) {R : Value → Heap → Prop} {h : Heap} (hm : wellspringref11_New_m p_0 seed_1 data_2 R h) : Meets Tryz.prog 11 #[(.agg #[(.int .i64 p_0.1), (.int .i64 p_0.2.1), (.int .i64 p_0.2.2)]), (.int .u32 seed_1), (.slice data_2.ptr data_2.len data_2.cap)] h R :=
  fn_spec C_ok (f := 11) (fn := Tryz.f11) (args := [(.agg #[(.int .i64 p_0.1), (.int .i64 p_0.2.1), (.int .i64 p_0.2.2)]), (.int .u32 seed_1), (.slice data_2.ptr data_2.len data_2.cap)]) Tryz.func11 (by rw [Tryz.ntmps11]; exact Nat.le_of_ble_eq_true rfl) (cast (wellspringref11_New_eq p_0 seed_1 data_2 R h).symm hm)
/-- wellspring/wellspringkeep.Kept[byte] -/
abbrev wellspringkeep_Kept_byte_id : FuncId := 12
noncomputable def wellspringkeep_Kept_byte_m (l_0 : Sl) (was_1 : Sl) (mark_2 : Int) (R : Value → Heap → Prop) (h : Heap) : Prop :=
  (0 ≤ ((l_0.cap : Nat) : Int) ∧ ((l_0.cap : Nat) : Int) ≤ ((l_0.cap : Nat) : Int)) ∧
  CallM Tryz.prog 15 #[(.slice l_0.ptr l_0.len l_0.cap), (.slice was_1.ptr was_1.len was_1.cap)] (.one (.sc .bool)) h fun r1 h1 =>
  Br (!r1)
  (R (.bool false) h1)
  (LoopM (σ := Int) (fun s2 K1 h2 =>
  Br (decide (s2 < ((((l_0.cap : Nat) : Int).toNat : Nat) : Int)))
  (∃ a3 : Addr, (l_0.ptr = some a3 ∧ 0 ≤ s2 ∧ s2 < ((((l_0.cap : Nat) : Int).toNat : Nat) : Int)) ∧
  ∃ x4 : Int, cellOf h2 (a3.add (s2.toNat * 1)) = some (.int .u8 x4) ∧
  Br (x4 != mark_2)
  (R (.bool false) h2)
  (K1 (IntKind.wrap .i64 (s2 + (1 : Int))) h2))
  (R (.bool true) h2)) ((l_0.len : Nat) : Int) h1)
noncomputable def wellspringkeep_Kept_byte_ann : Ann := (.two .n (.two .n (.two .n (.two (.two .n (.inn (.loop [(8, (.sc (.int .i64)))] [(6, 7), (8, 9), (19, 31)] .n))) .n))))
theorem wellspringkeep_Kept_byte_eq (l_0 : Sl) (was_1 : Sl) (mark_2 : Int) (R : Value → Heap → Prop) (h : Heap) : fnV C Tryz.f12 300 wellspringkeep_Kept_byte_ann [(.slice l_0.ptr l_0.len l_0.cap), (.slice was_1.ptr was_1.len was_1.cap), (.int .u8 mark_2)] R h = wellspringkeep_Kept_byte_m l_0 was_1 mark_2 R h := by kernel_rfl
theorem wellspringkeep_Kept_byte_run (l_0 : Sl) (was_1 : Sl) (mark_2 : Int) {R : Value → Heap → Prop} {h : Heap} (hm : wellspringkeep_Kept_byte_m l_0 was_1 mark_2 R h) : Meets Tryz.prog 12 #[(.slice l_0.ptr l_0.len l_0.cap), (.slice was_1.ptr was_1.len was_1.cap), (.int .u8 mark_2)] h R :=
  fn_spec C_ok (f := 12) (fn := Tryz.f12) (args := [(.slice l_0.ptr l_0.len l_0.cap), (.slice was_1.ptr was_1.len was_1.cap), (.int .u8 mark_2)]) Tryz.func12 (by rw [Tryz.ntmps12]; exact Nat.le_of_ble_eq_true rfl) (cast (wellspringkeep_Kept_byte_eq l_0 was_1 mark_2 R h).symm hm)
/-- wellspring/wellspringkeep.Rows[byte] -/
abbrev wellspringkeep_Rows_byte_id : FuncId := 13
noncomputable def wellspringkeep_Rows_byte_m (a_0 : Sl) (b_1 : Sl) (R : Value → Heap → Prop) (h : Heap) : Prop :=
  Br (((a_0.len : Nat) : Int) != ((b_1.len : Nat) : Int))
  (R (.bool false) h)
  (LoopM (σ := Int) (fun s1 K1 h1 =>
  Br (decide (s1 < ((a_0.len : Nat) : Int)))
  (∃ a2 : Addr, (a_0.ptr = some a2 ∧ 0 ≤ s1 ∧ s1 < ((a_0.len : Nat) : Int)) ∧
  ∃ x3 : Sl, cellOf h1 (a2.add (s1.toNat * 1)) = some (.slice x3.ptr x3.len x3.cap) ∧
  ∃ a4 : Addr, (b_1.ptr = some a4 ∧ 0 ≤ s1 ∧ s1 < ((b_1.len : Nat) : Int)) ∧
  ∃ x5 : Sl, cellOf h1 (a4.add (s1.toNat * 1)) = some (.slice x5.ptr x5.len x5.cap) ∧
  CallM Tryz.prog 15 #[(.slice x3.ptr x3.len x3.cap), (.slice x5.ptr x5.len x5.cap)] (.one (.sc .bool)) h1 fun r6 h2 =>
  (Held.ok [] h2) ∧
  Br (!r6)
  (R (.bool false) h2)
  (K1 (IntKind.wrap .i64 (s1 + (1 : Int))) h2))
  (R (.bool true) h1)) (0 : Int) h)
noncomputable def wellspringkeep_Rows_byte_ann : Ann := (.two .n (.two .n (.two (.two .n (.inn (.loop [(13, (.sc (.int .i64)))] [(4, 6), (13, 27)] .n))) .n)))
theorem wellspringkeep_Rows_byte_eq (a_0 : Sl) (b_1 : Sl) (R : Value → Heap → Prop) (h : Heap) : fnV C Tryz.f13 300 wellspringkeep_Rows_byte_ann [(.slice a_0.ptr a_0.len a_0.cap), (.slice b_1.ptr b_1.len b_1.cap)] R h = wellspringkeep_Rows_byte_m a_0 b_1 R h := by kernel_rfl
theorem wellspringkeep_Rows_byte_run (a_0 : Sl) (b_1 : Sl) {R : Value → Heap → Prop} {h : Heap} (hm : wellspringkeep_Rows_byte_m a_0 b_1 R h) : Meets Tryz.prog 13 #[(.slice a_0.ptr a_0.len a_0.cap), (.slice b_1.ptr b_1.len b_1.cap)] h R :=
  fn_spec C_ok (f := 13) (fn := Tryz.f13) (args := [(.slice a_0.ptr a_0.len a_0.cap), (.slice b_1.ptr b_1.len b_1.cap)]) Tryz.func13 (by rw [Tryz.ntmps13]; exact Nat.le_of_ble_eq_true rfl) (cast (wellspringkeep_Rows_byte_eq a_0 b_1 R h).symm hm)
/-- (*wellspring/encode.Block).Mid -/
abbrev encode_Block_Mid_id : FuncId := 14
noncomputable def encode_Block_Mid_m (b_0 : Option Addr) (R : Value → Heap → Prop) (h : Heap) : Prop :=
  Br (Option.isNone b_0)
  (R (.slice none 0 0) h)
  (∃ a1 : Addr, (b_0 = some a1) ∧
  ∃ x2 : Sl, cellOf h (a1.add 4) = some (.slice x2.ptr x2.len x2.cap) ∧
  LoopM (σ := Sl × Int) (fun s3 K1 h1 =>
  Br (decide (s3.2 < ((x2.len : Nat) : Int)))
  (∃ a4 : Addr, (x2.ptr = some a4 ∧ 0 ≤ s3.2 ∧ s3.2 < ((x2.len : Nat) : Int)) ∧
  ∃ x5 : Sl, cellOf h1 (a4.add (s3.2.toNat * 1)) = some (.slice x5.ptr x5.len x5.cap) ∧
  CallM Tryz.prog 29 #[(.slice x5.ptr x5.len x5.cap)] (.one (.sc .slc)) h1 fun r6 h2 =>
  RunsR Tryz.prog (Instr.buildSlice 44 1 #[(0, (.slice r6.ptr r6.len r6.cap))]) (.one (.sc .slc)) h2 fun v7 h3 =>
  RunsR Tryz.prog (Builtin.append_ #[44, 44] 44 #[(.slice s3.1.ptr s3.1.len s3.1.cap), (.slice v7.ptr v7.len v7.cap)]) (.one (.sc .slc)) h3 fun v8 h4 =>
  K1 ((⟨v8.ptr, v8.len, v8.cap⟩ : Sl), IntKind.wrap .i64 (s3.2 + (1 : Int))) h4)
  (R (.slice s3.1.ptr s3.1.len s3.1.cap) h1)) ((⟨none, 0, 0⟩ : Sl), (0 : Int)) h)
noncomputable def encode_Block_Mid_ann : Ann := (.two .n (.two .n (.two .n (.two (.two .n (.inn (.loop [(3, (.sc .slc)), (13, (.sc (.int .i64)))] [(3, 4), (5, 6), (13, 23)] .n))) .n))))
theorem encode_Block_Mid_eq (b_0 : Option Addr) (R : Value → Heap → Prop) (h : Heap) : fnV C Tryz.f14 300 encode_Block_Mid_ann [(.pointer b_0)] R h = encode_Block_Mid_m b_0 R h := by kernel_rfl
theorem encode_Block_Mid_run (b_0 : Option Addr) {R : Value → Heap → Prop} {h : Heap} (hm : encode_Block_Mid_m b_0 R h) : Meets Tryz.prog 14 #[(.pointer b_0)] h R :=
  fn_spec C_ok (f := 14) (fn := Tryz.f14) (args := [(.pointer b_0)]) Tryz.func14 (by rw [Tryz.ntmps14]; exact Nat.le_of_ble_eq_true rfl) (cast (encode_Block_Mid_eq b_0 R h).symm hm)
/-- wellspring/wellspringkeep.Same[byte] -/
abbrev wellspringkeep_Same_byte_id : FuncId := 15
noncomputable def wellspringkeep_Same_byte_m (a_0 : Sl) (b_1 : Sl) (R : Value → Heap → Prop) (h : Heap) : Prop :=
  Br (((a_0.len : Nat) : Int) != ((b_1.len : Nat) : Int))
  (R (.bool false) h)
  (LoopM (σ := Int) (fun s1 K1 h1 =>
  Br (decide (s1 < ((a_0.len : Nat) : Int)))
  (∃ a2 : Addr, (a_0.ptr = some a2 ∧ 0 ≤ s1 ∧ s1 < ((a_0.len : Nat) : Int)) ∧
  ∃ x3 : Int, cellOf h1 (a2.add (s1.toNat * 1)) = some (.int .u8 x3) ∧
  ∃ a4 : Addr, (b_1.ptr = some a4 ∧ 0 ≤ s1 ∧ s1 < ((b_1.len : Nat) : Int)) ∧
  ∃ x5 : Int, cellOf h1 (a4.add (s1.toNat * 1)) = some (.int .u8 x5) ∧
  Br (x3 != x5)
  (R (.bool false) h1)
  (K1 (IntKind.wrap .i64 (s1 + (1 : Int))) h1))
  (R (.bool true) h1)) (0 : Int) h)
noncomputable def wellspringkeep_Same_byte_ann : Ann := (.two .n (.two .n (.two (.two .n (.inn (.loop [(13, (.sc (.int .i64)))] [(4, 6), (13, 26)] .n))) .n)))
theorem wellspringkeep_Same_byte_eq (a_0 : Sl) (b_1 : Sl) (R : Value → Heap → Prop) (h : Heap) : fnV C Tryz.f15 300 wellspringkeep_Same_byte_ann [(.slice a_0.ptr a_0.len a_0.cap), (.slice b_1.ptr b_1.len b_1.cap)] R h = wellspringkeep_Same_byte_m a_0 b_1 R h := by kernel_rfl
theorem wellspringkeep_Same_byte_run (a_0 : Sl) (b_1 : Sl) {R : Value → Heap → Prop} {h : Heap} (hm : wellspringkeep_Same_byte_m a_0 b_1 R h) : Meets Tryz.prog 15 #[(.slice a_0.ptr a_0.len a_0.cap), (.slice b_1.ptr b_1.len b_1.cap)] h R :=
  fn_spec C_ok (f := 15) (fn := Tryz.f15) (args := [(.slice a_0.ptr a_0.len a_0.cap), (.slice b_1.ptr b_1.len b_1.cap)]) Tryz.func15 (by rw [Tryz.ntmps15]; exact Nat.le_of_ble_eq_true rfl) (cast (wellspringkeep_Same_byte_eq a_0 b_1 R h).symm hm)
/-- (*wellspring/encode.Block).Symbol -/
abbrev encode_Block_Symbol_id : FuncId := 16
noncomputable def encode_Block_Symbol_m (b_0 : Option Addr) (id_1 : Int) (R : Value → Heap → Prop) (h : Heap) : Prop :=
  JoinM (σ := Unit) (fun _ h1 =>
  ∃ a2 : Addr, (b_0 = some a2) ∧
  ∃ x3 : Int, cellOf h1 (a2.add 2) = some (.int .i64 x3) ∧
  RunsR Tryz.prog (Instr.makeSlice 25 (.int .i64 x3) (.int .i64 x3)) (.one (.sc .slc)) h1 fun v4 h2 =>
  ∃ a5 : Addr, (b_0 = some a5) ∧
  ∃ x6 : Int × Int × Int, cellsAt h2 a5 0 [(.int .i64 x6.1), (.int .i64 x6.2.1), (.int .i64 x6.2.2)] ∧
  ∃ a7 : Addr, (b_0 = some a7) ∧
  ∃ x8 : Int, cellOf h2 (a7.add 3) = some (.int .u32 x8) ∧
  CallM Tryz.prog 30 #[(.agg #[(.int .i64 x6.1), (.int .i64 x6.2.1), (.int .i64 x6.2.2)]), (.int .u32 x8), (.int .i64 id_1)] (.one (.sc .slc)) h2 fun r9 h3 =>
  (Held.ok [] h3) ∧
  LoopM (σ := Int) (fun s10 K2 h4 =>
  Br (decide (s10 < ((r9.len : Nat) : Int)))
  (∃ a11 : Addr, (r9.ptr = some a11 ∧ 0 ≤ s10 ∧ s10 < ((r9.len : Nat) : Int)) ∧
  ∃ x12 : Int, cellOf h4 (a11.add (s10.toNat * 1)) = some (.int .i64 x12) ∧
  ∃ a13 : Addr, (b_0 = some a13) ∧
  ∃ x14 : Sl, cellOf h4 (a13.add 4) = some (.slice x14.ptr x14.len x14.cap) ∧
  ∃ a15 : Addr, (x14.ptr = some a15 ∧ 0 ≤ x12 ∧ x12 < ((x14.len : Nat) : Int)) ∧
  ∃ x16 : Sl, cellOf h4 (a15.add (x12.toNat * 1)) = some (.slice x16.ptr x16.len x16.cap) ∧
  LoopM (σ := Int) (fun s17 K3 h5 =>
  Br (decide (s17 < ((x16.len : Nat) : Int)))
  (∃ a18 : Addr, (x16.ptr = some a18 ∧ 0 ≤ s17 ∧ s17 < ((x16.len : Nat) : Int)) ∧
  ∃ x19 : Int, cellOf h5 (a18.add (s17.toNat * 1)) = some (.int .u8 x19) ∧
  ∃ a20 : Addr, (v4.ptr = some a20 ∧ 0 ≤ s17 ∧ s17 < ((v4.len : Nat) : Int)) ∧
  ∃ x21 : Int, cellOf h5 (a20.add (s17.toNat * 1)) = some (.int .u8 x21) ∧
  ∃ a22 : Addr, (v4.ptr = some a22 ∧ 0 ≤ s17 ∧ s17 < ((v4.len : Nat) : Int)) ∧
  Runs Tryz.prog (Instr.storeAt 5 (.pointer (some (a22.add (s17.toNat * 1)))) (.int .u8 (IntKind.wrap .u8 ((BitVec.ofInt (IntKind.bits .u8) x21 ^^^ (BitVec.ofInt (IntKind.bits .u8) x19)).toNat : Nat)))) h5 fun _ h6 =>
  K3 (IntKind.wrap .i64 (s17 + (1 : Int))) h6)
  (K2 (IntKind.wrap .i64 (s10 + (1 : Int))) h5)) (0 : Int) h4)
  (R (.slice v4.ptr v4.len v4.cap) h4)) (0 : Int) h3)
  (fun K1 =>
  Br (Option.isNone b_0) (R (.slice none 0 0) h) (Br (decide (id_1 < (0 : Int))) (R (.slice none 0 0) h) (Br (decide (id_1 > (65535 : Int)))
  (R (.slice none 0 0) h)
  (K1 () h))))
noncomputable def encode_Block_Symbol_ann : Ann := (.two .n (.two (.join [] [(4, 5), (10, 20)] .n) (.two .n (.two (.two .n (.inn (.loop [(37, (.sc (.int .i64)))] [(7, 10), (37, 63)] (.two .n (.two .n (.two (.inn (.two .n (.two .n (.inn (.loop [(49, (.sc (.int .i64)))] [(8, 10), (49, 62)] .n))))) .n)))))) .n))))
theorem encode_Block_Symbol_eq (b_0 : Option Addr) (id_1 : Int) (R : Value → Heap → Prop) (h : Heap) : fnV C Tryz.f16 300 encode_Block_Symbol_ann [(.pointer b_0), (.int .i64 id_1)] R h = encode_Block_Symbol_m b_0 id_1 R h := by kernel_rfl
theorem encode_Block_Symbol_run (b_0 : Option Addr) (id_1 : Int) {R : Value → Heap → Prop} {h : Heap} (hm : encode_Block_Symbol_m b_0 id_1 R h) : Meets Tryz.prog 16 #[(.pointer b_0), (.int .i64 id_1)] h R :=
  fn_spec C_ok (f := 16) (fn := Tryz.f16) (args := [(.pointer b_0), (.int .i64 id_1)]) Tryz.func16 (by rw [Tryz.ntmps16]; exact Nat.le_of_ble_eq_true rfl) (cast (encode_Block_Symbol_eq b_0 id_1 R h).symm hm)
/-- (*wellspring/wellspringref11.Block).Symbol -/
abbrev wellspringref11_Block_Symbol_id : FuncId := 17
noncomputable def wellspringref11_Block_Symbol_m (b_0 : Option Addr) (id_1 : Int) (R : Value → Heap → Prop) (h : Heap) : Prop :=
  CallM Tryz.prog 31 #[(.int .i64 id_1)] (.one (.sc .bool)) h fun r1 h1 =>
  Br (!r1)
  (R (.slice none 0 0) h1)
  (∃ a2 : Addr, (b_0 = some a2) ∧
  ∃ x3 : Int × Int × Int, cellsAt h1 a2 0 [(.int .i64 x3.1), (.int .i64 x3.2.1), (.int .i64 x3.2.2)] ∧
  ∃ a4 : Addr, (b_0 = some a4) ∧
  ∃ x5 : Sl, cellOf h1 (a4.add 4) = some (.slice x5.ptr x5.len x5.cap) ∧
  ∃ a6 : Addr, (b_0 = some a6) ∧
  ∃ x7 : Int × Int × Int, cellsAt h1 a6 0 [(.int .i64 x7.1), (.int .i64 x7.2.1), (.int .i64 x7.2.2)] ∧
  ∃ a8 : Addr, (b_0 = some a8) ∧
  ∃ x9 : Int, cellOf h1 (a8.add 3) = some (.int .u32 x9) ∧
  CallM Tryz.prog 33 #[(.agg #[(.int .i64 x7.1), (.int .i64 x7.2.1), (.int .i64 x7.2.2)]), (.int .u32 x9), (.int .i64 id_1)] (.one (.sc .slc)) h1 fun r10 h2 =>
  (Held.ok [(a4.add 4, (.slice x5.ptr x5.len x5.cap)), (a2, (.int .i64 x3.1)), (a2.add 1, (.int .i64 x3.2.1)), (a2.add 2, (.int .i64 x3.2.2))] h2) ∧
  CallM Tryz.prog 32 #[(.agg #[(.int .i64 x3.1), (.int .i64 x3.2.1), (.int .i64 x3.2.2)]), (.slice x5.ptr x5.len x5.cap), (.slice r10.ptr r10.len r10.cap)] (.one (.sc .slc)) h2 fun r11 h3 =>
  (Held.ok [] h3) ∧
  R (.slice r11.ptr r11.len r11.cap) h3)
noncomputable def wellspringref11_Block_Symbol_ann : Ann := .n
theorem wellspringref11_Block_Symbol_eq (b_0 : Option Addr) (id_1 : Int) (R : Value → Heap → Prop) (h : Heap) : fnV C Tryz.f17 300 wellspringref11_Block_Symbol_ann [(.pointer b_0), (.int .i64 id_1)] R h = wellspringref11_Block_Symbol_m b_0 id_1 R h := by kernel_rfl
theorem wellspringref11_Block_Symbol_run (b_0 : Option Addr) (id_1 : Int) {R : Value → Heap → Prop} {h : Heap} (hm : wellspringref11_Block_Symbol_m b_0 id_1 R h) : Meets Tryz.prog 17 #[(.pointer b_0), (.int .i64 id_1)] h R :=
  fn_spec C_ok (f := 17) (fn := Tryz.f17) (args := [(.pointer b_0), (.int .i64 id_1)]) Tryz.func17 (by rw [Tryz.ntmps17]; exact Nat.le_of_ble_eq_true rfl) (cast (wellspringref11_Block_Symbol_eq b_0 id_1 R h).symm hm)
/-- wellspring/wellspringkeep.Within -/
abbrev wellspringkeep_Within_id : FuncId := 18
noncomputable def wellspringkeep_Within_m (x_0 : Int) (n_1 : Int) (R : Value → Heap → Prop) (h : Heap) : Prop :=
  (n_1 ≠ 0) ∧
  JoinM (σ := Int) (fun s1 h1 =>
  R (.int .i64 s1) h1)
  (fun K1 =>
  Br (decide ((Int.tmod x_0 n_1) < (0 : Int)))
  (K1 (IntKind.wrap .i64 ((Int.tmod x_0 n_1) + n_1)) h)
  (K1 (Int.tmod x_0 n_1) h))
noncomputable def wellspringkeep_Within_ann : Ann := (.two .n (.two .n (.two (.join [(0, (.sc (.int .i64)))] [(0, 1), (8, 13)] .n) .n)))
theorem wellspringkeep_Within_eq (x_0 : Int) (n_1 : Int) (R : Value → Heap → Prop) (h : Heap) : fnV C Tryz.f18 300 wellspringkeep_Within_ann [(.int .i64 x_0), (.int .i64 n_1)] R h = wellspringkeep_Within_m x_0 n_1 R h := by kernel_rfl
theorem wellspringkeep_Within_run (x_0 : Int) (n_1 : Int) {R : Value → Heap → Prop} {h : Heap} (hm : wellspringkeep_Within_m x_0 n_1 R h) : Meets Tryz.prog 18 #[(.int .i64 x_0), (.int .i64 n_1)] h R :=
  fn_spec C_ok (f := 18) (fn := Tryz.f18) (args := [(.int .i64 x_0), (.int .i64 n_1)]) Tryz.func18 (by rw [Tryz.ntmps18]; exact Nat.le_of_ble_eq_true rfl) (cast (wellspringkeep_Within_eq x_0 n_1 R h).symm hm)
/-- wellspring/system.Right -/
abbrev system_Right_id : FuncId := 19
noncomputable def system_Right_m (p_0 : Int × Int × Int) (seed_1 : Int) (R : Value → Heap → Prop) (h : Heap) : Prop :=
  RunsA Tryz.prog (Instr.box 23 (.agg #[(.int .i64 p_0.1), (.int .i64 p_0.2.1), (.int .i64 p_0.2.2)])) h fun a1 h1 =>
  ∃ x2 : Int × Int × Int, cellsAt h1 a1 0 [(.int .i64 x2.1), (.int .i64 x2.2.1), (.int .i64 x2.2.2)] ∧
  ∃ x3 : Int × Int × Int, cellsAt h1 a1 0 [(.int .i64 x3.1), (.int .i64 x3.2.1), (.int .i64 x3.2.2)] ∧
  CallM Tryz.prog 23 #[(.agg #[(.int .i64 x3.1), (.int .i64 x3.2.1), (.int .i64 x3.2.2)])] (.one (.sc .slc)) h1 fun r4 h2 =>
  (Held.ok [(a1, (.int .i64 x2.1)), (a1.add 1, (.int .i64 x2.2.1)), (a1.add 2, (.int .i64 x2.2.2))] h2) ∧
  CallM Tryz.prog 34 #[(.agg #[(.int .i64 x2.1), (.int .i64 x2.2.1), (.int .i64 x2.2.2)]), (.int .u32 seed_1), (.slice r4.ptr r4.len r4.cap)] (.one (.sc .bool)) h2 fun r5 h3 =>
  (Held.ok [] h3) ∧
  R (.bool r5) h3
noncomputable def system_Right_ann : Ann := .n
theorem system_Right_eq (p_0 : Int × Int × Int) (seed_1 : Int) (R : Value → Heap → Prop) (h : Heap) : fnV C Tryz.f19 300 system_Right_ann [(.agg #[(.int .i64 p_0.1), (.int .i64 p_0.2.1), (.int .i64 p_0.2.2)]), (.int .u32 seed_1)] R h = system_Right_m p_0 seed_1 R h := by kernel_rfl
theorem system_Right_run (p_0 : Int × Int × Int) (seed_1 : Int) {R : Value → Heap → Prop} {h : Heap} (hm : system_Right_m p_0 seed_1 R h) : Meets Tryz.prog 19 #[(.agg #[(.int .i64 p_0.1), (.int .i64 p_0.2.1), (.int .i64 p_0.2.2)]), (.int .u32 seed_1)] h R :=
  fn_spec C_ok (f := 19) (fn := Tryz.f19) (args := [(.agg #[(.int .i64 p_0.1), (.int .i64 p_0.2.1), (.int .i64 p_0.2.2)]), (.int .u32 seed_1)]) Tryz.func19 (by rw [Tryz.ntmps19]; exact Nat.le_of_ble_eq_true rfl) (cast (system_Right_eq p_0 seed_1 R h).symm hm)
end Go.Proofs.YtgcbahhnnphejaaGreat
