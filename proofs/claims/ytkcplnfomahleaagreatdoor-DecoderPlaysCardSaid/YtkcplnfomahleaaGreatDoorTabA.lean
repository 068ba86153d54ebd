/- Part of the proofs that wellspringlaw14's laws answer true whatever the input reads, and leave it as it was; no condition. -/
import Derived.Test.YtkcplnfomahleaaGreatDoorHpA
import Derived.Test.YtkcplnfomahleaaGreatDoorProg
set_option linter.unusedVariables false
set_option linter.unusedSimpArgs false
namespace Go.Proofs.YtkcplnfomahleaaGreatDoor
open Go Go.Vc Go.Proofs
set_option maxRecDepth 1000000
def str_1_ : ByteArray := ⟨#[]⟩
def str_0_ : ByteArray := ⟨#[0]⟩
abbrev T_int : Nat := 3
abbrev T_bool : Nat := 4
abbrev T_uint8 : Nat := 5
abbrev T_sl_uint8 : Nat := 23
abbrev T_api_Params : Nat := 25
abbrev T_sl_api_Symbol : Nat := 32
abbrev T_api_Symbol : Nat := 35
abbrev T_sl_int : Nat := 41
abbrev T_sl_sl_api_Symbol : Nat := 42
abbrev T_sl_api_Params : Nat := 47
abbrev T_sl_sl_uint8 : Nat := 70
abbrev T_encode_Block : Nat := 79
abbrev T_decode_Decoder : Nat := 84
abbrev T_sl_api_Eq : Nat := 88
abbrev T_api_Eq : Nat := 90
abbrev T_sl_api_Step : Nat := 92
abbrev T_api_Plan : Nat := 94
abbrev T_decode_solver : Nat := 96
abbrev T_sl_bool : Nat := 97
abbrev T_255_uint8 : Nat := 117
abbrev T_256_int : Nat := 119
abbrev T_gf_Field : Nat := 122
abbrev T_wellspringref01_Draw : Nat := 132
abbrev T_peel_peeler : Nat := 139
abbrev T_sl_sl_int : Nat := 142
abbrev T_api_Step : Nat := 147
abbrev T_draw_Draw : Nat := 159
abbrev T_inact_planner : Nat := 174
abbrev ti0 : TI := ⟨.fn, (.sc .fn), 1, 8, [.nilFunc]⟩
abbrev ti1 : TI := ⟨.int .i64, (.sc (.int .i64)), 1, 8, [(.int .i64 0)]⟩
abbrev ti2 : TI := ⟨.int .u8, (.sc (.int .u8)), 1, 1, [(.int .u8 0)]⟩
abbrev ti3 : TI := ⟨.str, (.sc .str), 1, 16, [(.string ⟨#[]⟩)]⟩
abbrev ti4 : TI := ⟨.int .u64, (.sc (.int .u64)), 1, 8, [(.int .u64 0)]⟩
abbrev ti5 : TI := ⟨.int .i32, (.sc (.int .i32)), 1, 4, [(.int .i32 0)]⟩
abbrev ti6 : TI := ⟨.struct [(0, 130)], (.agg [(.int .u64)]), 1, 8, [(.int .u64 0)]⟩
noncomputable def tbl : Tbl := [⟨.other, (.sc .any), 1, 0, [(.tuple #[])]⟩, ti0, ti1, ti1, ⟨.bool, (.sc .bool), 1, 1, [(.bool .false)]⟩, ti2, ti2, ⟨.struct [(0, 2), (1, 3), (2, 4), (3, 6)], (.agg [(.int .i64), (.int .i64), .bool, (.int .u8)]), 4, 24, [(.int .i64 0), (.int .i64 0), (.bool .false), (.int .u8 0)]⟩, ⟨.struct [(0, 2), (1, 3), (2, 4), (3, 6)], (.agg [(.int .i64), (.int .i64), .bool, (.int .u8)]), 4, 24, [(.int .i64 0), (.int .i64 0), (.bool .false), (.int .u8 0)]⟩, ti3, ti3, ti3, ti4, ⟨.struct [(0, 9), (1, 12)], (.agg [.str, (.int .u64)]), 2, 24, [(.string ⟨#[]⟩), (.int .u64 0)]⟩, ⟨.struct [(0, 9), (1, 12)], (.agg [.str, (.int .u64)]), 2, 24, [(.string ⟨#[]⟩), (.int .u64 0)]⟩, ⟨.ptr 214, (.sc .ptr), 1, 8, [(.pointer none)]⟩, ⟨.ptr 217, (.sc .ptr), 1, 8, [(.pointer none)]⟩, ⟨.ptr 225, (.sc .ptr), 1, 8, [(.pointer none)]⟩, ⟨.struct [(0, 17)], (.agg [.ptr]), 1, 8, [(.pointer none)]⟩, ⟨.struct [(0, 17)], (.agg [.ptr]), 1, 8, [(.pointer none)]⟩, ⟨.other, (.sc .any), 1, 16, [.nilIface]⟩, ti5, ti4, ⟨.slice 5, (.sc .slc), 1, 24, [(.slice none 0 0)]⟩, ⟨.struct [(0, 3), (1, 3), (2, 3)], (.agg [(.int .i64), (.int .i64), (.int .i64)]), 3, 24, [(.int .i64 0), (.int .i64 0), (.int .i64 0)]⟩, ⟨.struct [(0, 3), (1, 3), (2, 3)], (.agg [(.int .i64), (.int .i64), (.int .i64)]), 3, 24, [(.int .i64 0), (.int .i64 0), (.int .i64 0)]⟩, ti0, ⟨.int .u32, (.sc (.int .u32)), 1, 4, [(.int .u32 0)]⟩, ti0, ti0, ti0, ti0, ⟨.slice 35, (.sc .slc), 1, 24, [(.slice none 0 0)]⟩, ti0, ⟨.struct [(0, 3), (1, 23)], (.agg [(.int .i64), .slc]), 2, 32, [(.int .i64 0), (.slice none 0 0)]⟩, ⟨.struct [(0, 3), (1, 23)], (.agg [(.int .i64), .slc]), 2, 32, [(.int .i64 0), (.slice none 0 0)]⟩, ti1, ⟨.other, (.sc .any), 1, 0, [(.tuple #[(.slice none 0 0), (.int .i64 0)])]⟩, ti0, ti0, ti0, ⟨.slice 3, (.sc .slc), 1, 24, [(.slice none 0 0)]⟩, ⟨.slice 32, (.sc .slc), 1, 24, [(.slice none 0 0)]⟩, ⟨.ptr 79, (.sc .ptr), 1, 8, [(.pointer none)]⟩, ⟨.other, (.sc .any), 1, 0, [(.tuple #[(.pointer none), (.int .i64 0)])]⟩, ti0, ti0, ⟨.slice 25, (.sc .slc), 1, 24, [(.slice none 0 0)]⟩, ti0, ti0, ti0, ti0, ti0, ti0, ti0, ti0, ⟨.ptr 84, (.sc .ptr), 1, 8, [(.pointer none)]⟩, ti0, ti0, ti0, ti0, ti0, ti0, ti0, ti0, ti0, ti0, ti0, ti0, ti0, ⟨.slice 23, (.sc .slc), 1, 24, [(.slice none 0 0)]⟩, ⟨.other, (.sc .any), 1, 0, [(.tuple #[(.slice none 0 0), (.int .i64 0)])]⟩, ti0, ti0, ti0, ⟨.ptr 122, (.sc .ptr), 1, 8, [(.pointer none)]⟩, ti0, ti0, ⟨.struct [(0, 25), (3, 27), (4, 70)], (.agg [(.int .i64), (.int .i64), (.int .i64), (.int .u32), .slc]), 5, 56, [(.int .i64 0), (.int .i64 0), (.int .i64 0), (.int .u32 0), (.slice none 0 0)]⟩, ⟨.struct [(0, 25), (3, 27), (4, 70)], (.agg [(.int .i64), (.int .i64), (.int .i64), (.int .u32), .slc]), 5, 56, [(.int .i64 0), (.int .i64 0), (.int .i64 0), (.int .u32 0), (.slice none 0 0)]⟩, ti0, ti0, ti0, ⟨.struct [(0, 25), (3, 27), (4, 32)], (.agg [(.int .i64), (.int .i64), (.int .i64), (.int .u32), .slc]), 5, 56, [(.int .i64 0), (.int .i64 0), (.int .i64 0), (.int .u32 0), (.slice none 0 0)]⟩, ⟨.struct [(0, 25), (3, 27), (4, 32)], (.agg [(.int .i64), (.int .i64), (.int .i64), (.int .u32), .slc]), 5, 56, [(.int .i64 0), (.int .i64 0), (.int .i64 0), (.int .u32 0), (.slice none 0 0)]⟩, ti0, ti0, ti0, ⟨.slice 90, (.sc .slc), 1, 24, [(.slice none 0 0)]⟩, ⟨.struct [(0, 41), (1, 23)], (.agg [.slc, .slc]), 2, 48, [(.slice none 0 0), (.slice none 0 0)]⟩, ⟨.struct [(0, 41), (1, 23)], (.agg [.slc, .slc]), 2, 48, [(.slice none 0 0), (.slice none 0 0)]⟩, ⟨.ptr 96, (.sc .ptr), 1, 8, [(.pointer none)]⟩, ⟨.slice 147, (.sc .slc), 1, 24, [(.slice none 0 0)]⟩, ⟨.struct [(0, 92), (1, 41), (2, 41)], (.agg [.slc, .slc, .slc]), 3, 72, [(.slice none 0 0), (.slice none 0 0), (.slice none 0 0)]⟩, ⟨.struct [(0, 92), (1, 41), (2, 41)], (.agg [.slc, .slc, .slc]), 3, 72, [(.slice none 0 0), (.slice none 0 0), (.slice none 0 0)]⟩, ⟨.struct [(0, 75), (1, 25), (4, 70), (5, 88), (6, 94), (9, 70), (10, 70)], (.agg [.ptr, (.int .i64), (.int .i64), (.int .i64), .slc, .slc, .slc, .slc, .slc, .slc, .slc]), 11, 200, [(.pointer none), (.int .i64 0), (.int .i64 0), (.int .i64 0), (.slice none 0 0), (.slice none 0 0), (.slice none 0 0), (.slice none 0 0), (.slice none 0 0), (.slice none 0 0), (.slice none 0 0)]⟩, ⟨.struct [(0, 75), (1, 25), (4, 70), (5, 88), (6, 94), (9, 70), (10, 70)], (.agg [.ptr, (.int .i64), (.int .i64), (.int .i64), .slc, .slc, .slc, .slc, .slc, .slc, .slc]), 11, 200, [(.pointer none), (.int .i64 0), (.int .i64 0), (.int .i64 0), (.slice none 0 0), (.slice none 0 0), (.slice none 0 0), (.slice none 0 0), (.slice none 0 0), (.slice none 0 0), (.slice none 0 0)]⟩, ⟨.slice 4, (.sc .slc), 1, 24, [(.slice none 0 0)]⟩, ⟨.other, (.sc .any), 1, 0, [(.tuple #[(.slice none 0 0), (.slice none 0 0), (.slice none 0 0), (.int .i64 0)])]⟩, ti0, ti0, ⟨.other, (.sc .any), 1, 0, [(.tuple #[(.slice none 0 0), (.slice none 0 0)])]⟩, ti0, ti0, ti0, ⟨.ptr 159, (.sc .ptr), 1, 8, [(.pointer none)]⟩, ti0, ti0, ti0, ti0, ti0, ti0, ti0, ti0, ti0, ti0, ti0, ⟨.array 255 5, (.arr (.int .u8)), 255, 255, List.replicate 255 (.int .u8 0)⟩, ti0, ⟨.array 256 3, (.arr (.int .i64)), 256, 2048, List.replicate 256 (.int .i64 0)⟩, ti0, ⟨.struct [(0, 117), (255, 119)], (.arr .any), 511, 2304, List.replicate 255 (.int .u8 0) ++ List.replicate 256 (.int .i64 0)⟩, ⟨.struct [(0, 117), (255, 119)], (.arr .any), 511, 2304, List.replicate 255 (.int .u8 0) ++ List.replicate 256 (.int .i64 0)⟩, ti0, ti0, ti0, ti0, ti0, ti0, ⟨.ptr 132, (.sc .ptr), 1, 8, [(.pointer none)]⟩, ti4, ti6, ti6, ti0, ti0, ti0, ti0, ⟨.ptr 139, (.sc .ptr), 1, 8, [(.pointer none)]⟩, ⟨.struct [(0, 88), (1, 97), (2, 70)], (.agg [.slc, .slc, .slc]), 3, 72, [(.slice none 0 0), (.slice none 0 0), (.slice none 0 0)]⟩, ⟨.struct [(0, 88), (1, 97), (2, 70)], (.agg [.slc, .slc, .slc]), 3, 72, [(.slice none 0 0), (.slice none 0 0), (.slice none 0 0)]⟩, ti0, ti0, ⟨.slice 41, (.sc .slc), 1, 24, [(.slice none 0 0)]⟩, ⟨.other, (.sc .any), 1, 0, [(.tuple #[(.agg #[(.slice none 0 0), (.slice none 0 0), (.slice none 0 0)]), (.bool .false)])]⟩, ti0, ti0, ⟨.struct [(0, 3), (1, 3)], (.agg [(.int .i64), (.int .i64)]), 2, 16, [(.int .i64 0), (.int .i64 0)]⟩, ⟨.struct [(0, 3), (1, 3)], (.agg [(.int .i64), (.int .i64)]), 2, 16, [(.int .i64 0), (.int .i64 0)]⟩, ti0, ti0, ti0, ⟨.array 256 4, (.arr .bool), 256, 256, List.replicate 256 (.bool .false)⟩, ⟨.array 256 4, (.arr .bool), 256, 256, List.replicate 256 (.bool .false)⟩, ⟨.other, (.sc .any), 1, 0, [(.tuple #[(.agg #[(.bool .false), (.bool .false), (.bool .false), (.bool .false), (.bool .false), (.bool .false), (.bool .false), (.bool .false), (.bool .false), (.bool .false), (.bool .false), (.bool .false), (.bool .false), (.bool .false), (.bool .false), (.bool .false), (.bool .false), (.bool .false), (.bool .false), (.bool .false), (.bool .false), (.bool .false), (.bool .false), (.bool .false), (.bool .false), (.bool .false), (.bool .false), (.bool .false), (.bool .false), (.bool .false), (.bool .false), (.bool .false), (.bool .false), (.bool .false), (.bool .false), (.bool .false), (.bool .false), (.bool .false), (.bool .false), (.bool .false), (.bool .false), (.bool .false), (.bool .false), (.bool .false), (.bool .false), (.bool .false), (.bool .false), (.bool .false), (.bool .false), (.bool .false), (.bool .false), (.bool .false), (.bool .false), (.bool .false), (.bool .false), (.bool .false), (.bool .false), (.bool .false), (.bool .false), (.bool .false), (.bool .false), (.bool .false), (.bool .false), (.bool .false), (.bool .false), (.bool .false), (.bool .false), (.bool .false), (.bool .false), (.bool .false), (.bool .false), (.bool .false), (.bool .false), (.bool .false), (.bool .false), (.bool .false), (.bool .false), (.bool .false), (.bool .false), (.bool .false), (.bool .false), (.bool .false), (.bool .false), (.bool .false), (.bool .false), (.bool .false), (.bool .false), (.bool .false), (.bool .false), (.bool .false), (.bool .false), (.bool .false), (.bool .false), (.bool .false), (.bool .false), (.bool .false), (.bool .false), (.bool .false), (.bool .false), (.bool .false), (.bool .false), (.bool .false), (.bool .false), (.bool .false), (.bool .false), (.bool .false), (.bool .false), (.bool .false), (.bool .false), (.bool .false), (.bool .false), (.bool .false), (.bool .false), (.bool .false), (.bool .false), (.bool .false), (.bool .false), (.bool .false), (.bool .false), (.bool .false), (.bool .false), (.bool .false), (.bool .false), (.bool .false), (.bool .false), (.bool .false), (.bool .false), (.bool .false), (.bool .false), (.bool .false), (.bool .false), (.bool .false), (.bool .false), (.bool .false), (.bool .false), (.bool .false), (.bool .false), (.bool .false), (.bool .false), (.bool .false), (.bool .false), (.bool .false), (.bool .false), (.bool .false), (.bool .false), (.bool .false), (.bool .false), (.bool .false), (.bool .false), (.bool .false), (.bool .false), (.bool .false), (.bool .false), (.bool .false), (.bool .false), (.bool .false), (.bool .false), (.bool .false), (.bool .false), (.bool .false), (.bool .false), (.bool .false), (.bool .false), (.bool .false), (.bool .false), (.bool .false), (.bool .false), (.bool .false), (.bool .false), (.bool .false), (.bool .false), (.bool .false), (.bool .false), (.bool .false), (.bool .false), (.bool .false), (.bool .false), (.bool .false), (.bool .false), (.bool .false), (.bool .false), (.bool .false), (.bool .false), (.bool .false), (.bool .false), (.bool .false), (.bool .false), (.bool .false), (.bool .false), (.bool .false), (.bool .false), (.bool .false), (.bool .false), (.bool .false), (.bool .false), (.bool .false), (.bool .false), (.bool .false), (.bool .false), (.bool .false), (.bool .false), (.bool .false), (.bool .false), (.bool .false), (.bool .false), (.bool .false), (.bool .false), (.bool .false), (.bool .false), (.bool .false), (.bool .false), (.bool .false), (.bool .false), (.bool .false), (.bool .false), (.bool .false), (.bool .false), (.bool .false), (.bool .false), (.bool .false), (.bool .false), (.bool .false), (.bool .false), (.bool .false), (.bool .false), (.bool .false), (.bool .false), (.bool .false), (.bool .false), (.bool .false), (.bool .false), (.bool .false), (.bool .false), (.bool .false), (.bool .false), (.bool .false), (.bool .false), (.bool .false), (.bool .false), (.bool .false), (.bool .false), (.bool .false), (.bool .false), (.bool .false), (.bool .false), (.bool .false), (.bool .false), (.bool .false), (.bool .false), (.bool .false), (.bool .false), (.bool .false), (.bool .false), (.bool .false), (.bool .false), (.bool .false)]), (.bool .false)])]⟩, ti0, ti0, ⟨.ptr 152, (.sc .ptr), 1, 8, [(.pointer none)]⟩, ti0, ti6, ti6, ti0, ti0, ti0, ti0, ti0, ti0, ti0, ti0, ti0, ti0, ti0, ti0, ⟨.ptr 174, (.sc .ptr), 1, 8, [(.pointer none)]⟩, ⟨.struct [(0, 142), (1, 97), (2, 97)], (.agg [.slc, .slc, .slc]), 3, 72, [(.slice none 0 0), (.slice none 0 0), (.slice none 0 0)]⟩, ⟨.struct [(0, 142), (1, 97), (2, 97)], (.agg [.slc, .slc, .slc]), 3, 72, [(.slice none 0 0), (.slice none 0 0), (.slice none 0 0)]⟩, ti0, ⟨.other, (.sc .any), 1, 0, [(.tuple #[(.agg #[(.int .i64 0), (.int .i64 0)]), (.bool .false)])]⟩, ti0, ti0, ti0, ⟨.other, (.sc .any), 1, 0, [(.tuple #[(.int .i32 0), (.int .i64 0)])]⟩, ti0, ti0, ti0, ti0, ⟨.int .u16, (.sc (.int .u16)), 1, 2, [(.int .u16 0)]⟩, ti0, ⟨.other, (.sc .any), 1, 0, [(.tuple #[(.int .i64 0), (.bool .false)])]⟩, ti0, ti0, ti0, ti0, ti1, ⟨.other, (.sc .any), 1, 0, [(.tuple #[(.int .i64 0), (.int .i64 0)])]⟩, ti0, ti0, ti0, ti0, ti0, ⟨.array 256 5, (.arr (.int .u8)), 256, 256, List.replicate 256 (.int .u8 0)⟩, ⟨.struct [(0, 5), (1, 5)], (.agg [(.int .u8), (.int .u8)]), 2, 2, [(.int .u8 0), (.int .u8 0)]⟩, ⟨.struct [(0, 5), (1, 5)], (.agg [(.int .u8), (.int .u8)]), 2, 2, [(.int .u8 0), (.int .u8 0)]⟩, ⟨.array 16 201, (.arr (.int .u8)), 32, 32, List.replicate 32 (.int .u8 0)⟩, ti4, ti0, ti0, ti0, ⟨.ptr 3, (.sc .ptr), 1, 8, [(.pointer none)]⟩, ti0, ⟨.ptr 203, (.sc .ptr), 1, 8, [(.pointer none)]⟩, ⟨.other, (.sc .any), 1, 0, [(.tuple #[(.int .i64 0), (.int .i64 0)])]⟩, ti0, ti0, ⟨.struct [(0, 17), (1, 17), (2, 17), (3, 9)], (.agg [.ptr, .ptr, .ptr, .str]), 4, 40, [(.pointer none), (.pointer none), (.pointer none), (.string ⟨#[]⟩)]⟩, ⟨.struct [(0, 17), (1, 17), (2, 17), (3, 9)], (.agg [.ptr, .ptr, .ptr, .str]), 4, 40, [(.pointer none), (.pointer none), (.pointer none), (.string ⟨#[]⟩)]⟩, ⟨.array 0 16, (.arr .ptr), 0, 0, []⟩, ⟨.struct [(0, 215)], (.agg []), 0, 0, []⟩, ⟨.struct [(0, 215)], (.agg []), 0, 0, []⟩, ti2, ti2, ti0, ⟨.ptr 5, (.sc .ptr), 1, 8, [(.pointer none)]⟩, ti5, ti5, ⟨.struct [(0, 12), (1, 12), (2, 27), (3, 218), (4, 5), (5, 5), (6, 219), (7, 220), (8, 221), (9, 222), (10, 223)], (.agg [(.int .u64), (.int .u64), (.int .u32), (.int .u8), (.int .u8), (.int .u8), (.int .u8), .fn, .ptr, (.int .i32), (.int .i32)]), 11, 48, [(.int .u64 0), (.int .u64 0), (.int .u32 0), (.int .u8 0), (.int .u8 0), (.int .u8 0), (.int .u8 0), .nilFunc, (.pointer none), (.int .i32 0), (.int .i32 0)]⟩, ⟨.struct [(0, 12), (1, 12), (2, 27), (3, 218), (4, 5), (5, 5), (6, 219), (7, 220), (8, 221), (9, 222), (10, 223)], (.agg [(.int .u64), (.int .u64), (.int .u32), (.int .u8), (.int .u8), (.int .u8), (.int .u8), .fn, .ptr, (.int .i32), (.int .i32)]), 11, 48, [(.int .u64 0), (.int .u64 0), (.int .u32 0), (.int .u8 0), (.int .u8 0), (.int .u8 0), (.int .u8 0), .nilFunc, (.pointer none), (.int .i32 0), (.int .i32 0)]⟩, ti0, ⟨.other, (.sc .any), 1, 8, [(.pointer none)]⟩]
noncomputable def C : Ctx := { P := Tryz.prog, T := tbl, tup := [(0, []), (37, [(.sc .slc), (.sc (.int .i64))]), (44, [(.sc .ptr), (.sc (.int .i64))]), (71, [(.sc .slc), (.sc (.int .i64))]), (98, [(.sc .slc), (.sc .slc), (.sc .slc), (.sc (.int .i64))]), (101, [(.sc .slc), (.sc .slc)]), (143, [(.agg [.slc, .slc, .slc]), (.sc .bool)]), (153, [(.arr .bool), (.sc .bool)]), (176, [(.agg [(.int .i64), (.int .i64)]), (.sc .bool)]), (180, [(.sc (.int .i32)), (.sc (.int .i64))]), (187, [(.sc (.int .i64)), (.sc .bool)]), (193, [(.sc (.int .i64)), (.sc (.int .i64))]), (210, [(.sc (.int .i64)), (.sc (.int .i64))])], fns := [false, false] ++ List.replicate 160 true ++ List.replicate 21 false ++ [true] }
theorem C_tbl : (List.range C.T.length).map (Tbl.seen C.P) = C.T.map Tbl.told := by kernel_rfl
theorem C_mixed : C.P.follows .mixedOrders = true := by kernel_rfl
theorem C_fns : (C.P.funcs.toList.map fun f => !(f.name == "runtime.NumGoroutine") && f.body.isSome) = C.fns := by kernel_rfl
theorem C_ok : C.Ok := { tbl := C_tbl, mixed := C_mixed, fns := C_fns }
abbrev slices_Sort_int_int_id : FuncId := 109
abbrev math_bits_Len_id : FuncId := 137
abbrev wellspringlaw14_DecodeTells_id : FuncId := 4
noncomputable def wellspringlaw14_DecodeTells_m (p_0 : Int × Int × Int) (a_1 : Int) (b_2 : Int) (c_3 : Int) (seed_4 : Int) (data_5 : Sl) (ids_6 : Sl) (l_7 : Sl) (turn_8 : Int) (R : Value → Heap → Prop) (h : Heap) : Prop :=
  RunsA Tryz.prog (Instr.box 25 (.agg #[(.int .i64 p_0.1), (.int .i64 p_0.2.1), (.int .i64 p_0.2.2)])) h fun a1 h1 =>
  Br (decide (((l_7.len : Nat) : Int) > (12 : Int)))
  (CallM Tryz.prog 13 #[] (.one (.sc .bool)) h1 fun r2 h2 =>
  R (.bool r2) h2)
  (LoopM (σ := Int) (fun s3 K1 h3 =>
  Br (decide (s3 < ((l_7.len : Nat) : Int)))
  (∃ a4 : Addr, (l_7.ptr = some a4 ∧ 0 ≤ s3 ∧ s3 < ((l_7.len : Nat) : Int)) ∧
  ∃ x5 : Sl, cellOf h3 ((a4.add (s3.toNat * 2)).add 1) = some (.slice x5.ptr x5.len x5.cap) ∧
  Br (decide (((x5.len : Nat) : Int) > (30 : Int)))
  (CallM Tryz.prog 13 #[] (.one (.sc .bool)) h3 fun r6 h4 =>
  R (.bool r6) h4)
  (K1 (IntKind.wrap .i64 (s3 + (1 : Int))) h3))
  (CallM Tryz.prog 9 #[(.int .i64 a_1), (.int .i64 b_2), (.int .i64 c_3)] (.one (.agg [(.int .i64), (.int .i64), (.int .i64)])) h3 fun r7 h5 =>
  RunsA Tryz.prog (Instr.alloc 25 true (.tuple #[])) h5 fun a8 h6 =>
  Runs Tryz.prog (Instr.storeAt 25 (.pointer (some a8)) (.agg #[(.int .i64 r7.1), (.int .i64 r7.2.1), (.int .i64 r7.2.2)])) h6 fun _ h7 =>
  ∃ x9 : Int × Int × Int, cellsAt h7 a8 0 [(.int .i64 x9.1), (.int .i64 x9.2.1), (.int .i64 x9.2.2)] ∧
  CallM Tryz.prog 10 #[(.agg #[(.int .i64 x9.1), (.int .i64 x9.2.1), (.int .i64 x9.2.2)]), (.int .u64 seed_4)] (.one (.sc (.int .u32))) h7 fun r10 h8 =>
  RunsR Tryz.prog (Instr.buildSlice 42 1 #[(0, (.slice l_7.ptr l_7.len l_7.cap))]) (.one (.sc .slc)) h8 fun v11 h9 =>
  JoinM (σ := Option Addr × Int) (fun s17 h12 =>
  JoinM (σ := Sl) (fun s40 h27 =>
  LoopM (σ := Int) (fun s41 K8 h28 =>
  Br (decide (s41 < ((s40.len : Nat) : Int)))
  (∃ a42 : Addr, (s40.ptr = some a42 ∧ 0 ≤ s41 ∧ s41 < ((s40.len : Nat) : Int)) ∧
  ∃ x43 : Sl, cellOf h28 (a42.add (s41.toNat * 1)) = some (.slice x43.ptr x43.len x43.cap) ∧
  ∃ x44 : Int × Int × Int, cellsAt h28 a8 0 [(.int .i64 x44.1), (.int .i64 x44.2.1), (.int .i64 x44.2.2)] ∧
  RunsR Tryz.prog (Instr.buildSlice 47 1 #[(0, (.agg #[(.int .i64 x44.1), (.int .i64 x44.2.1), (.int .i64 x44.2.2)]))]) (.one (.sc .slc)) h28 fun v45 h29 =>
  JoinM (σ := Sl) (fun s49 h32 =>
  LoopM (σ := Int) (fun s50 K10 h33 =>
  Br (decide (s50 < ((s49.len : Nat) : Int)))
  (∃ a51 : Addr, (s49.ptr = some a51 ∧ 0 ≤ s50 ∧ s50 < ((s49.len : Nat) : Int)) ∧
  ∃ x52 : Int × Int × Int, cellsAt h33 (a51.add (s50.toNat * 3)) 0 [(.int .i64 x52.1), (.int .i64 x52.2.1), (.int .i64 x52.2.2)] ∧
  RunsA Tryz.prog (Instr.alloc 25 true (.tuple #[])) h33 fun a53 h34 =>
  Runs Tryz.prog (Instr.storeAt 25 (.pointer (some a53)) (.agg #[(.int .i64 x52.1), (.int .i64 x52.2.1), (.int .i64 x52.2.2)])) h34 fun _ h35 =>
  LoopM (σ := Sl × Int) (fun s54 K11 h36 =>
  Br (decide (s54.2 < ((x43.len : Nat) : Int)))
  (∃ a55 : Addr, (x43.ptr = some a55 ∧ 0 ≤ s54.2 ∧ s54.2 < ((x43.len : Nat) : Int)) ∧
  ∃ x56 : Int × Sl, cellsAt h36 (a55.add (s54.2.toNat * 2)) 0 [(.int .i64 x56.1), (.slice x56.2.ptr x56.2.len x56.2.cap)] ∧
  RunsA Tryz.prog (Instr.alloc 35 true (.tuple #[])) h36 fun a57 h37 =>
  Runs Tryz.prog (Instr.storeAt 35 (.pointer (some a57)) (.agg #[(.int .i64 x56.1), (.slice x56.2.ptr x56.2.len x56.2.cap)])) h37 fun _ h38 =>
  ∃ x58 : Int, cellOf h38 a57 = some (.int .i64 x58) ∧
  ∃ x59 : Sl, cellOf h38 (a57.add 1) = some (.slice x59.ptr x59.len x59.cap) ∧
  CallM Tryz.prog 19 #[(.slice x59.ptr x59.len x59.cap), (.int .u8 (71 : Int))] (.one (.sc .slc)) h38 fun r60 h39 =>
  (Held.ok [(a57, (.int .i64 x58))] h39) ∧
  RunsR Tryz.prog (Instr.buildSlice 32 1 #[(0, (.agg #[(.int .i64 x58), (.slice r60.ptr r60.len r60.cap)]))]) (.one (.sc .slc)) h39 fun v61 h40 =>
  (Held.ok [(a57, (.int .i64 x58))] h40) ∧
  RunsR Tryz.prog (Builtin.append_ #[32, 32] 32 #[(.slice s54.1.ptr s54.1.len s54.1.cap), (.slice v61.ptr v61.len v61.cap)]) (.one (.sc .slc)) h40 fun v62 h41 =>
  (Held.ok [(a57, (.int .i64 x58))] h41) ∧
  K11 ((⟨v62.ptr, v62.len, v62.cap⟩ : Sl), IntKind.wrap .i64 (s54.2 + (1 : Int))) h41)
  (∃ x63 : Int × Int × Int, cellsAt h36 a53 0 [(.int .i64 x63.1), (.int .i64 x63.2.1), (.int .i64 x63.2.2)] ∧
  CallM Tryz.prog 15 #[(.agg #[(.int .i64 x63.1), (.int .i64 x63.2.1), (.int .i64 x63.2.2)]), (.int .u32 r10), (.slice s54.1.ptr s54.1.len s54.1.cap)] (.many [(.sc .slc), (.sc (.int .i64))]) h36 fun r64 h42 =>
  ∃ x65 : Int × Int × Int, cellsAt h42 a53 0 [(.int .i64 x65.1), (.int .i64 x65.2.1), (.int .i64 x65.2.2)] ∧
  CallM Tryz.prog 20 #[(.agg #[(.int .i64 x65.1), (.int .i64 x65.2.1), (.int .i64 x65.2.2)]), (.int .u32 r10), (.slice x43.ptr x43.len x43.cap)] (.many [(.sc .slc), (.sc (.int .i64))]) h42 fun r66 h43 =>
  JoinM (σ := Unit) (fun _ h45 =>
  LoopM (σ := Int) (fun s69 K13 h46 =>
  Br (decide (s69 < ((s54.1.len : Nat) : Int)))
  (∃ a70 : Addr, (s54.1.ptr = some a70 ∧ 0 ≤ s69 ∧ s69 < ((s54.1.len : Nat) : Int)) ∧
  ∃ x71 : Int, cellOf h46 (a70.add (s69.toNat * 2)) = some (.int .i64 x71) ∧
  ∃ a72 : Addr, (x43.ptr = some a72 ∧ 0 ≤ s69 ∧ s69 < ((x43.len : Nat) : Int)) ∧
  ∃ x73 : Int, cellOf h46 (a72.add (s69.toNat * 2)) = some (.int .i64 x73) ∧
  Br (x71 != x73) ((Held.ok [(a72.add (s69.toNat * 2), (.int .i64 x73)), (a70.add (s69.toNat * 2), (.int .i64 x71))] h46) ∧
  R (.bool false) h46) (∃ a74 : Addr, (s54.1.ptr = some a74 ∧ 0 ≤ s69 ∧ s69 < ((s54.1.len : Nat) : Int)) ∧
  ∃ x75 : Sl, cellOf h46 ((a74.add (s69.toNat * 2)).add 1) = some (.slice x75.ptr x75.len x75.cap) ∧
  ∃ a76 : Addr, (x43.ptr = some a76 ∧ 0 ≤ s69 ∧ s69 < ((x43.len : Nat) : Int)) ∧
  ∃ x77 : Sl, cellOf h46 ((a76.add (s69.toNat * 2)).add 1) = some (.slice x77.ptr x77.len x77.cap) ∧
  CallM Tryz.prog 21 #[(.slice x75.ptr x75.len x75.cap), (.slice x77.ptr x77.len x77.cap), (.int .u8 (71 : Int))] (.one (.sc .bool)) h46 fun r78 h47 =>
  (Held.ok [(a72.add (s69.toNat * 2), (.int .i64 x73)), (a70.add (s69.toNat * 2), (.int .i64 x71))] h47) ∧
  Br (!r78)
  (R (.bool false) h47)
  (K13 (IntKind.wrap .i64 (s69 + (1 : Int))) h47)))
  (K10 (IntKind.wrap .i64 (s50 + (1 : Int))) h46)) (0 : Int) h45)
  (fun K12 =>
  Br (r64.2 != r66.2) (R (.bool false) h43) (CallM Tryz.prog 16 #[(.slice r64.1.ptr r64.1.len r64.1.cap), (.slice r66.1.ptr r66.1.len r66.1.cap)] (.one (.sc .bool)) h43 fun r67 h44 =>
  Br (!r67)
  (R (.bool false) h44)
  (K12 () h44))))) ((⟨none, 0, 0⟩ : Sl), (0 : Int)) h35)
  (K8 (IntKind.wrap .i64 (s41 + (1 : Int))) h33)) (0 : Int) h32)
  (fun K9 =>
  Br (s41 == (0 : Int))
  (∃ x46 : Int × Int × Int, cellsAt h29 a1 0 [(.int .i64 x46.1), (.int .i64 x46.2.1), (.int .i64 x46.2.2)] ∧
  RunsR Tryz.prog (Instr.buildSlice 47 1 #[(0, (.agg #[(.int .i64 x46.1), (.int .i64 x46.2.1), (.int .i64 x46.2.2)]))]) (.one (.sc .slc)) h29 fun v47 h30 =>
  RunsR Tryz.prog (Builtin.append_ #[47, 47] 47 #[(.slice v45.ptr v45.len v45.cap), (.slice v47.ptr v47.len v47.cap)]) (.one (.sc .slc)) h30 fun v48 h31 =>
  K9 (⟨v48.ptr, v48.len, v48.cap⟩ : Sl) h31)
  (K9 (⟨v45.ptr, v45.len, v45.cap⟩ : Sl) h29)))
  (CallM Tryz.prog 13 #[] (.one (.sc .bool)) h28 fun r79 h48 =>
  R (.bool r79) h48)) (0 : Int) h27)
  (fun K3 =>
  JoinM (σ := Bool) (fun s18 h13 =>
  Br s18
  (CallM Tryz.prog 18 #[(.pointer s17.1), (.slice ids_6.ptr ids_6.len ids_6.cap), (.int .i64 (34 : Int))] (.one (.sc .slc)) h13 fun r19 h14 =>
  RunsR Tryz.prog (Builtin.append_ #[32, 32] 32 #[(.slice none 0 0), (.slice r19.ptr r19.len r19.cap)]) (.one (.sc .slc)) h14 fun v20 h15 =>
  JoinM (σ := Unit) (fun _ h22 =>
  RunsR Tryz.prog (Builtin.append_ #[32, 32] 32 #[(.slice none 0 0), (.slice r19.ptr r19.len r19.cap)]) (.one (.sc .slc)) h22 fun v36 h23 =>
  RunsR Tryz.prog (Builtin.append_ #[32, 32] 32 #[(.slice v36.ptr v36.len v36.cap), (.slice l_7.ptr l_7.len l_7.cap)]) (.one (.sc .slc)) h23 fun v37 h24 =>
  RunsR Tryz.prog (Instr.buildSlice 42 3 #[(0, (.slice r19.ptr r19.len r19.cap)), (1, (.slice v20.ptr v20.len v20.cap)), (2, (.slice v37.ptr v37.len v37.cap))]) (.one (.sc .slc)) h24 fun v38 h25 =>
  RunsR Tryz.prog (Builtin.append_ #[42, 42] 42 #[(.slice v11.ptr v11.len v11.cap), (.slice v38.ptr v38.len v38.cap)]) (.one (.sc .slc)) h25 fun v39 h26 =>
  K3 (⟨v39.ptr, v39.len, v39.cap⟩ : Sl) h26)
  (fun K5 =>
  JoinM (σ := Bool) (fun s21 h16 =>
  Br s21
  (CallM Tryz.prog 14 #[(.int .i64 turn_8), (.int .i64 ((v20.len : Nat) : Int))] (.one (.sc (.int .i64))) h16 fun r22 h17 =>
  ∃ a23 : Addr, (v20.ptr = some a23 ∧ 0 ≤ r22 ∧ r22 < ((v20.len : Nat) : Int)) ∧
  ∃ x24 : Sl, cellOf h17 ((a23.add (r22.toNat * 2)).add 1) = some (.slice x24.ptr x24.len x24.cap) ∧
  RunsR Tryz.prog (Builtin.append_ #[23, 23] 23 #[(.slice none 0 0), (.slice x24.ptr x24.len x24.cap)]) (.one (.sc .slc)) h17 fun v25 h18 =>
  ∃ a26 : Addr, (v20.ptr = some a26 ∧ 0 ≤ r22 ∧ r22 < ((v20.len : Nat) : Int)) ∧
  Runs Tryz.prog (Instr.storeAt 23 (.pointer (some ((a26.add (r22.toNat * 2)).add 1))) (.slice v25.ptr v25.len v25.cap)) h18 fun _ h19 =>
  ∃ a27 : Addr, (v20.ptr = some a27 ∧ 0 ≤ r22 ∧ r22 < ((v20.len : Nat) : Int)) ∧
  ∃ x28 : Sl, cellOf h19 ((a27.add (r22.toNat * 2)).add 1) = some (.slice x28.ptr x28.len x28.cap) ∧
  LoopM (σ := Int) (fun s29 K7 h20 =>
  Br (decide (s29 < ((x28.len : Nat) : Int)))
  (∃ a30 : Addr, (v20.ptr = some a30 ∧ 0 ≤ r22 ∧ r22 < ((v20.len : Nat) : Int)) ∧
  ∃ x31 : Sl, cellOf h20 ((a30.add (r22.toNat * 2)).add 1) = some (.slice x31.ptr x31.len x31.cap) ∧
  ∃ a32 : Addr, (x31.ptr = some a32 ∧ 0 ≤ s29 ∧ s29 < ((x31.len : Nat) : Int)) ∧
  ∃ x33 : Int, cellOf h20 (a32.add (s29.toNat * 1)) = some (.int .u8 x33) ∧
  ∃ a34 : Addr, (x31.ptr = some a34 ∧ 0 ≤ s29 ∧ s29 < ((x31.len : Nat) : Int)) ∧
  Runs Tryz.prog (Instr.storeAt 5 (.pointer (some (a34.add (s29.toNat * 1)))) (.int .u8 (IntKind.wrap .u8 (x33 + (1 : Int))))) h20 fun _ h21 =>
  K7 (IntKind.wrap .i64 (s29 + (1 : Int))) h21)
  (K5 () h20)) (0 : Int) h19)
  (K5 () h16))
  (fun K6 =>
  Br (decide (((v20.len : Nat) : Int) > (0 : Int))) (((3 : Int) ≠ 0) ∧
  K6 ((Int.tmod turn_8 (3 : Int)) != (0 : Int)) h15) (K6 false h15))))
  (K3 (⟨v11.ptr, v11.len, v11.cap⟩ : Sl) h13))
  (fun K4 =>
  Br (s17.2 == (0 : Int)) (K4 (!(Option.isNone s17.1)) h12) (K4 false h12))))
  (fun K2 =>
  ∃ x12 : Int × Int × Int, cellsAt h9 a8 0 [(.int .i64 x12.1), (.int .i64 x12.2.1), (.int .i64 x12.2.2)] ∧
  ∃ x13 : Int, cellOf h9 a8 = some (.int .i64 x13) ∧
  ∃ x14 : Int, cellOf h9 (a8.add 2) = some (.int .i64 x14) ∧
  CallM Tryz.prog 11 #[(.slice data_5.ptr data_5.len data_5.cap), (.int .i64 (IntKind.wrap .i64 (x13 * x14)))] (.one (.sc .slc)) h9 fun r15 h10 =>
  (Held.ok [(a8.add 2, (.int .i64 x14)), (a8, (.int .i64 x13)), (a8, (.int .i64 x12.1)), (a8.add 1, (.int .i64 x12.2.1)), (a8.add 2, (.int .i64 x12.2.2))] h10) ∧
  CallM Tryz.prog 17 #[(.agg #[(.int .i64 x12.1), (.int .i64 x12.2.1), (.int .i64 x12.2.2)]), (.int .u32 r10), (.slice r15.ptr r15.len r15.cap)] (.many [(.sc .ptr), (.sc (.int .i64))]) h10 fun r16 h11 =>
  (Held.ok [(a8.add 2, (.int .i64 x14)), (a8, (.int .i64 x13))] h11) ∧
  K2 (r16.1, r16.2) h11))) (0 : Int) h1)
theorem wellspringlaw14_DecodeTells_run (p_0 : Int × Int × Int) (a_1 : Int) (b_2 : Int) (c_3 : Int) (seed_4 : Int) (data_5 : Sl) (ids_6 : Sl) (l_7 : Sl) (turn_8 : Int) {R : Value → Heap → Prop} {h : Heap} (hm : wellspringlaw14_DecodeTells_m p_0 a_1 b_2 c_3 seed_4 data_5 ids_6 l_7 turn_8 R h) : Meets Tryz.prog 4 #[(.agg #[(.int .i64 p_0.1), (.int .i64 p_0.2.1), (.int .i64 p_0.2.2)]), (.int .i64 a_1), (.int .i64 b_2), (.int .i64 c_3), (.int .u64 seed_4), (.slice data_5.ptr data_5.len data_5.cap), (.slice ids_6.ptr ids_6.len ids_6.cap), (.slice l_7.ptr l_7.len l_7.cap), (.int .i64 turn_8)] h R := fn_tie C_ok Tryz.func4 (.two .n (.two .n (.two (.two .n (.inn (.loop [(48, (.sc (.int .i64)))] [(18, 20), (48, 60)] .n))) (.two .n (.two .n (.two .n (.two (.join [(23, (.sc .ptr)), (24, (.sc (.int .i64)))] [(23, 25), (69, 82)] .n) (.two (.join [(22, (.sc .slc))] [(22, 23), (25, 29), (82, 144)] (.two (.join [(87, (.sc .bool))] [(82, 88)] .n) (.two (.two .n (.two .n (.two (.join [] [(27, 29), (93, 135)] (.two (.join [(100, (.sc .bool))] [(93, 101)] .n) (.two (.two .n (.two .n (.two .n (.inn (.loop [(121, (.sc (.int .i64)))] [(28, 29), (121, 135)] .n))))) .n))) .n))) .n))) (.two (.two .n (.inn (.loop [(146, (.sc (.int .i64)))] [(18, 19), (29, 32), (33, 35), (36, 42), (146, 237)] (.two .n (.two .n (.two (.inn (.two .n (.two .n (.two (.join [(31, (.sc .slc))] [(31, 32), (153, 159)] .n) (.two .n (.inn (.loop [(161, (.sc (.int .i64)))] [(18, 19), (33, 35), (36, 42), (161, 236)] (.two .n (.two .n (.two (.inn (.two .n (.two .n (.two (.two .n (.inn (.loop [(34, (.sc .slc)), (167, (.sc (.int .i64)))] [(34, 35), (36, 37), (167, 181)] .n))) (.two .n (.two .n (.two (.join [] [(18, 19), (195, 204)] .n) (.two .n (.inn (.loop [(206, (.sc (.int .i64)))] [(18, 19), (41, 42), (206, 235)] .n)))))))))) .n)))))))))) .n)))))) .n))))))))) hm
abbrev wellspringlaw14_DecoderPlays_id : FuncId := 8
noncomputable def wellspringlaw14_DecoderPlays_m (p_0 : Int × Int × Int) (a_1 : Int) (b_2 : Int) (c_3 : Int) (seed_4 : Int) (data_5 : Sl) (ids_6 : Sl) (x_7 : Int × Sl) (turn_8 : Int) (R : Value → Heap → Prop) (h : Heap) : Prop :=
  RunsA Tryz.prog (Instr.box 25 (.agg #[(.int .i64 p_0.1), (.int .i64 p_0.2.1), (.int .i64 p_0.2.2)])) h fun a1 h1 =>
  RunsA Tryz.prog (Instr.box 35 (.agg #[(.int .i64 x_7.1), (.slice x_7.2.ptr x_7.2.len x_7.2.cap)])) h1 fun a2 h2 =>
  ∃ x3 : Sl, cellOf h2 (a2.add 1) = some (.slice x3.ptr x3.len x3.cap) ∧
  Br (decide (((x3.len : Nat) : Int) > (60 : Int)))
  (CallM Tryz.prog 13 #[] (.one (.sc .bool)) h2 fun r4 h3 =>
  R (.bool r4) h3)
  (∃ x5 : Int × Int × Int, cellsAt h2 a1 0 [(.int .i64 x5.1), (.int .i64 x5.2.1), (.int .i64 x5.2.2)] ∧
  CallM Tryz.prog 24 #[(.agg #[(.int .i64 x5.1), (.int .i64 x5.2.1), (.int .i64 x5.2.2)]), (.int .u32 (IntKind.wrap .u32 seed_4))] (.one (.sc .ptr)) h2 fun r6 h4 =>
  ∃ x7 : Int × Int × Int, cellsAt h4 a1 0 [(.int .i64 x7.1), (.int .i64 x7.2.1), (.int .i64 x7.2.2)] ∧
  CallM Tryz.prog 25 #[(.agg #[(.int .i64 x7.1), (.int .i64 x7.2.1), (.int .i64 x7.2.2)])] (.one (.sc .bool)) h4 fun r8 h5 =>
  Br (!((!(Option.isNone r6)) == r8))
  (R (.bool false) h5)
  (CallM Tryz.prog 9 #[(.int .i64 a_1), (.int .i64 b_2), (.int .i64 c_3)] (.one (.agg [(.int .i64), (.int .i64), (.int .i64)])) h5 fun r9 h6 =>
  RunsA Tryz.prog (Instr.alloc 25 true (.tuple #[])) h6 fun a10 h7 =>
  Runs Tryz.prog (Instr.storeAt 25 (.pointer (some a10)) (.agg #[(.int .i64 r9.1), (.int .i64 r9.2.1), (.int .i64 r9.2.2)])) h7 fun _ h8 =>
  ∃ x11 : Int × Int × Int, cellsAt h8 a10 0 [(.int .i64 x11.1), (.int .i64 x11.2.1), (.int .i64 x11.2.2)] ∧
  CallM Tryz.prog 10 #[(.agg #[(.int .i64 x11.1), (.int .i64 x11.2.1), (.int .i64 x11.2.2)]), (.int .u64 seed_4)] (.one (.sc (.int .u32))) h8 fun r12 h9 =>
  JoinM (σ := Option Addr × Int) (fun s18 h12 =>
  JoinM (σ := Unit) (fun _ h15 =>
  ∃ x22 : Int × Int × Int, cellsAt h15 a10 0 [(.int .i64 x22.1), (.int .i64 x22.2.1), (.int .i64 x22.2.2)] ∧
  CallM Tryz.prog 24 #[(.agg #[(.int .i64 x22.1), (.int .i64 x22.2.1), (.int .i64 x22.2.2)]), (.int .u32 r12)] (.one (.sc .ptr)) h15 fun r23 h16 =>
  Br (Option.isNone r23)
  (R (.bool false) h16)
  (CallM Tryz.prog 18 #[(.pointer s18.1), (.slice ids_6.ptr ids_6.len ids_6.cap), (.int .i64 (30 : Int))] (.one (.sc .slc)) h16 fun r24 h17 =>
  CallM Tryz.prog 14 #[(.int .i64 turn_8), (.int .i64 (IntKind.wrap .i64 (((r24.len : Nat) : Int) + (1 : Int))))] (.one (.sc (.int .i64))) h17 fun r25 h18 =>
  JoinM (σ := Sl) (fun s35 h27 =>
  LoopM (σ := Sl × Sl × Int) (fun s36 K4 h28 =>
  Br (decide (s36.2.2 < ((s35.len : Nat) : Int)))
  (∃ a37 : Addr, (s35.ptr = some a37 ∧ 0 ≤ s36.2.2 ∧ s36.2.2 < ((s35.len : Nat) : Int)) ∧
  ∃ x38 : Int × Sl, cellsAt h28 (a37.add (s36.2.2.toNat * 2)) 0 [(.int .i64 x38.1), (.slice x38.2.ptr x38.2.len x38.2.cap)] ∧
  RunsA Tryz.prog (Instr.alloc 35 true (.tuple #[])) h28 fun a39 h29 =>
  Runs Tryz.prog (Instr.storeAt 35 (.pointer (some a39)) (.agg #[(.int .i64 x38.1), (.slice x38.2.ptr x38.2.len x38.2.cap)])) h29 fun _ h30 =>
  JoinM (σ := Bool) (fun s44 h31 =>
  ∃ x45 : Int, cellOf h31 a39 = some (.int .i64 x45) ∧
  ∃ x46 : Sl, cellOf h31 (a39.add 1) = some (.slice x46.ptr x46.len x46.cap) ∧
  CallM Tryz.prog 26 #[(.pointer r23), (.int .i64 x45), (.slice x46.ptr x46.len x46.cap)] (.one (.sc .bool)) h31 fun r47 h32 =>
  Br (!(r47 == s44))
  (R (.bool false) h32)
  (JoinM (σ := Sl × Sl) (fun s61 h44 =>
  JoinM (σ := Unit) (fun _ h48 =>
  JoinM (σ := Bool) (fun s68 h49 =>
  Br s68
  (CallM Tryz.prog 30 #[(.pointer r23)] (.many [(.sc .slc), (.sc (.int .i64))]) h49 fun r69 h50 =>
  ∃ x70 : Int × Int × Int, cellsAt h50 a10 0 [(.int .i64 x70.1), (.int .i64 x70.2.1), (.int .i64 x70.2.2)] ∧
  CallM Tryz.prog 20 #[(.agg #[(.int .i64 x70.1), (.int .i64 x70.2.1), (.int .i64 x70.2.2)]), (.int .u32 r12), (.slice s61.1.ptr s61.1.len s61.1.cap)] (.many [(.sc .slc), (.sc (.int .i64))]) h50 fun r71 h51 =>
  Br (r69.2 != r71.2) (R (.bool false) h51) (CallM Tryz.prog 16 #[(.slice r69.1.ptr r69.1.len r69.1.cap), (.slice r71.1.ptr r71.1.len r71.1.cap)] (.one (.sc .bool)) h51 fun r72 h52 =>
  Br (!r72)
  (R (.bool false) h52)
  (K4 ((⟨s61.1.ptr, s61.1.len, s61.1.cap⟩ : Sl), (⟨s61.2.ptr, s61.2.len, s61.2.cap⟩ : Sl), IntKind.wrap .i64 (s36.2.2 + (1 : Int))) h52)))
  (K4 ((⟨s61.1.ptr, s61.1.len, s61.1.cap⟩ : Sl), (⟨s61.2.ptr, s61.2.len, s61.2.cap⟩ : Sl), IntKind.wrap .i64 (s36.2.2 + (1 : Int))) h49))
  (fun K8 =>
  ((5 : Int) ≠ 0) ∧
  Br ((Int.tmod s36.2.2 (5 : Int)) == (0 : Int)) (K8 true h48) (K8 ((IntKind.wrap .i64 (s36.2.2 + (1 : Int))) == ((s35.len : Nat) : Int)) h48)))
  (fun K7 =>
  ∃ x62 : Int × Int × Int, cellsAt h44 a10 0 [(.int .i64 x62.1), (.int .i64 x62.2.1), (.int .i64 x62.2.2)] ∧
  ∃ x63 : Int × Int × Int, cellsAt h44 a10 0 [(.int .i64 x63.1), (.int .i64 x63.2.1), (.int .i64 x63.2.2)] ∧
  CallM Tryz.prog 27 #[(.pointer r23)] (.one (.sc (.int .i64))) h44 fun r64 h45 =>
  (Held.ok [(a10, (.int .i64 x63.1)), (a10.add 1, (.int .i64 x63.2.1)), (a10.add 2, (.int .i64 x63.2.2)), (a10, (.int .i64 x62.1)), (a10.add 1, (.int .i64 x62.2.1)), (a10.add 2, (.int .i64 x62.2.2))] h45) ∧
  CallM Tryz.prog 28 #[(.agg #[(.int .i64 x62.1), (.int .i64 x62.2.1), (.int .i64 x62.2.2)])] (.one (.sc (.int .i64))) h45 fun r65 h46 =>
  (Held.ok [(a10, (.int .i64 x63.1)), (a10.add 1, (.int .i64 x63.2.1)), (a10.add 2, (.int .i64 x63.2.2))] h46) ∧
  CallM Tryz.prog 29 #[(.agg #[(.int .i64 x63.1), (.int .i64 x63.2.1), (.int .i64 x63.2.2)]), (.int .u32 r12), (.slice s61.2.ptr s61.2.len s61.2.cap)] (.one (.sc (.int .i64))) h46 fun r66 h47 =>
  (Held.ok [] h47) ∧
  Br (r64 != (IntKind.wrap .i64 (r65 - r66)))
  (R (.bool false) h47)
  (K7 () h47)))
  (fun K6 =>
  Br s44
  (∃ x48 : Int × Sl, cellsAt h32 a39 0 [(.int .i64 x48.1), (.slice x48.2.ptr x48.2.len x48.2.cap)] ∧
  ∃ x49 : Int, cellOf h32 a39 = some (.int .i64 x49) ∧
  (RunsR Tryz.prog (Instr.buildSlice 32 1 #[(0, (.agg #[(.int .i64 x48.1), (.slice x48.2.ptr x48.2.len x48.2.cap)]))]) (.one (.sc .slc)) h32 fun v50 h33 =>
  (Held.ok [(a39, (.int .i64 x49))] h33) ∧
  (RunsR Tryz.prog (Builtin.append_ #[32, 32] 32 #[(.slice s36.1.ptr s36.1.len s36.1.cap), (.slice v50.ptr v50.len v50.cap)]) (.one (.sc .slc)) h33 fun v51 h34 =>
  (Held.ok [(a39, (.int .i64 x49))] h34) ∧
  RunsR Tryz.prog (Instr.buildSlice 41 1 #[(0, (.int .i64 x49))]) (.one (.sc .slc)) h34 fun v52 h35 =>
  (Held.ok [] h35) ∧
  RunsR Tryz.prog (Builtin.append_ #[41, 41] 41 #[(.slice s36.2.1.ptr s36.2.1.len s36.2.1.cap), (.slice v52.ptr v52.len v52.cap)]) (.one (.sc .slc)) h35 fun v53 h36 =>
  (Held.ok [] h36) ∧
  K6 ((⟨v51.ptr, v51.len, v51.cap⟩ : Sl), (⟨v53.ptr, v53.len, v53.cap⟩ : Sl)) h36) ∧ (RunsR Tryz.prog (Instr.buildSlice 41 1 #[(0, (.int .i64 x49))]) (.one (.sc .slc)) h33 fun v54 h37 =>
  (Held.ok [] h37) ∧
  RunsR Tryz.prog (Builtin.append_ #[32, 32] 32 #[(.slice s36.1.ptr s36.1.len s36.1.cap), (.slice v50.ptr v50.len v50.cap)]) (.one (.sc .slc)) h37 fun v55 h38 =>
  (Held.ok [] h38) ∧
  RunsR Tryz.prog (Builtin.append_ #[41, 41] 41 #[(.slice s36.2.1.ptr s36.2.1.len s36.2.1.cap), (.slice v54.ptr v54.len v54.cap)]) (.one (.sc .slc)) h38 fun v56 h39 =>
  (Held.ok [] h39) ∧
  K6 ((⟨v55.ptr, v55.len, v55.cap⟩ : Sl), (⟨v56.ptr, v56.len, v56.cap⟩ : Sl)) h39)) ∧ (RunsR Tryz.prog (Instr.buildSlice 41 1 #[(0, (.int .i64 x49))]) (.one (.sc .slc)) h32 fun v57 h40 =>
  (Held.ok [(a39, (.int .i64 x48.1)), (a39.add 1, (.slice x48.2.ptr x48.2.len x48.2.cap))] h40) ∧
  RunsR Tryz.prog (Instr.buildSlice 32 1 #[(0, (.agg #[(.int .i64 x48.1), (.slice x48.2.ptr x48.2.len x48.2.cap)]))]) (.one (.sc .slc)) h40 fun v58 h41 =>
  (Held.ok [] h41) ∧
  RunsR Tryz.prog (Builtin.append_ #[32, 32] 32 #[(.slice s36.1.ptr s36.1.len s36.1.cap), (.slice v58.ptr v58.len v58.cap)]) (.one (.sc .slc)) h41 fun v59 h42 =>
  (Held.ok [] h42) ∧
  RunsR Tryz.prog (Builtin.append_ #[41, 41] 41 #[(.slice s36.2.1.ptr s36.2.1.len s36.2.1.cap), (.slice v57.ptr v57.len v57.cap)]) (.one (.sc .slc)) h42 fun v60 h43 =>
  (Held.ok [] h43) ∧
  K6 ((⟨v59.ptr, v59.len, v59.cap⟩ : Sl), (⟨v60.ptr, v60.len, v60.cap⟩ : Sl)) h43))
  (K6 ((⟨s36.1.ptr, s36.1.len, s36.1.cap⟩ : Sl), (⟨s36.2.1.ptr, s36.2.1.len, s36.2.1.cap⟩ : Sl)) h32))))
  (fun K5 =>
  ∃ x40 : Int, cellOf h30 a39 = some (.int .i64 x40) ∧
  Br (decide (x40 ≥ (0 : Int))) (∃ x41 : Int, cellOf h30 a39 = some (.int .i64 x41) ∧
  Br (decide (x41 ≤ (65535 : Int))) (∃ x42 : Sl, cellOf h30 (a39.add 1) = some (.slice x42.ptr x42.len x42.cap) ∧
  ∃ x43 : Int, cellOf h30 (a10.add 2) = some (.int .i64 x43) ∧
  K5 (((x42.len : Nat) : Int) == x43) h30) (K5 false h30)) (K5 false h30)))
  (CallM Tryz.prog 30 #[(.pointer none)] (.many [(.sc .slc), (.sc (.int .i64))]) h28 fun r73 h53 =>
  Br (r73.2 == (1 : Int)) (Br (((r73.1.len : Nat) : Int) == (0 : Int)) (CallM Tryz.prog 27 #[(.pointer none)] (.one (.sc (.int .i64))) h53 fun r74 h54 =>
  Br (r74 == (0 : Int)) (CallM Tryz.prog 26 #[(.pointer none), (.int .i64 (1 : Int)), (.slice none 0 0)] (.one (.sc .bool)) h54 fun r75 h55 =>
  Br (!r75) (CallM Tryz.prog 13 #[] (.one (.sc .bool)) h55 fun r76 h56 =>
  R (.bool r76) h56) (R (.bool false) h55)) (R (.bool false) h54)) (R (.bool false) h53)) (R (.bool false) h53))) ((⟨none, 0, 0⟩ : Sl), (⟨none, 0, 0⟩ : Sl), (0 : Int)) h27)
  (fun K3 =>
  (0 ≤ r25 ∧ r25 ≤ ((r24.cap : Nat) : Int)) ∧
  ∃ x26 : Int × Sl, cellsAt h18 a2 0 [(.int .i64 x26.1), (.slice x26.2.ptr x26.2.len x26.2.cap)] ∧
  (0 ≤ r25 ∧ r25 ≤ ((r24.len : Nat) : Int)) ∧
  (RunsR Tryz.prog (Builtin.append_ #[32, 32] 32 #[(.slice none 0 0), (.slice r24.ptr r25.toNat r24.cap)]) (.one (.sc .slc)) h18 fun v27 h19 =>
  (Held.ok [(a2, (.int .i64 x26.1)), (a2.add 1, (.slice x26.2.ptr x26.2.len x26.2.cap))] h19) ∧
  RunsR Tryz.prog (Instr.buildSlice 32 1 #[(0, (.agg #[(.int .i64 x26.1), (.slice x26.2.ptr x26.2.len x26.2.cap)]))]) (.one (.sc .slc)) h19 fun v28 h20 =>
  (Held.ok [] h20) ∧
  RunsR Tryz.prog (Builtin.append_ #[32, 32] 32 #[(.slice v27.ptr v27.len v27.cap), (.slice v28.ptr v28.len v28.cap)]) (.one (.sc .slc)) h20 fun v29 h21 =>
  (Held.ok [] h21) ∧
  RunsR Tryz.prog (Builtin.append_ #[32, 32] 32 #[(.slice v29.ptr v29.len v29.cap), (.slice (if r24.cap = r25.toNat then r24.ptr else r24.ptr.map (·.add (r25.toNat * 2))) (r24.len - r25.toNat) (r24.cap - r25.toNat))]) (.one (.sc .slc)) h21 fun v30 h22 =>
  (Held.ok [] h22) ∧
  K3 (⟨v30.ptr, v30.len, v30.cap⟩ : Sl) h22) ∧ (RunsR Tryz.prog (Instr.buildSlice 32 1 #[(0, (.agg #[(.int .i64 x26.1), (.slice x26.2.ptr x26.2.len x26.2.cap)]))]) (.one (.sc .slc)) h18 fun v31 h23 =>
  (Held.ok [] h23) ∧
  RunsR Tryz.prog (Builtin.append_ #[32, 32] 32 #[(.slice none 0 0), (.slice r24.ptr r25.toNat r24.cap)]) (.one (.sc .slc)) h23 fun v32 h24 =>
  (Held.ok [] h24) ∧
  RunsR Tryz.prog (Builtin.append_ #[32, 32] 32 #[(.slice v32.ptr v32.len v32.cap), (.slice v31.ptr v31.len v31.cap)]) (.one (.sc .slc)) h24 fun v33 h25 =>
  (Held.ok [] h25) ∧
  RunsR Tryz.prog (Builtin.append_ #[32, 32] 32 #[(.slice v33.ptr v33.len v33.cap), (.slice (if r24.cap = r25.toNat then r24.ptr else r24.ptr.map (·.add (r25.toNat * 2))) (r24.len - r25.toNat) (r24.cap - r25.toNat))]) (.one (.sc .slc)) h25 fun v34 h26 =>
  (Held.ok [] h26) ∧
  K3 (⟨v34.ptr, v34.len, v34.cap⟩ : Sl) h26))))
  (fun K2 =>
  Br (s18.2 != (0 : Int)) (Br (s18.2 == (8 : Int)) (CallM Tryz.prog 13 #[] (.one (.sc .bool)) h12 fun r19 h13 =>
  R (.bool r19) h13) (R (.bool false) h12)) (Br (Option.isNone s18.1)
  (Br (s18.2 == (8 : Int)) (CallM Tryz.prog 13 #[] (.one (.sc .bool)) h12 fun r20 h14 =>
  R (.bool r20) h14) (R (.bool false) h12))
  (K2 () h12))))
  (fun K1 =>
  ∃ x13 : Int × Int × Int, cellsAt h9 a10 0 [(.int .i64 x13.1), (.int .i64 x13.2.1), (.int .i64 x13.2.2)] ∧
  ∃ x14 : Int, cellOf h9 a10 = some (.int .i64 x14) ∧
  ∃ x15 : Int, cellOf h9 (a10.add 2) = some (.int .i64 x15) ∧
  CallM Tryz.prog 11 #[(.slice data_5.ptr data_5.len data_5.cap), (.int .i64 (IntKind.wrap .i64 (x14 * x15)))] (.one (.sc .slc)) h9 fun r16 h10 =>
  (Held.ok [(a10.add 2, (.int .i64 x15)), (a10, (.int .i64 x14)), (a10, (.int .i64 x13.1)), (a10.add 1, (.int .i64 x13.2.1)), (a10.add 2, (.int .i64 x13.2.2))] h10) ∧
  CallM Tryz.prog 17 #[(.agg #[(.int .i64 x13.1), (.int .i64 x13.2.1), (.int .i64 x13.2.2)]), (.int .u32 r12), (.slice r16.ptr r16.len r16.cap)] (.many [(.sc .ptr), (.sc (.int .i64))]) h10 fun r17 h11 =>
  (Held.ok [(a10.add 2, (.int .i64 x15)), (a10, (.int .i64 x14))] h11) ∧
  K1 (r17.1, r17.2) h11)))
theorem wellspringlaw14_DecoderPlays_run (p_0 : Int × Int × Int) (a_1 : Int) (b_2 : Int) (c_3 : Int) (seed_4 : Int) (data_5 : Sl) (ids_6 : Sl) (x_7 : Int × Sl) (turn_8 : Int) {R : Value → Heap → Prop} {h : Heap} (hm : wellspringlaw14_DecoderPlays_m p_0 a_1 b_2 c_3 seed_4 data_5 ids_6 x_7 turn_8 R h) : Meets Tryz.prog 8 #[(.agg #[(.int .i64 p_0.1), (.int .i64 p_0.2.1), (.int .i64 p_0.2.2)]), (.int .i64 a_1), (.int .i64 b_2), (.int .i64 c_3), (.int .u64 seed_4), (.slice data_5.ptr data_5.len data_5.cap), (.slice ids_6.ptr ids_6.len ids_6.cap), (.agg #[(.int .i64 x_7.1), (.slice x_7.2.ptr x_7.2.len x_7.2.cap)]), (.int .i64 turn_8)] h R := fn_tie C_ok Tryz.func8 (.two .n (.two .n (.two .n (.two .n (.two .n (.two (.join [(22, (.sc .ptr)), (23, (.sc (.int .i64)))] [(22, 24), (60, 73)] .n) (.two (.join [] [(18, 19), (73, 84)] .n) (.two .n (.two .n (.two .n (.two .n (.two (.join [(25, (.sc .slc))] [(25, 26), (97, 108)] .n) (.two .n (.two .n (.two (.two .n (.inn (.loop [(27, (.sc .slc)), (28, (.sc .slc)), (110, (.sc (.int .i64)))] [(18, 19), (27, 36), (110, 191)] (.two .n (.two .n (.two (.inn (.two .n (.two (.join [(31, (.sc .bool))] [(31, 32), (115, 131)] .n) (.two .n (.two (.join [(27, (.sc .slc)), (28, (.sc .slc))] [(27, 29), (139, 149)] .n) (.two (.join [] [(18, 19), (149, 159)] .n) (.two (.join [(168, (.sc .bool))] [(159, 169)] .n) .n))))))) .n)))))) .n))))))))))))))) hm
abbrev wellspringplay_Params_id : FuncId := 9
noncomputable def wellspringplay_Params_m (a_0 : Int) (b_1 : Int) (c_2 : Int) (R : Value → Heap → Prop) (h : Heap) : Prop :=
  RunsA Tryz.prog (Instr.alloc 25 true (.tuple #[])) h fun a1 h1 =>
  CallM Tryz.prog 14 #[(.int .i64 a_0), (.int .i64 (16 : Int))] (.one (.sc (.int .i64))) h1 fun r2 h2 =>
  CallM Tryz.prog 14 #[(.int .i64 b_1), (.int .i64 (4 : Int))] (.one (.sc (.int .i64))) h2 fun r3 h3 =>
  CallM Tryz.prog 14 #[(.int .i64 c_2), (.int .i64 (24 : Int))] (.one (.sc (.int .i64))) h3 fun r4 h4 =>
  Runs Tryz.prog (Instr.storeAt 25 (.pointer (some a1)) (.agg #[(.int .i64 (IntKind.wrap .i64 ((1 : Int) + r2))), (.int .i64 (IntKind.wrap .i64 ((1 : Int) + r3))), (.int .i64 (IntKind.wrap .i64 ((1 : Int) + r4)))])) h4 fun _ h5 =>
  ∃ res5 : Int × Int × Int, cellsAt h5 a1 0 [(.int .i64 res5.1), (.int .i64 res5.2.1), (.int .i64 res5.2.2)] ∧
  R (.agg #[(.int .i64 res5.1), (.int .i64 res5.2.1), (.int .i64 res5.2.2)]) h5
theorem wellspringplay_Params_run (a_0 : Int) (b_1 : Int) (c_2 : Int) {R : Value → Heap → Prop} {h : Heap} (hm : wellspringplay_Params_m a_0 b_1 c_2 R h) : Meets Tryz.prog 9 #[(.int .i64 a_0), (.int .i64 b_1), (.int .i64 c_2)] h R := fn_tie C_ok Tryz.func9 .n hm
abbrev wellspringlaw11_Seed_id : FuncId := 10
noncomputable def wellspringlaw11_Seed_m (p_0 : Int × Int × Int) (seed_1 : Int) (R : Value → Heap → Prop) (h : Heap) : Prop :=
  RunsA Tryz.prog (Instr.box 25 (.agg #[(.int .i64 p_0.1), (.int .i64 p_0.2.1), (.int .i64 p_0.2.2)])) h fun a1 h1 =>
  LoopM (σ := Int) (fun s2 K1 h2 =>
  Br (s2 != (IntKind.wrap .u32 ((IntKind.wrap .u32 seed_1) + (24 : Int))))
  (∃ x3 : Int × Int × Int, cellsAt h2 a1 0 [(.int .i64 x3.1), (.int .i64 x3.2.1), (.int .i64 x3.2.2)] ∧
  CallM Tryz.prog 12 #[(.agg #[(.int .i64 x3.1), (.int .i64 x3.2.1), (.int .i64 x3.2.2)]), (.int .u32 s2)] (.one (.sc .bool)) h2 fun r4 h3 =>
  Br r4
  (R (.int .u32 s2) h3)
  (K1 (IntKind.wrap .u32 (s2 + (1 : Int))) h3))
  (R (.int .u32 (IntKind.wrap .u32 seed_1)) h2)) (IntKind.wrap .u32 seed_1) h1
theorem wellspringlaw11_Seed_run (p_0 : Int × Int × Int) (seed_1 : Int) {R : Value → Heap → Prop} {h : Heap} (hm : wellspringlaw11_Seed_m p_0 seed_1 R h) : Meets Tryz.prog 10 #[(.agg #[(.int .i64 p_0.1), (.int .i64 p_0.2.1), (.int .i64 p_0.2.2)]), (.int .u64 seed_1)] h R := fn_tie C_ok Tryz.func10 (.two .n (.two (.two .n (.inn (.loop [(5, (.sc (.int .u32)))] [(4, 6), (8, 19)] .n))) .n)) hm
abbrev wellspringlaw11_Data_id : FuncId := 11
noncomputable def wellspringlaw11_Data_m (l_0 : Sl) (n_1 : Int) (R : Value → Heap → Prop) (h : Heap) : Prop :=
  RunsR Tryz.prog (Instr.makeSlice 23 (.int .i64 n_1) (.int .i64 n_1)) (.one (.sc .slc)) h fun v1 h1 =>
  RunsR Tryz.prog (Builtin.copy_ #[23, 23] 3 #[(.slice v1.ptr v1.len v1.cap), (.slice l_0.ptr l_0.len l_0.cap)]) (.one (.sc (.int .i64))) h1 fun _ h2 =>
  R (.slice v1.ptr v1.len v1.cap) h2
theorem wellspringlaw11_Data_run (l_0 : Sl) (n_1 : Int) {R : Value → Heap → Prop} {h : Heap} (hm : wellspringlaw11_Data_m l_0 n_1 R h) : Meets Tryz.prog 11 #[(.slice l_0.ptr l_0.len l_0.cap), (.int .i64 n_1)] h R := fn_tie C_ok Tryz.func11 .n hm
abbrev system_Right_id : FuncId := 12
noncomputable def system_Right_m (p_0 : Int × Int × Int) (seed_1 : Int) (R : Value → Heap → Prop) (h : Heap) : Prop :=
  RunsA Tryz.prog (Instr.box 25 (.agg #[(.int .i64 p_0.1), (.int .i64 p_0.2.1), (.int .i64 p_0.2.2)])) h fun a1 h1 =>
  ∃ x2 : Int × Int × Int, cellsAt h1 a1 0 [(.int .i64 x2.1), (.int .i64 x2.2.1), (.int .i64 x2.2.2)] ∧
  ∃ x3 : Int × Int × Int, cellsAt h1 a1 0 [(.int .i64 x3.1), (.int .i64 x3.2.1), (.int .i64 x3.2.2)] ∧
  CallM Tryz.prog 31 #[(.agg #[(.int .i64 x3.1), (.int .i64 x3.2.1), (.int .i64 x3.2.2)])] (.one (.sc .slc)) h1 fun r4 h2 =>
  (Held.ok [(a1, (.int .i64 x2.1)), (a1.add 1, (.int .i64 x2.2.1)), (a1.add 2, (.int .i64 x2.2.2))] h2) ∧
  CallM Tryz.prog 22 #[(.agg #[(.int .i64 x2.1), (.int .i64 x2.2.1), (.int .i64 x2.2.2)]), (.int .u32 seed_1), (.slice r4.ptr r4.len r4.cap)] (.one (.sc .bool)) h2 fun r5 h3 =>
  (Held.ok [] h3) ∧
  R (.bool r5) h3
theorem system_Right_run (p_0 : Int × Int × Int) (seed_1 : Int) {R : Value → Heap → Prop} {h : Heap} (hm : system_Right_m p_0 seed_1 R h) : Meets Tryz.prog 12 #[(.agg #[(.int .i64 p_0.1), (.int .i64 p_0.2.1), (.int .i64 p_0.2.2)]), (.int .u32 seed_1)] h R := fn_tie C_ok Tryz.func12 .n hm
abbrev wellspringlaw14_wakes_id : FuncId := 13
noncomputable def wellspringlaw14_wakes_m  (R : Value → Heap → Prop) (h : Heap) : Prop :=
  CallM Tryz.prog 15 #[(.agg #[(.int .i64 (1 : Int)), (.int .i64 (1 : Int)), (.int .i64 (1 : Int))]), (.int .u32 (0 : Int)), (.slice none 0 0)] (.many [(.sc .slc), (.sc (.int .i64))]) h fun r1 h1 =>
  R (.bool (r1.2 == (9 : Int))) h1
theorem wellspringlaw14_wakes_run  {R : Value → Heap → Prop} {h : Heap} (hm : wellspringlaw14_wakes_m  R h) : Meets Tryz.prog 13 #[] h R := fn_tie C_ok Tryz.func13 .n hm
abbrev wellspringkeep_Within_id : FuncId := 14
noncomputable def wellspringkeep_Within_m (x_0 : Int) (n_1 : Int) (R : Value → Heap → Prop) (h : Heap) : Prop :=
  (n_1 ≠ 0) ∧
  JoinM (σ := Int) (fun s1 h1 =>
  R (.int .i64 s1) h1)
  (fun K1 =>
  Br (decide ((Int.tmod x_0 n_1) < (0 : Int)))
  (K1 (IntKind.wrap .i64 ((Int.tmod x_0 n_1) + n_1)) h)
  (K1 (Int.tmod x_0 n_1) h))
theorem wellspringkeep_Within_run (x_0 : Int) (n_1 : Int) {R : Value → Heap → Prop} {h : Heap} (hm : wellspringkeep_Within_m x_0 n_1 R h) : Meets Tryz.prog 14 #[(.int .i64 x_0), (.int .i64 n_1)] h R := fn_tie C_ok Tryz.func14 (.two .n (.two .n (.two (.join [(0, (.sc (.int .i64)))] [(0, 1), (8, 13)] .n) .n))) hm
abbrev decode_Block_id : FuncId := 15
noncomputable def decode_Block_m (p_0 : Int × Int × Int) (seed_1 : Int) (l_2 : Sl) (R : Value → Heap → Prop) (h : Heap) : Prop :=
  RunsA Tryz.prog (Instr.box 25 (.agg #[(.int .i64 p_0.1), (.int .i64 p_0.2.1), (.int .i64 p_0.2.2)])) h fun a1 h1 =>
  JoinM (σ := Unit) (fun _ h4 =>
  JoinM (σ := Unit) (fun _ h7 =>
  ∃ x10 : Int × Int × Int, cellsAt h7 a1 0 [(.int .i64 x10.1), (.int .i64 x10.2.1), (.int .i64 x10.2.2)] ∧
  CallM Tryz.prog 36 #[(.agg #[(.int .i64 x10.1), (.int .i64 x10.2.1), (.int .i64 x10.2.2)]), (.int .u32 seed_1), (.slice l_2.ptr l_2.len l_2.cap)] (.many [(.sc .slc), (.sc (.int .i64))]) h7 fun r11 h8 =>
  Br (r11.2 != (0 : Int))
  (R (.tuple #[(.slice none 0 0), (.int .i64 r11.2)]) h8)
  (∃ x12 : Int, cellOf h8 a1 = some (.int .i64 x12) ∧
  LoopM (σ := Sl × Int) (fun s13 K3 h9 =>
  Br (decide (s13.2 < x12))
  (∃ x14 : Int, cellOf h9 (a1.add 2) = some (.int .i64 x14) ∧
  RunsR Tryz.prog (Instr.makeSlice 23 (.int .i64 x14) (.int .i64 x14)) (.one (.sc .slc)) h9 fun v15 h10 =>
  ∃ x16 : Int × Int × Int, cellsAt h10 a1 0 [(.int .i64 x16.1), (.int .i64 x16.2.1), (.int .i64 x16.2.2)] ∧
  CallM Tryz.prog 37 #[(.agg #[(.int .i64 x16.1), (.int .i64 x16.2.1), (.int .i64 x16.2.2)]), (.int .u32 seed_1), (.int .i64 s13.2)] (.one (.sc .slc)) h10 fun r17 h11 =>
  LoopM (σ := Int) (fun s18 K4 h12 =>
  Br (decide (s18 < ((r17.len : Nat) : Int)))
  (∃ a19 : Addr, (r17.ptr = some a19 ∧ 0 ≤ s18 ∧ s18 < ((r17.len : Nat) : Int)) ∧
  ∃ x20 : Int, cellOf h12 (a19.add (s18.toNat * 1)) = some (.int .i64 x20) ∧
  ∃ a21 : Addr, (r11.1.ptr = some a21 ∧ 0 ≤ x20 ∧ x20 < ((r11.1.len : Nat) : Int)) ∧
  ∃ x22 : Sl, cellOf h12 (a21.add (x20.toNat * 1)) = some (.slice x22.ptr x22.len x22.cap) ∧
  LoopM (σ := Int) (fun s23 K5 h13 =>
  Br (decide (s23 < ((x22.len : Nat) : Int)))
  (∃ a24 : Addr, (x22.ptr = some a24 ∧ 0 ≤ s23 ∧ s23 < ((x22.len : Nat) : Int)) ∧
  ∃ x25 : Int, cellOf h13 (a24.add (s23.toNat * 1)) = some (.int .u8 x25) ∧
  ∃ a26 : Addr, (v15.ptr = some a26 ∧ 0 ≤ s23 ∧ s23 < ((v15.len : Nat) : Int)) ∧
  ∃ x27 : Int, cellOf h13 (a26.add (s23.toNat * 1)) = some (.int .u8 x27) ∧
  ∃ a28 : Addr, (v15.ptr = some a28 ∧ 0 ≤ s23 ∧ s23 < ((v15.len : Nat) : Int)) ∧
  Runs Tryz.prog (Instr.storeAt 5 (.pointer (some (a28.add (s23.toNat * 1)))) (.int .u8 (IntKind.wrap .u8 ((BitVec.ofInt (IntKind.bits .u8) x27 ^^^ (BitVec.ofInt (IntKind.bits .u8) x25)).toNat : Nat)))) h13 fun _ h14 =>
  K5 (IntKind.wrap .i64 (s23 + (1 : Int))) h14)
  (K4 (IntKind.wrap .i64 (s18 + (1 : Int))) h13)) (0 : Int) h12)
  (RunsR Tryz.prog (Builtin.append_ #[23, 23] 23 #[(.slice s13.1.ptr s13.1.len s13.1.cap), (.slice v15.ptr v15.len v15.cap)]) (.one (.sc .slc)) h12 fun v29 h15 =>
  K3 ((⟨v29.ptr, v29.len, v29.cap⟩ : Sl), IntKind.wrap .i64 (s13.2 + (1 : Int))) h15)) (0 : Int) h11)
  (R (.tuple #[(.slice s13.1.ptr s13.1.len s13.1.cap), (.int .i64 (0 : Int))]) h9)) ((⟨none, 0, 0⟩ : Sl), (0 : Int)) h8))
  (fun K2 =>
  ∃ x6 : Int × Int × Int, cellsAt h4 a1 0 [(.int .i64 x6.1), (.int .i64 x6.2.1), (.int .i64 x6.2.2)] ∧
  CallM Tryz.prog 35 #[(.slice l_2.ptr l_2.len l_2.cap)] (.one (.sc .slc)) h4 fun r7 h5 =>
  (Held.ok [(a1, (.int .i64 x6.1)), (a1.add 1, (.int .i64 x6.2.1)), (a1.add 2, (.int .i64 x6.2.2))] h5) ∧
  CallM Tryz.prog 22 #[(.agg #[(.int .i64 x6.1), (.int .i64 x6.2.1), (.int .i64 x6.2.2)]), (.int .u32 seed_1), (.slice r7.ptr r7.len r7.cap)] (.one (.sc .bool)) h5 fun r8 h6 =>
  (Held.ok [] h6) ∧
  Br (!r8)
  (R (.tuple #[(.slice none 0 0), (.int .i64 (9 : Int))]) h6)
  (K2 () h6)))
  (fun K1 =>
  ∃ x2 : Int × Int × Int, cellsAt h1 a1 0 [(.int .i64 x2.1), (.int .i64 x2.2.1), (.int .i64 x2.2.2)] ∧
  CallM Tryz.prog 25 #[(.agg #[(.int .i64 x2.1), (.int .i64 x2.2.1), (.int .i64 x2.2.2)])] (.one (.sc .bool)) h1 fun r3 h2 =>
  Br (!r3) (R (.tuple #[(.slice none 0 0), (.int .i64 (1 : Int))]) h2) (CallM Tryz.prog 32 #[(.slice l_2.ptr l_2.len l_2.cap), (.func (.func 33) #[] #[(.pointer (some a1))])] (.one (.sc .bool)) h2 fun r4 h3 =>
  Br r4
  (R (.tuple #[(.slice none 0 0), (.int .i64 (1 : Int))]) h3)
  (K1 () h3)))
theorem decode_Block_run (p_0 : Int × Int × Int) (seed_1 : Int) (l_2 : Sl) {R : Value → Heap → Prop} {h : Heap} (hm : decode_Block_m p_0 seed_1 l_2 R h) : Meets Tryz.prog 15 #[(.agg #[(.int .i64 p_0.1), (.int .i64 p_0.2.1), (.int .i64 p_0.2.2)]), (.int .u32 seed_1), (.slice l_2.ptr l_2.len l_2.cap)] h R := fn_tie C_ok Tryz.func15 (.two .n (.two (.join [] [(6, 8), (17, 25)] .n) (.two (.join [] [(6, 8), (25, 31)] .n) (.two .n (.two .n (.two .n (.two (.two .n (.inn (.loop [(10, (.sc .slc)), (43, (.sc (.int .i64)))] [(10, 13), (14, 17), (43, 81)] (.two .n (.two .n (.two (.inn (.two .n (.two .n (.two (.two .n (.inn (.loop [(54, (.sc (.int .i64)))] [(14, 17), (54, 77)] (.two .n (.two .n (.two (.inn (.two .n (.two .n (.inn (.loop [(63, (.sc (.int .i64)))] [(15, 17), (63, 76)] .n))))) .n)))))) .n)))) .n)))))) .n))))))) hm
abbrev wellspringkeep_Same_byte_id : FuncId := 16
noncomputable def wellspringkeep_Same_byte_m (a_0 : Sl) (b_1 : Sl) (R : Value → Heap → Prop) (h : Heap) : Prop :=
  Br (((a_0.len : Nat) : Int) != ((b_1.len : Nat) : Int))
  (R (.bool false) h)
  (LoopM (σ := Int) (fun s1 K1 h1 =>
  Br (decide (s1 < ((a_0.len : Nat) : Int)))
  (∃ a2 : Addr, (a_0.ptr = some a2 ∧ 0 ≤ s1 ∧ s1 < ((a_0.len : Nat) : Int)) ∧
  ∃ x3 : Int, cellOf h1 (a2.add (s1.toNat * 1)) = some (.int .u8 x3) ∧
  ∃ a4 : Addr, (b_1.ptr = some a4 ∧ 0 ≤ s1 ∧ s1 < ((b_1.len : Nat) : Int)) ∧
  ∃ x5 : Int, cellOf h1 (a4.add (s1.toNat * 1)) = some (.int .u8 x5) ∧
  Br (x3 != x5)
  (R (.bool false) h1)
  (K1 (IntKind.wrap .i64 (s1 + (1 : Int))) h1))
  (R (.bool true) h1)) (0 : Int) h)
theorem wellspringkeep_Same_byte_run (a_0 : Sl) (b_1 : Sl) {R : Value → Heap → Prop} {h : Heap} (hm : wellspringkeep_Same_byte_m a_0 b_1 R h) : Meets Tryz.prog 16 #[(.slice a_0.ptr a_0.len a_0.cap), (.slice b_1.ptr b_1.len b_1.cap)] h R := fn_tie C_ok Tryz.func16 (.two .n (.two .n (.two (.two .n (.inn (.loop [(13, (.sc (.int .i64)))] [(4, 6), (13, 26)] .n))) .n))) hm
abbrev encode_New_id : FuncId := 17
noncomputable def encode_New_m (p_0 : Int × Int × Int) (seed_1 : Int) (data_2 : Sl) (R : Value → Heap → Prop) (h : Heap) : Prop :=
  RunsA Tryz.prog (Instr.box 25 (.agg #[(.int .i64 p_0.1), (.int .i64 p_0.2.1), (.int .i64 p_0.2.2)])) h fun a1 h1 =>
  JoinM (σ := Unit) (fun _ h3 =>
  ∃ x7 : Int × Int × Int, cellsAt h3 a1 0 [(.int .i64 x7.1), (.int .i64 x7.2.1), (.int .i64 x7.2.2)] ∧
  CallM Tryz.prog 12 #[(.agg #[(.int .i64 x7.1), (.int .i64 x7.2.1), (.int .i64 x7.2.2)]), (.int .u32 seed_1)] (.one (.sc .bool)) h3 fun r8 h4 =>
  Br (!r8)
  (R (.tuple #[(.pointer none), (.int .i64 (8 : Int))]) h4)
  (∃ x9 : Int, cellOf h4 (a1.add 1) = some (.int .i64 x9) ∧
  LoopM (σ := Sl × Int) (fun s10 K2 h5 =>
  Br (decide (s10.2 < x9))
  (∃ x11 : Int, cellOf h5 (a1.add 2) = some (.int .i64 x11) ∧
  RunsR Tryz.prog (Instr.makeSlice 23 (.int .i64 x11) (.int .i64 x11)) (.one (.sc .slc)) h5 fun v12 h6 =>
  RunsR Tryz.prog (Instr.buildSlice 70 1 #[(0, (.slice v12.ptr v12.len v12.cap))]) (.one (.sc .slc)) h6 fun v13 h7 =>
  RunsR Tryz.prog (Builtin.append_ #[70, 70] 70 #[(.slice s10.1.ptr s10.1.len s10.1.cap), (.slice v13.ptr v13.len v13.cap)]) (.one (.sc .slc)) h7 fun v14 h8 =>
  K2 ((⟨v14.ptr, v14.len, v14.cap⟩ : Sl), IntKind.wrap .i64 (s10.2 + (1 : Int))) h8)
  (∃ x15 : Int, cellOf h5 a1 = some (.int .i64 x15) ∧
  LoopM (σ := Sl × Int) (fun s16 K3 h9 =>
  Br (decide (s16.2 < x15))
  (∃ x17 : Int, cellOf h9 (a1.add 2) = some (.int .i64 x17) ∧
  ∃ x18 : Int, cellOf h9 (a1.add 2) = some (.int .i64 x18) ∧
  (0 ≤ (IntKind.wrap .i64 (s16.2 * x17)) ∧ (IntKind.wrap .i64 (s16.2 * x17)) ≤ (IntKind.wrap .i64 ((IntKind.wrap .i64 (s16.2 + (1 : Int))) * x18)) ∧ (IntKind.wrap .i64 ((IntKind.wrap .i64 (s16.2 + (1 : Int))) * x18)) ≤ ((data_2.cap : Nat) : Int)) ∧
  RunsR Tryz.prog (Instr.buildSlice 70 1 #[(0, (.slice (if data_2.cap = (IntKind.wrap .i64 (s16.2 * x17)).toNat then data_2.ptr else data_2.ptr.map (·.add ((IntKind.wrap .i64 (s16.2 * x17)).toNat * 1))) ((IntKind.wrap .i64 ((IntKind.wrap .i64 (s16.2 + (1 : Int))) * x18)).toNat - (IntKind.wrap .i64 (s16.2 * x17)).toNat) (data_2.cap - (IntKind.wrap .i64 (s16.2 * x17)).toNat)))]) (.one (.sc .slc)) h9 fun v19 h10 =>
  RunsR Tryz.prog (Builtin.append_ #[70, 70] 70 #[(.slice s16.1.ptr s16.1.len s16.1.cap), (.slice v19.ptr v19.len v19.cap)]) (.one (.sc .slc)) h10 fun v20 h11 =>
  K3 ((⟨v20.ptr, v20.len, v20.cap⟩ : Sl), IntKind.wrap .i64 (s16.2 + (1 : Int))) h11)
  (JoinM (σ := Sl × Int) (fun s27 h16 =>
  Br (s27.2 != (0 : Int))
  (R (.tuple #[(.pointer none), (.int .i64 (8 : Int))]) h16)
  (∃ x28 : Int × Int × Int, cellsAt h16 a1 0 [(.int .i64 x28.1), (.int .i64 x28.2.1), (.int .i64 x28.2.2)] ∧
  RunsA Tryz.prog (Instr.box 79 (.agg #[(.int .i64 x28.1), (.int .i64 x28.2.1), (.int .i64 x28.2.2), (.int .u32 seed_1), (.slice s27.1.ptr s27.1.len s27.1.cap)])) h16 fun a29 h17 =>
  R (.tuple #[(.pointer (some a29)), (.int .i64 (0 : Int))]) h17))
  (fun K4 =>
  ∃ x21 : Int × Int × Int, cellsAt h9 a1 0 [(.int .i64 x21.1), (.int .i64 x21.2.1), (.int .i64 x21.2.2)] ∧
  ∃ x22 : Int × Int × Int, cellsAt h9 a1 0 [(.int .i64 x22.1), (.int .i64 x22.2.1), (.int .i64 x22.2.2)] ∧
  CallM Tryz.prog 39 #[] (.one (.sc .ptr)) h9 fun r23 h12 =>
  (Held.ok [(a1, (.int .i64 x22.1)), (a1.add 1, (.int .i64 x22.2.1)), (a1.add 2, (.int .i64 x22.2.2)), (a1, (.int .i64 x21.1)), (a1.add 1, (.int .i64 x21.2.1)), (a1.add 2, (.int .i64 x21.2.2))] h12) ∧
  CallM Tryz.prog 31 #[(.agg #[(.int .i64 x22.1), (.int .i64 x22.2.1), (.int .i64 x22.2.2)])] (.one (.sc .slc)) h12 fun r24 h13 =>
  (Held.ok [(a1, (.int .i64 x21.1)), (a1.add 1, (.int .i64 x21.2.1)), (a1.add 2, (.int .i64 x21.2.2))] h13) ∧
  CallM Tryz.prog 40 #[(.agg #[(.int .i64 x21.1), (.int .i64 x21.2.1), (.int .i64 x21.2.2)]), (.int .u32 seed_1), (.slice r24.ptr r24.len r24.cap)] (.one (.sc .slc)) h13 fun r25 h14 =>
  (Held.ok [] h14) ∧
  CallM Tryz.prog 38 #[(.pointer r23), (.slice r25.ptr r25.len r25.cap), (.slice s16.1.ptr s16.1.len s16.1.cap)] (.many [(.sc .slc), (.sc (.int .i64))]) h14 fun r26 h15 =>
  (Held.ok [] h15) ∧
  K4 ((⟨r26.1.ptr, r26.1.len, r26.1.cap⟩ : Sl), r26.2) h15))) ((⟨s10.1.ptr, s10.1.len, s10.1.cap⟩ : Sl), (0 : Int)) h5)) ((⟨none, 0, 0⟩ : Sl), (0 : Int)) h4))
  (fun K1 =>
  ∃ x2 : Int × Int × Int, cellsAt h1 a1 0 [(.int .i64 x2.1), (.int .i64 x2.2.1), (.int .i64 x2.2.2)] ∧
  CallM Tryz.prog 25 #[(.agg #[(.int .i64 x2.1), (.int .i64 x2.2.1), (.int .i64 x2.2.2)])] (.one (.sc .bool)) h1 fun r3 h2 =>
  Br (!r3) (R (.tuple #[(.pointer none), (.int .i64 (1 : Int))]) h2) (∃ x4 : Int, cellOf h2 a1 = some (.int .i64 x4) ∧
  ∃ x5 : Int, cellOf h2 (a1.add 2) = some (.int .i64 x5) ∧
  Br (((data_2.len : Nat) : Int) != (IntKind.wrap .i64 (x4 * x5)))
  (R (.tuple #[(.pointer none), (.int .i64 (1 : Int))]) h2)
  (K1 () h2)))
theorem encode_New_run (p_0 : Int × Int × Int) (seed_1 : Int) (data_2 : Sl) {R : Value → Heap → Prop} {h : Heap} (hm : encode_New_m p_0 seed_1 data_2 R h) : Meets Tryz.prog 17 #[(.agg #[(.int .i64 p_0.1), (.int .i64 p_0.2.1), (.int .i64 p_0.2.2)]), (.int .u32 seed_1), (.slice data_2.ptr data_2.len data_2.cap)] h R := fn_tie C_ok Tryz.func17 (.two .n (.two (.join [] [(6, 8), (12, 25)] .n) (.two .n (.two .n (.two (.two .n (.inn (.loop [(8, (.sc .slc)), (31, (.sc (.int .i64)))] [(8, 9), (31, 40)] .n))) (.two (.two .n (.inn (.loop [(8, (.sc .slc)), (42, (.sc (.int .i64)))] [(8, 10), (42, 60)] .n))) (.two (.join [(10, (.sc .slc)), (11, (.sc (.int .i64)))] [(10, 12), (60, 71)] .n) .n))))))) hm
abbrev wellspringlaw14_Symbols_id : FuncId := 18
noncomputable def wellspringlaw14_Symbols_m (y_0 : Option Addr) (ids_1 : Sl) (most_2 : Int) (R : Value → Heap → Prop) (h : Heap) : Prop :=
  JoinM (σ := Sl) (fun s9 h7 =>
  R (.slice s9.ptr s9.len s9.cap) h7)
  (fun K1 =>
  LoopM (σ := Sl × Int) (fun s1 K2 h1 =>
  JoinM (σ := Unit) (fun _ h2 =>
  ∃ a3 : Addr, (ids_1.ptr = some a3 ∧ 0 ≤ s1.2 ∧ s1.2 < ((ids_1.len : Nat) : Int)) ∧
  ∃ x4 : Int, cellOf h2 (a3.add (s1.2.toNat * 1)) = some (.int .i64 x4) ∧
  CallM Tryz.prog 14 #[(.int .i64 x4), (.int .i64 (60 : Int))] (.one (.sc (.int .i64))) h2 fun r5 h3 =>
  CallM Tryz.prog 23 #[(.pointer y_0), (.int .i64 r5)] (.one (.sc .slc)) h3 fun r6 h4 =>
  RunsR Tryz.prog (Instr.buildSlice 32 1 #[(0, (.agg #[(.int .i64 r5), (.slice r6.ptr r6.len r6.cap)]))]) (.one (.sc .slc)) h4 fun v7 h5 =>
  RunsR Tryz.prog (Builtin.append_ #[32, 32] 32 #[(.slice s1.1.ptr s1.1.len s1.1.cap), (.slice v7.ptr v7.len v7.cap)]) (.one (.sc .slc)) h5 fun v8 h6 =>
  K2 ((⟨v8.ptr, v8.len, v8.cap⟩ : Sl), IntKind.wrap .i64 (s1.2 + (1 : Int))) h6)
  (fun K3 =>
  Br (decide (s1.2 < ((ids_1.len : Nat) : Int))) (Br (decide (s1.2 < most_2))
  (K3 () h1)
  (K1 (⟨s1.1.ptr, s1.1.len, s1.1.cap⟩ : Sl) h1)) (K1 (⟨s1.1.ptr, s1.1.len, s1.1.cap⟩ : Sl) h1))) ((⟨none, 0, 0⟩ : Sl), (0 : Int)) h)
theorem wellspringlaw14_Symbols_run (y_0 : Option Addr) (ids_1 : Sl) (most_2 : Int) {R : Value → Heap → Prop} {h : Heap} (hm : wellspringlaw14_Symbols_m y_0 ids_1 most_2 R h) : Meets Tryz.prog 18 #[(.pointer y_0), (.slice ids_1.ptr ids_1.len ids_1.cap), (.int .i64 most_2)] h R := fn_tie C_ok Tryz.func18 (.two .n (.two .n (.two (.join [(7, (.sc .slc))] [(7, 34)] (.two .n (.inn (.loop [(7, (.sc .slc)), (8, (.sc (.int .i64)))] [(7, 34)] (.two (.join [] [(10, 19)] .n) .n))))) .n))) hm
abbrev wellspringkeep_Spare_byte_id : FuncId := 19
noncomputable def wellspringkeep_Spare_byte_m (l_0 : Sl) (mark_1 : Int) (R : Value → Heap → Prop) (h : Heap) : Prop :=
  RunsR Tryz.prog (Instr.makeSlice 23 (.int .i64 ((l_0.len : Nat) : Int)) (.int .i64 (IntKind.wrap .i64 (((l_0.len : Nat) : Int) + (2 : Int))))) (.one (.sc .slc)) h fun v1 h1 =>
  RunsR Tryz.prog (Builtin.copy_ #[23, 23] 3 #[(.slice v1.ptr v1.len v1.cap), (.slice l_0.ptr l_0.len l_0.cap)]) (.one (.sc (.int .i64))) h1 fun _ h2 =>
  (0 ≤ ((v1.cap : Nat) : Int) ∧ ((v1.cap : Nat) : Int) ≤ ((v1.cap : Nat) : Int)) ∧
  LoopM (σ := Int) (fun s3 K1 h3 =>
  Br (decide (s3 < ((((v1.cap : Nat) : Int).toNat : Nat) : Int)))
  (∃ a4 : Addr, (v1.ptr = some a4 ∧ 0 ≤ s3 ∧ s3 < ((((v1.cap : Nat) : Int).toNat : Nat) : Int)) ∧
  Runs Tryz.prog (Instr.storeAt 5 (.pointer (some (a4.add (s3.toNat * 1)))) (.int .u8 mark_1)) h3 fun _ h4 =>
  K1 (IntKind.wrap .i64 (s3 + (1 : Int))) h4)
  (R (.slice v1.ptr v1.len v1.cap) h3)) ((l_0.len : Nat) : Int) h2
theorem wellspringkeep_Spare_byte_run (l_0 : Sl) (mark_1 : Int) {R : Value → Heap → Prop} {h : Heap} (hm : wellspringkeep_Spare_byte_m l_0 mark_1 R h) : Meets Tryz.prog 19 #[(.slice l_0.ptr l_0.len l_0.cap), (.int .u8 mark_1)] h R := fn_tie C_ok Tryz.func19 (.two .n (.two .n (.two .n (.two .n (.two (.two .n (.inn (.loop [(7, (.sc (.int .i64)))] [(7, 8), (23, 33)] .n))) .n))))) hm
abbrev wellspringref11_Decode_id : FuncId := 20
noncomputable def wellspringref11_Decode_m (p_0 : Int × Int × Int) (seed_1 : Int) (l_2 : Sl) (R : Value → Heap → Prop) (h : Heap) : Prop :=
  RunsA Tryz.prog (Instr.box 25 (.agg #[(.int .i64 p_0.1), (.int .i64 p_0.2.1), (.int .i64 p_0.2.2)])) h fun a1 h1 =>
  ∃ x2 : Int × Int × Int, cellsAt h1 a1 0 [(.int .i64 x2.1), (.int .i64 x2.2.1), (.int .i64 x2.2.2)] ∧
  CallM Tryz.prog 41 #[(.agg #[(.int .i64 x2.1), (.int .i64 x2.2.1), (.int .i64 x2.2.2)])] (.one (.sc .bool)) h1 fun r3 h2 =>
  Br (!r3)
  (R (.tuple #[(.slice none 0 0), (.int .i64 (1 : Int))]) h2)
  (LoopM (σ := Sl × Int) (fun s4 K1 h3 =>
  ∃ x5 : Int, cellOf h3 (a1.add 1) = some (.int .i64 x5) ∧
  Br (decide (s4.2 < x5))
  (∃ x6 : Int, cellOf h3 (a1.add 2) = some (.int .i64 x6) ∧
  RunsR Tryz.prog (Instr.makeSlice 23 (.int .i64 x6) (.int .i64 x6)) (.one (.sc .slc)) h3 fun v7 h4 =>
  RunsR Tryz.prog (Instr.buildSlice 70 1 #[(0, (.slice v7.ptr v7.len v7.cap))]) (.one (.sc .slc)) h4 fun v8 h5 =>
  RunsR Tryz.prog (Builtin.append_ #[70, 70] 70 #[(.slice s4.1.ptr s4.1.len s4.1.cap), (.slice v8.ptr v8.len v8.cap)]) (.one (.sc .slc)) h5 fun v9 h6 =>
  K1 ((⟨v9.ptr, v9.len, v9.cap⟩ : Sl), IntKind.wrap .i64 (s4.2 + (1 : Int))) h6)
  (LoopM (σ := Sl × Sl × Int) (fun s10 K2 h7 =>
  Br (decide (s10.2.2 < ((l_2.len : Nat) : Int)))
  (∃ a11 : Addr, (l_2.ptr = some a11 ∧ 0 ≤ s10.2.2 ∧ s10.2.2 < ((l_2.len : Nat) : Int)) ∧
  ∃ x12 : Int × Sl, cellsAt h7 (a11.add (s10.2.2.toNat * 2)) 0 [(.int .i64 x12.1), (.slice x12.2.ptr x12.2.len x12.2.cap)] ∧
  RunsA Tryz.prog (Instr.alloc 35 true (.tuple #[])) h7 fun a13 h8 =>
  Runs Tryz.prog (Instr.storeAt 35 (.pointer (some a13)) (.agg #[(.int .i64 x12.1), (.slice x12.2.ptr x12.2.len x12.2.cap)])) h8 fun _ h9 =>
  JoinM (σ := Unit) (fun _ h11 =>
  ∃ x19 : Int, cellOf h11 a13 = some (.int .i64 x19) ∧
  ∃ x20 : Sl, cellOf h11 (a13.add 1) = some (.slice x20.ptr x20.len x20.cap) ∧
  RunsR Tryz.prog (Instr.buildSlice 41 1 #[(0, (.int .i64 x19))]) (.one (.sc .slc)) h11 fun v21 h12 =>
  (Held.ok [(a13.add 1, (.slice x20.ptr x20.len x20.cap))] h12) ∧
  RunsR Tryz.prog (Builtin.append_ #[41, 41] 41 #[(.slice s10.1.ptr s10.1.len s10.1.cap), (.slice v21.ptr v21.len v21.cap)]) (.one (.sc .slc)) h12 fun v22 h13 =>
  (Held.ok [(a13.add 1, (.slice x20.ptr x20.len x20.cap))] h13) ∧
  RunsR Tryz.prog (Builtin.append_ #[23, 23] 23 #[(.slice none 0 0), (.slice x20.ptr x20.len x20.cap)]) (.one (.sc .slc)) h13 fun v23 h14 =>
  (Held.ok [] h14) ∧
  RunsR Tryz.prog (Instr.buildSlice 70 1 #[(0, (.slice v23.ptr v23.len v23.cap))]) (.one (.sc .slc)) h14 fun v24 h15 =>
  (Held.ok [] h15) ∧
  RunsR Tryz.prog (Builtin.append_ #[70, 70] 70 #[(.slice s10.2.1.ptr s10.2.1.len s10.2.1.cap), (.slice v24.ptr v24.len v24.cap)]) (.one (.sc .slc)) h15 fun v25 h16 =>
  (Held.ok [] h16) ∧
  K2 ((⟨v22.ptr, v22.len, v22.cap⟩ : Sl), (⟨v25.ptr, v25.len, v25.cap⟩ : Sl), IntKind.wrap .i64 (s10.2.2 + (1 : Int))) h16)
  (fun K3 =>
  ∃ x14 : Int, cellOf h9 a13 = some (.int .i64 x14) ∧
  CallM Tryz.prog 42 #[(.int .i64 x14)] (.one (.sc .bool)) h9 fun r15 h10 =>
  Br (!r15) (R (.tuple #[(.slice none 0 0), (.int .i64 (1 : Int))]) h10) (∃ x16 : Sl, cellOf h10 (a13.add 1) = some (.slice x16.ptr x16.len x16.cap) ∧
  ∃ x17 : Int, cellOf h10 (a1.add 2) = some (.int .i64 x17) ∧
  Br (((x16.len : Nat) : Int) != x17)
  (R (.tuple #[(.slice none 0 0), (.int .i64 (1 : Int))]) h10)
  (K3 () h10))))
  (∃ x26 : Int × Int × Int, cellsAt h7 a1 0 [(.int .i64 x26.1), (.int .i64 x26.2.1), (.int .i64 x26.2.2)] ∧
  CallM Tryz.prog 44 #[(.agg #[(.int .i64 x26.1), (.int .i64 x26.2.1), (.int .i64 x26.2.2)]), (.int .u32 seed_1), (.slice s10.1.ptr s10.1.len s10.1.cap)] (.one (.sc .slc)) h7 fun r27 h17 =>
  CallM Tryz.prog 43 #[(.slice r27.ptr r27.len r27.cap), (.slice s10.2.1.ptr s10.2.1.len s10.2.1.cap)] (.many [(.sc .slc), (.sc (.int .i64))]) h17 fun r28 h18 =>
  Br (r28.2 != (0 : Int))
  (R (.tuple #[(.slice none 0 0), (.int .i64 r28.2)]) h18)
  (LoopM (σ := Sl × Int) (fun s29 K4 h19 =>
  ∃ x30 : Int, cellOf h19 a1 = some (.int .i64 x30) ∧
  Br (decide (s29.2 < x30))
  (∃ x31 : Int × Int × Int, cellsAt h19 a1 0 [(.int .i64 x31.1), (.int .i64 x31.2.1), (.int .i64 x31.2.2)] ∧
  ∃ x32 : Int × Int × Int, cellsAt h19 a1 0 [(.int .i64 x32.1), (.int .i64 x32.2.1), (.int .i64 x32.2.2)] ∧
  CallM Tryz.prog 46 #[(.agg #[(.int .i64 x32.1), (.int .i64 x32.2.1), (.int .i64 x32.2.2)]), (.int .u32 seed_1), (.int .i64 s29.2)] (.one (.sc .slc)) h19 fun r33 h20 =>
  (Held.ok [(a1, (.int .i64 x31.1)), (a1.add 1, (.int .i64 x31.2.1)), (a1.add 2, (.int .i64 x31.2.2))] h20) ∧
  CallM Tryz.prog 45 #[(.agg #[(.int .i64 x31.1), (.int .i64 x31.2.1), (.int .i64 x31.2.2)]), (.slice r28.1.ptr r28.1.len r28.1.cap), (.slice r33.ptr r33.len r33.cap)] (.one (.sc .slc)) h20 fun r34 h21 =>
  (Held.ok [] h21) ∧
  RunsR Tryz.prog (Builtin.append_ #[23, 23] 23 #[(.slice s29.1.ptr s29.1.len s29.1.cap), (.slice r34.ptr r34.len r34.cap)]) (.one (.sc .slc)) h21 fun v35 h22 =>
  (Held.ok [] h22) ∧
  K4 ((⟨v35.ptr, v35.len, v35.cap⟩ : Sl), IntKind.wrap .i64 (s29.2 + (1 : Int))) h22)
  (R (.tuple #[(.slice s29.1.ptr s29.1.len s29.1.cap), (.int .i64 (0 : Int))]) h19)) ((⟨none, 0, 0⟩ : Sl), (0 : Int)) h18))) ((⟨none, 0, 0⟩ : Sl), (⟨s4.1.ptr, s4.1.len, s4.1.cap⟩ : Sl), (0 : Int)) h3)) ((⟨none, 0, 0⟩ : Sl), (0 : Int)) h2)
theorem wellspringref11_Decode_run (p_0 : Int × Int × Int) (seed_1 : Int) (l_2 : Sl) {R : Value → Heap → Prop} {h : Heap} (hm : wellspringref11_Decode_m p_0 seed_1 l_2 R h) : Meets Tryz.prog 20 #[(.agg #[(.int .i64 p_0.1), (.int .i64 p_0.2.1), (.int .i64 p_0.2.2)]), (.int .u32 seed_1), (.slice l_2.ptr l_2.len l_2.cap)] h R := fn_tie C_ok Tryz.func20 (.two .n (.two .n (.two .n (.two .n (.two (.two .n (.inn (.loop [(9, (.sc .slc)), (10, (.sc (.int .i64)))] [(9, 11), (20, 32)] .n))) (.two (.two .n (.inn (.loop [(8, (.sc .slc)), (9, (.sc .slc)), (34, (.sc (.int .i64)))] [(6, 10), (12, 13), (34, 62)] (.two .n (.two .n (.two (.inn (.two .n (.two (.join [] [(6, 8), (38, 50)] .n) .n))) .n)))))) (.two .n (.two .n (.two .n (.two (.two .n (.inn (.loop [(15, (.sc .slc)), (16, (.sc (.int .i64)))] [(15, 17), (74, 89)] .n))) .n)))))))))) hm
abbrev wellspringkeep_Kept_byte_id : FuncId := 21
noncomputable def wellspringkeep_Kept_byte_m (l_0 : Sl) (was_1 : Sl) (mark_2 : Int) (R : Value → Heap → Prop) (h : Heap) : Prop :=
  (0 ≤ ((l_0.cap : Nat) : Int) ∧ ((l_0.cap : Nat) : Int) ≤ ((l_0.cap : Nat) : Int)) ∧
  CallM Tryz.prog 16 #[(.slice l_0.ptr l_0.len l_0.cap), (.slice was_1.ptr was_1.len was_1.cap)] (.one (.sc .bool)) h fun r1 h1 =>
  Br (!r1)
  (R (.bool false) h1)
  (LoopM (σ := Int) (fun s2 K1 h2 =>
  Br (decide (s2 < ((((l_0.cap : Nat) : Int).toNat : Nat) : Int)))
  (∃ a3 : Addr, (l_0.ptr = some a3 ∧ 0 ≤ s2 ∧ s2 < ((((l_0.cap : Nat) : Int).toNat : Nat) : Int)) ∧
  ∃ x4 : Int, cellOf h2 (a3.add (s2.toNat * 1)) = some (.int .u8 x4) ∧
  Br (x4 != mark_2)
  (R (.bool false) h2)
  (K1 (IntKind.wrap .i64 (s2 + (1 : Int))) h2))
  (R (.bool true) h2)) ((l_0.len : Nat) : Int) h1)
theorem wellspringkeep_Kept_byte_run (l_0 : Sl) (was_1 : Sl) (mark_2 : Int) {R : Value → Heap → Prop} {h : Heap} (hm : wellspringkeep_Kept_byte_m l_0 was_1 mark_2 R h) : Meets Tryz.prog 21 #[(.slice l_0.ptr l_0.len l_0.cap), (.slice was_1.ptr was_1.len was_1.cap), (.int .u8 mark_2)] h R := fn_tie C_ok Tryz.func21 (.two .n (.two .n (.two .n (.two (.two .n (.inn (.loop [(8, (.sc (.int .i64)))] [(6, 7), (8, 9), (19, 31)] .n))) .n)))) hm
abbrev system_Full_id : FuncId := 22
noncomputable def system_Full_m (p_0 : Int × Int × Int) (seed_1 : Int) (ids_2 : Sl) (R : Value → Heap → Prop) (h : Heap) : Prop :=
  RunsA Tryz.prog (Instr.box 25 (.agg #[(.int .i64 p_0.1), (.int .i64 p_0.2.1), (.int .i64 p_0.2.2)])) h fun a1 h1 =>
  ∃ x2 : Int × Int × Int, cellsAt h1 a1 0 [(.int .i64 x2.1), (.int .i64 x2.2.1), (.int .i64 x2.2.2)] ∧
  CallM Tryz.prog 25 #[(.agg #[(.int .i64 x2.1), (.int .i64 x2.2.1), (.int .i64 x2.2.2)])] (.one (.sc .bool)) h1 fun r3 h2 =>
  (Held.ok [] h2) ∧
  Br r3 (∃ x4 : Int × Int × Int, cellsAt h2 a1 0 [(.int .i64 x4.1), (.int .i64 x4.2.1), (.int .i64 x4.2.2)] ∧
  ∃ x5 : Int × Int × Int, cellsAt h2 a1 0 [(.int .i64 x5.1), (.int .i64 x5.2.1), (.int .i64 x5.2.2)] ∧
  CallM Tryz.prog 29 #[(.agg #[(.int .i64 x4.1), (.int .i64 x4.2.1), (.int .i64 x4.2.2)]), (.int .u32 seed_1), (.slice ids_2.ptr ids_2.len ids_2.cap)] (.one (.sc (.int .i64))) h2 fun r6 h3 =>
  (Held.ok [(a1, (.int .i64 x5.1)), (a1.add 1, (.int .i64 x5.2.1)), (a1.add 2, (.int .i64 x5.2.2))] h3) ∧
  CallM Tryz.prog 28 #[(.agg #[(.int .i64 x5.1), (.int .i64 x5.2.1), (.int .i64 x5.2.2)])] (.one (.sc (.int .i64))) h3 fun r7 h4 =>
  (Held.ok [] h4) ∧
  R (.bool (r6 == r7)) h4) ((Held.ok [] h2) ∧
  (Held.ok [] h2) ∧
  R (.bool false) h2)
theorem system_Full_run (p_0 : Int × Int × Int) (seed_1 : Int) (ids_2 : Sl) {R : Value → Heap → Prop} {h : Heap} (hm : system_Full_m p_0 seed_1 ids_2 R h) : Meets Tryz.prog 22 #[(.agg #[(.int .i64 p_0.1), (.int .i64 p_0.2.1), (.int .i64 p_0.2.2)]), (.int .u32 seed_1), (.slice ids_2.ptr ids_2.len ids_2.cap)] h R := fn_tie C_ok Tryz.func22 .n hm
abbrev encode_Block_Symbol_id : FuncId := 23
noncomputable def encode_Block_Symbol_m (b_0 : Option Addr) (id_1 : Int) (R : Value → Heap → Prop) (h : Heap) : Prop :=
  JoinM (σ := Unit) (fun _ h1 =>
  ∃ a2 : Addr, (b_0 = some a2) ∧
  ∃ x3 : Int, cellOf h1 (a2.add 2) = some (.int .i64 x3) ∧
  RunsR Tryz.prog (Instr.makeSlice 23 (.int .i64 x3) (.int .i64 x3)) (.one (.sc .slc)) h1 fun v4 h2 =>
  ∃ a5 : Addr, (b_0 = some a5) ∧
  ∃ x6 : Int × Int × Int, cellsAt h2 a5 0 [(.int .i64 x6.1), (.int .i64 x6.2.1), (.int .i64 x6.2.2)] ∧
  ∃ a7 : Addr, (b_0 = some a7) ∧
  ∃ x8 : Int, cellOf h2 (a7.add 3) = some (.int .u32 x8) ∧
  CallM Tryz.prog 37 #[(.agg #[(.int .i64 x6.1), (.int .i64 x6.2.1), (.int .i64 x6.2.2)]), (.int .u32 x8), (.int .i64 id_1)] (.one (.sc .slc)) h2 fun r9 h3 =>
  (Held.ok [] h3) ∧
  LoopM (σ := Int) (fun s10 K2 h4 =>
  Br (decide (s10 < ((r9.len : Nat) : Int)))
  (∃ a11 : Addr, (r9.ptr = some a11 ∧ 0 ≤ s10 ∧ s10 < ((r9.len : Nat) : Int)) ∧
  ∃ x12 : Int, cellOf h4 (a11.add (s10.toNat * 1)) = some (.int .i64 x12) ∧
  ∃ a13 : Addr, (b_0 = some a13) ∧
  ∃ x14 : Sl, cellOf h4 (a13.add 4) = some (.slice x14.ptr x14.len x14.cap) ∧
  ∃ a15 : Addr, (x14.ptr = some a15 ∧ 0 ≤ x12 ∧ x12 < ((x14.len : Nat) : Int)) ∧
  ∃ x16 : Sl, cellOf h4 (a15.add (x12.toNat * 1)) = some (.slice x16.ptr x16.len x16.cap) ∧
  LoopM (σ := Int) (fun s17 K3 h5 =>
  Br (decide (s17 < ((x16.len : Nat) : Int)))
  (∃ a18 : Addr, (x16.ptr = some a18 ∧ 0 ≤ s17 ∧ s17 < ((x16.len : Nat) : Int)) ∧
  ∃ x19 : Int, cellOf h5 (a18.add (s17.toNat * 1)) = some (.int .u8 x19) ∧
  ∃ a20 : Addr, (v4.ptr = some a20 ∧ 0 ≤ s17 ∧ s17 < ((v4.len : Nat) : Int)) ∧
  ∃ x21 : Int, cellOf h5 (a20.add (s17.toNat * 1)) = some (.int .u8 x21) ∧
  ∃ a22 : Addr, (v4.ptr = some a22 ∧ 0 ≤ s17 ∧ s17 < ((v4.len : Nat) : Int)) ∧
  Runs Tryz.prog (Instr.storeAt 5 (.pointer (some (a22.add (s17.toNat * 1)))) (.int .u8 (IntKind.wrap .u8 ((BitVec.ofInt (IntKind.bits .u8) x21 ^^^ (BitVec.ofInt (IntKind.bits .u8) x19)).toNat : Nat)))) h5 fun _ h6 =>
  K3 (IntKind.wrap .i64 (s17 + (1 : Int))) h6)
  (K2 (IntKind.wrap .i64 (s10 + (1 : Int))) h5)) (0 : Int) h4)
  (R (.slice v4.ptr v4.len v4.cap) h4)) (0 : Int) h3)
  (fun K1 =>
  Br (Option.isNone b_0) (R (.slice none 0 0) h) (Br (decide (id_1 < (0 : Int))) (R (.slice none 0 0) h) (Br (decide (id_1 > (65535 : Int)))
  (R (.slice none 0 0) h)
  (K1 () h))))
theorem encode_Block_Symbol_run (b_0 : Option Addr) (id_1 : Int) {R : Value → Heap → Prop} {h : Heap} (hm : encode_Block_Symbol_m b_0 id_1 R h) : Meets Tryz.prog 23 #[(.pointer b_0), (.int .i64 id_1)] h R := fn_tie C_ok Tryz.func23 (.two .n (.two (.join [] [(4, 5), (10, 20)] .n) (.two .n (.two (.two .n (.inn (.loop [(37, (.sc (.int .i64)))] [(7, 10), (37, 63)] (.two .n (.two .n (.two (.inn (.two .n (.two .n (.inn (.loop [(49, (.sc (.int .i64)))] [(8, 10), (49, 62)] .n))))) .n)))))) .n)))) hm
abbrev decode_New_id : FuncId := 24
noncomputable def decode_New_m (p_0 : Int × Int × Int) (seed_1 : Int) (R : Value → Heap → Prop) (h : Heap) : Prop :=
  RunsA Tryz.prog (Instr.box 25 (.agg #[(.int .i64 p_0.1), (.int .i64 p_0.2.1), (.int .i64 p_0.2.2)])) h fun a1 h1 =>
  ∃ x2 : Int × Int × Int, cellsAt h1 a1 0 [(.int .i64 x2.1), (.int .i64 x2.2.1), (.int .i64 x2.2.2)] ∧
  CallM Tryz.prog 25 #[(.agg #[(.int .i64 x2.1), (.int .i64 x2.2.1), (.int .i64 x2.2.2)])] (.one (.sc .bool)) h1 fun r3 h2 =>
  Br (!r3)
  (R (.pointer none) h2)
  (∃ x4 : Int × Int × Int, cellsAt h2 a1 0 [(.int .i64 x4.1), (.int .i64 x4.2.1), (.int .i64 x4.2.2)] ∧
  RunsA Tryz.prog (Instr.box 84 (.agg #[(.int .i64 x4.1), (.int .i64 x4.2.1), (.int .i64 x4.2.2), (.int .u32 seed_1), (.slice none 0 0)])) h2 fun a5 h3 =>
  R (.pointer (some a5)) h3)
theorem decode_New_run (p_0 : Int × Int × Int) (seed_1 : Int) {R : Value → Heap → Prop} {h : Heap} (hm : decode_New_m p_0 seed_1 R h) : Meets Tryz.prog 24 #[(.agg #[(.int .i64 p_0.1), (.int .i64 p_0.2.1), (.int .i64 p_0.2.2)]), (.int .u32 seed_1)] h R := fn_tie C_ok Tryz.func24 .n hm
abbrev pre_May_id : FuncId := 25
noncomputable def pre_May_m (p_0 : Int × Int × Int) (R : Value → Heap → Prop) (h : Heap) : Prop :=
  RunsA Tryz.prog (Instr.box 25 (.agg #[(.int .i64 p_0.1), (.int .i64 p_0.2.1), (.int .i64 p_0.2.2)])) h fun a1 h1 =>
  ∃ x2 : Int, cellOf h1 a1 = some (.int .i64 x2) ∧
  Br (decide (x2 ≥ (1 : Int))) (∃ x3 : Int, cellOf h1 a1 = some (.int .i64 x3) ∧
  Br (decide (x3 ≤ (16 : Int))) (∃ x4 : Int, cellOf h1 (a1.add 1) = some (.int .i64 x4) ∧
  Br (decide (x4 ≥ (1 : Int))) (∃ x5 : Int, cellOf h1 (a1.add 1) = some (.int .i64 x5) ∧
  Br (decide (x5 ≤ (4 : Int))) (∃ x6 : Int, cellOf h1 (a1.add 2) = some (.int .i64 x6) ∧
  Br (decide (x6 ≥ (1 : Int))) (∃ x7 : Int, cellOf h1 (a1.add 2) = some (.int .i64 x7) ∧
  R (.bool (decide (x7 ≤ (24 : Int)))) h1) (R (.bool false) h1)) (R (.bool false) h1)) (R (.bool false) h1)) (R (.bool false) h1)) (R (.bool false) h1)
theorem pre_May_run (p_0 : Int × Int × Int) {R : Value → Heap → Prop} {h : Heap} (hm : pre_May_m p_0 R h) : Meets Tryz.prog 25 #[(.agg #[(.int .i64 p_0.1), (.int .i64 p_0.2.1), (.int .i64 p_0.2.2)])] h R := fn_tie C_ok Tryz.func25 .n hm
abbrev decode_Decoder_Add_id : FuncId := 26
noncomputable def decode_Decoder_Add_m (d_0 : Option Addr) (id_1 : Int) (data_2 : Sl) (R : Value → Heap → Prop) (h : Heap) : Prop :=
  CallM Tryz.prog 47 #[(.slice data_2.ptr data_2.len data_2.cap)] (.one (.sc .slc)) h fun r1 h1 =>
  RunsA Tryz.prog (Instr.alloc 35 true (.tuple #[])) h1 fun a2 h2 =>
  Runs Tryz.prog (Instr.storeAt 35 (.pointer (some a2)) (.agg #[(.int .i64 id_1), (.slice r1.ptr r1.len r1.cap)])) h2 fun _ h3 =>
  JoinM (σ := Unit) (fun _ h5 =>
  ∃ a8 : Addr, (d_0 = some a8) ∧
  ∃ x9 : Sl, cellOf h5 (a8.add 4) = some (.slice x9.ptr x9.len x9.cap) ∧
  ∃ x10 : Int × Sl, cellsAt h5 a2 0 [(.int .i64 x10.1), (.slice x10.2.ptr x10.2.len x10.2.cap)] ∧
  RunsR Tryz.prog (Instr.buildSlice 32 1 #[(0, (.agg #[(.int .i64 x10.1), (.slice x10.2.ptr x10.2.len x10.2.cap)]))]) (.one (.sc .slc)) h5 fun v11 h6 =>
  (Held.ok [(a8.add 4, (.slice x9.ptr x9.len x9.cap))] h6) ∧
  RunsR Tryz.prog (Builtin.append_ #[32, 32] 32 #[(.slice x9.ptr x9.len x9.cap), (.slice v11.ptr v11.len v11.cap)]) (.one (.sc .slc)) h6 fun v12 h7 =>
  (Held.ok [] h7) ∧
  ∃ a13 : Addr, (d_0 = some a13) ∧
  Runs Tryz.prog (Instr.storeAt 32 (.pointer (some (a13.add 4))) (.slice v12.ptr v12.len v12.cap)) h7 fun _ h8 =>
  (Held.ok [] h8) ∧
  R (.bool true) h8)
  (fun K1 =>
  Br (Option.isNone d_0) ((Held.ok [] h3) ∧
  R (.bool false) h3) (∃ a3 : Addr, (d_0 = some a3) ∧
  ∃ x4 : Int × Int × Int, cellsAt h3 a3 0 [(.int .i64 x4.1), (.int .i64 x4.2.1), (.int .i64 x4.2.2)] ∧
  ∃ x5 : Int × Sl, cellsAt h3 a2 0 [(.int .i64 x5.1), (.slice x5.2.ptr x5.2.len x5.2.cap)] ∧
  CallM Tryz.prog 34 #[(.agg #[(.int .i64 x4.1), (.int .i64 x4.2.1), (.int .i64 x4.2.2)]), (.agg #[(.int .i64 x5.1), (.slice x5.2.ptr x5.2.len x5.2.cap)])] (.one (.sc .bool)) h3 fun r6 h4 =>
  (Held.ok [] h4) ∧
  Br (!r6)
  (R (.bool false) h4)
  (K1 () h4)))
theorem decode_Decoder_Add_run (d_0 : Option Addr) (id_1 : Int) (data_2 : Sl) {R : Value → Heap → Prop} {h : Heap} (hm : decode_Decoder_Add_m d_0 id_1 data_2 R h) : Meets Tryz.prog 26 #[(.pointer d_0), (.int .i64 id_1), (.slice data_2.ptr data_2.len data_2.cap)] h R := fn_tie C_ok Tryz.func26 (.two .n (.two .n (.two (.join [] [(6, 7), (12, 23)] .n) .n))) hm
abbrev decode_Decoder_Need_id : FuncId := 27
noncomputable def decode_Decoder_Need_m (d_0 : Option Addr) (R : Value → Heap → Prop) (h : Heap) : Prop :=
  Br (Option.isNone d_0)
  (R (.int .i64 (0 : Int)) h)
  (∃ a1 : Addr, (d_0 = some a1) ∧
  ∃ x2 : Int × Int × Int, cellsAt h a1 0 [(.int .i64 x2.1), (.int .i64 x2.2.1), (.int .i64 x2.2.2)] ∧
  ∃ a3 : Addr, (d_0 = some a3) ∧
  ∃ x4 : Int × Int × Int, cellsAt h a3 0 [(.int .i64 x4.1), (.int .i64 x4.2.1), (.int .i64 x4.2.2)] ∧
  ∃ a5 : Addr, (d_0 = some a5) ∧
  ∃ x6 : Int, cellOf h (a5.add 3) = some (.int .u32 x6) ∧
  ∃ a7 : Addr, (d_0 = some a7) ∧
  ∃ x8 : Sl, cellOf h (a7.add 4) = some (.slice x8.ptr x8.len x8.cap) ∧
  CallM Tryz.prog 28 #[(.agg #[(.int .i64 x2.1), (.int .i64 x2.2.1), (.int .i64 x2.2.2)])] (.one (.sc (.int .i64))) h fun r9 h1 =>
  (Held.ok [(a7.add 4, (.slice x8.ptr x8.len x8.cap)), (a5.add 3, (.int .u32 x6)), (a3, (.int .i64 x4.1)), (a3.add 1, (.int .i64 x4.2.1)), (a3.add 2, (.int .i64 x4.2.2))] h1) ∧
  CallM Tryz.prog 35 #[(.slice x8.ptr x8.len x8.cap)] (.one (.sc .slc)) h1 fun r10 h2 =>
  (Held.ok [(a5.add 3, (.int .u32 x6)), (a3, (.int .i64 x4.1)), (a3.add 1, (.int .i64 x4.2.1)), (a3.add 2, (.int .i64 x4.2.2))] h2) ∧
  CallM Tryz.prog 29 #[(.agg #[(.int .i64 x4.1), (.int .i64 x4.2.1), (.int .i64 x4.2.2)]), (.int .u32 x6), (.slice r10.ptr r10.len r10.cap)] (.one (.sc (.int .i64))) h2 fun r11 h3 =>
  (Held.ok [] h3) ∧
  R (.int .i64 (IntKind.wrap .i64 (r9 - r11))) h3)
theorem decode_Decoder_Need_run (d_0 : Option Addr) {R : Value → Heap → Prop} {h : Heap} (hm : decode_Decoder_Need_m d_0 R h) : Meets Tryz.prog 27 #[(.pointer d_0)] h R := fn_tie C_ok Tryz.func27 .n hm
abbrev pre_Cols_id : FuncId := 28
noncomputable def pre_Cols_m (p_0 : Int × Int × Int) (R : Value → Heap → Prop) (h : Heap) : Prop :=
  RunsA Tryz.prog (Instr.box 25 (.agg #[(.int .i64 p_0.1), (.int .i64 p_0.2.1), (.int .i64 p_0.2.2)])) h fun a1 h1 =>
  ∃ x2 : Int × Int × Int, cellsAt h1 a1 0 [(.int .i64 x2.1), (.int .i64 x2.2.1), (.int .i64 x2.2.2)] ∧
  CallM Tryz.prog 25 #[(.agg #[(.int .i64 x2.1), (.int .i64 x2.2.1), (.int .i64 x2.2.2)])] (.one (.sc .bool)) h1 fun r3 h2 =>
  Br (!r3)
  (R (.int .i64 (0 : Int)) h2)
  (∃ x4 : Int, cellOf h2 a1 = some (.int .i64 x4) ∧
  ∃ x5 : Int, cellOf h2 (a1.add 1) = some (.int .i64 x5) ∧
  R (.int .i64 (IntKind.wrap .i64 (x4 + x5))) h2)
theorem pre_Cols_run (p_0 : Int × Int × Int) {R : Value → Heap → Prop} {h : Heap} (hm : pre_Cols_m p_0 R h) : Meets Tryz.prog 28 #[(.agg #[(.int .i64 p_0.1), (.int .i64 p_0.2.1), (.int .i64 p_0.2.2)])] h R := fn_tie C_ok Tryz.func28 .n hm
abbrev system_Rank_id : FuncId := 29
noncomputable def system_Rank_m (p_0 : Int × Int × Int) (seed_1 : Int) (ids_2 : Sl) (R : Value → Heap → Prop) (h : Heap) : Prop :=
  RunsA Tryz.prog (Instr.box 25 (.agg #[(.int .i64 p_0.1), (.int .i64 p_0.2.1), (.int .i64 p_0.2.2)])) h fun a1 h1 =>
  ∃ x2 : Int × Int × Int, cellsAt h1 a1 0 [(.int .i64 x2.1), (.int .i64 x2.2.1), (.int .i64 x2.2.2)] ∧
  CallM Tryz.prog 39 #[] (.one (.sc .ptr)) h1 fun r3 h2 =>
  (Held.ok [(a1, (.int .i64 x2.1)), (a1.add 1, (.int .i64 x2.2.1)), (a1.add 2, (.int .i64 x2.2.2))] h2) ∧
  CallM Tryz.prog 40 #[(.agg #[(.int .i64 x2.1), (.int .i64 x2.2.1), (.int .i64 x2.2.2)]), (.int .u32 seed_1), (.slice ids_2.ptr ids_2.len ids_2.cap)] (.one (.sc .slc)) h2 fun r4 h3 =>
  (Held.ok [] h3) ∧
  CallM Tryz.prog 48 #[(.pointer r3), (.slice r4.ptr r4.len r4.cap)] (.one (.sc (.int .i64))) h3 fun r5 h4 =>
  (Held.ok [] h4) ∧
  R (.int .i64 r5) h4
theorem system_Rank_run (p_0 : Int × Int × Int) (seed_1 : Int) (ids_2 : Sl) {R : Value → Heap → Prop} {h : Heap} (hm : system_Rank_m p_0 seed_1 ids_2 R h) : Meets Tryz.prog 29 #[(.agg #[(.int .i64 p_0.1), (.int .i64 p_0.2.1), (.int .i64 p_0.2.2)]), (.int .u32 seed_1), (.slice ids_2.ptr ids_2.len ids_2.cap)] h R := fn_tie C_ok Tryz.func29 .n hm
abbrev decode_Decoder_Block_id : FuncId := 30
noncomputable def decode_Decoder_Block_m (d_0 : Option Addr) (R : Value → Heap → Prop) (h : Heap) : Prop :=
  Br (Option.isNone d_0)
  (R (.tuple #[(.slice none 0 0), (.int .i64 (1 : Int))]) h)
  (∃ a1 : Addr, (d_0 = some a1) ∧
  ∃ x2 : Int × Int × Int, cellsAt h a1 0 [(.int .i64 x2.1), (.int .i64 x2.2.1), (.int .i64 x2.2.2)] ∧
  ∃ a3 : Addr, (d_0 = some a3) ∧
  ∃ x4 : Int, cellOf h (a3.add 3) = some (.int .u32 x4) ∧
  ∃ a5 : Addr, (d_0 = some a5) ∧
  ∃ x6 : Sl, cellOf h (a5.add 4) = some (.slice x6.ptr x6.len x6.cap) ∧
  CallM Tryz.prog 15 #[(.agg #[(.int .i64 x2.1), (.int .i64 x2.2.1), (.int .i64 x2.2.2)]), (.int .u32 x4), (.slice x6.ptr x6.len x6.cap)] (.many [(.sc .slc), (.sc (.int .i64))]) h fun r7 h1 =>
  (Held.ok [] h1) ∧
  R (.tuple #[(.slice r7.1.ptr r7.1.len r7.1.cap), (.int .i64 r7.2)]) h1)
theorem decode_Decoder_Block_run (d_0 : Option Addr) {R : Value → Heap → Prop} {h : Heap} (hm : decode_Decoder_Block_m d_0 R h) : Meets Tryz.prog 30 #[(.pointer d_0)] h R := fn_tie C_ok Tryz.func30 .n hm
abbrev system_First_id : FuncId := 31
noncomputable def system_First_m (p_0 : Int × Int × Int) (R : Value → Heap → Prop) (h : Heap) : Prop :=
  RunsA Tryz.prog (Instr.box 25 (.agg #[(.int .i64 p_0.1), (.int .i64 p_0.2.1), (.int .i64 p_0.2.2)])) h fun a1 h1 =>
  ∃ x2 : Int, cellOf h1 a1 = some (.int .i64 x2) ∧
  LoopM (σ := Sl × Int) (fun s3 K1 h2 =>
  Br (decide (s3.2 < (if (if (16 : Int) < x2 then (16 : Int) else x2) > (0 : Int) then (if (16 : Int) < x2 then (16 : Int) else x2) else (0 : Int))))
  (RunsR Tryz.prog (Instr.buildSlice 41 1 #[(0, (.int .i64 s3.2))]) (.one (.sc .slc)) h2 fun v4 h3 =>
  RunsR Tryz.prog (Builtin.append_ #[41, 41] 41 #[(.slice s3.1.ptr s3.1.len s3.1.cap), (.slice v4.ptr v4.len v4.cap)]) (.one (.sc .slc)) h3 fun v5 h4 =>
  K1 ((⟨v5.ptr, v5.len, v5.cap⟩ : Sl), IntKind.wrap .i64 (s3.2 + (1 : Int))) h4)
  (R (.slice s3.1.ptr s3.1.len s3.1.cap) h2)) ((⟨none, 0, 0⟩ : Sl), (0 : Int)) h1
theorem system_First_run (p_0 : Int × Int × Int) {R : Value → Heap → Prop} {h : Heap} (hm : system_First_m p_0 R h) : Meets Tryz.prog 31 #[(.agg #[(.int .i64 p_0.1), (.int .i64 p_0.2.1), (.int .i64 p_0.2.2)])] h R := fn_tie C_ok Tryz.func31 (.two .n (.two .n (.two (.two .n (.inn (.loop [(3, (.sc .slc)), (9, (.sc (.int .i64)))] [(3, 5), (9, 17)] .n))) .n))) hm
abbrev slices_ContainsFunc_api_Symbol_api_Symbol_id : FuncId := 32
noncomputable def slices_ContainsFunc_api_Symbol_api_Symbol_m (s_0 : Sl) (f_1 : FuncId × Array Value) (R : Value → Heap → Prop) (h : Heap) : Prop :=
  CallM Tryz.prog 49 #[(.slice s_0.ptr s_0.len s_0.cap), (.func (.func f_1.1) #[] f_1.2)] (.one (.sc (.int .i64))) h fun r1 h1 =>
  R (.bool (decide (r1 ≥ (0 : Int)))) h1
theorem slices_ContainsFunc_api_Symbol_api_Symbol_run (s_0 : Sl) (f_1 : FuncId × Array Value) {R : Value → Heap → Prop} {h : Heap} (hm : slices_ContainsFunc_api_Symbol_api_Symbol_m s_0 f_1 R h) : Meets Tryz.prog 32 #[(.slice s_0.ptr s_0.len s_0.cap), (.func (.func f_1.1) #[] f_1.2)] h R := fn_tie C_ok Tryz.func32 .n hm
abbrev decode_Block_1_id : FuncId := 33
noncomputable def decode_Block_1_m (x_0 : Int × Sl) (cap_1 : Addr) (R : Value → Heap → Prop) (h : Heap) : Prop :=
  RunsA Tryz.prog (Instr.box 35 (.agg #[(.int .i64 x_0.1), (.slice x_0.2.ptr x_0.2.len x_0.2.cap)])) h fun a1 h1 =>
  ∃ x2 : Int × Int × Int, cellsAt h1 cap_1 0 [(.int .i64 x2.1), (.int .i64 x2.2.1), (.int .i64 x2.2.2)] ∧
  ∃ x3 : Int × Sl, cellsAt h1 a1 0 [(.int .i64 x3.1), (.slice x3.2.ptr x3.2.len x3.2.cap)] ∧
  CallM Tryz.prog 34 #[(.agg #[(.int .i64 x2.1), (.int .i64 x2.2.1), (.int .i64 x2.2.2)]), (.agg #[(.int .i64 x3.1), (.slice x3.2.ptr x3.2.len x3.2.cap)])] (.one (.sc .bool)) h1 fun r4 h2 =>
  R (.bool (!r4)) h2
theorem decode_Block_1_run (x_0 : Int × Sl) (cap_1 : Addr) {R : Value → Heap → Prop} {h : Heap} (hm : decode_Block_1_m x_0 cap_1 R h) : Meets Tryz.prog 33 #[(.agg #[(.int .i64 x_0.1), (.slice x_0.2.ptr x_0.2.len x_0.2.cap)]), (.pointer (some cap_1))] h R := fn_tie C_ok Tryz.func33 .n hm
end Go.Proofs.YtkcplnfomahleaaGreatDoor
