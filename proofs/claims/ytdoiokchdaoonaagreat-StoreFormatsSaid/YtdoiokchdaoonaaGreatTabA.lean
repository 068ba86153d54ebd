/- Part of the proofs that wellspringlaw29's laws answer true whatever the input reads, and leave it as it was; no condition. -/
import Derived.Test.YtdoiokchdaoonaaGreatHpA
import Derived.Test.YtdoiokchdaoonaaGreatProg
set_option linter.unusedVariables false
set_option linter.unusedSimpArgs false
namespace Go.Proofs.YtdoiokchdaoonaaGreat
open Go Go.Vc Go.Proofs
set_option maxRecDepth 1000000
abbrev T_int : Nat := 3
abbrev T_uint8 : Nat := 5
abbrev T_api_Params : Nat := 23
abbrev T_sl_int : Nat := 24
abbrev T_wellspringref21_Power : Nat := 33
abbrev T_sl_uint8 : Nat := 45
abbrev T_sl_api_Entry : Nat := 48
abbrev T_api_Manifest : Nat := 50
abbrev T_api_Entry : Nat := 54
abbrev T_ptr_drive_Drive : Nat := 62
abbrev T_power_Power : Nat := 71
abbrev T_store_Store : Nat := 77
abbrev T_sl_sl_uint8 : Nat := 78
abbrev T_sl_lay_Piece : Nat := 82
abbrev T_ptr_wellspringref21_Drive : Nat := 86
abbrev T_wellspringref29_Store : Nat := 89
abbrev T_lay_Piece : Nat := 101
abbrev T_drive_Drive : Nat := 123
abbrev T_wellspringref21_Drive : Nat := 131
abbrev T_sl_wellspringref29_Item : Nat := 132
abbrev T_wellspringref29_Item : Nat := 133
abbrev T_64_bool : Nat := 171
abbrev ti0 : TI := ⟨.fn, (.sc .fn), 1, 8, [.nilFunc]⟩
abbrev ti1 : TI := ⟨.int .i64, (.sc (.int .i64)), 1, 8, [(.int .i64 0)]⟩
abbrev ti2 : TI := ⟨.int .u8, (.sc (.int .u8)), 1, 1, [(.int .u8 0)]⟩
abbrev ti3 : TI := ⟨.str, (.sc .str), 1, 16, [(.string ⟨#[]⟩)]⟩
abbrev ti4 : TI := ⟨.int .u64, (.sc (.int .u64)), 1, 8, [(.int .u64 0)]⟩
abbrev ti5 : TI := ⟨.int .i32, (.sc (.int .i32)), 1, 4, [(.int .i32 0)]⟩
abbrev ti6 : TI := ⟨.struct [(0, 4), (1, 4), (2, 3), (3, 3)], (.agg [.bool, .bool, (.int .i64), (.int .i64)]), 4, 24, [(.bool .false), (.bool .false), (.int .i64 0), (.int .i64 0)]⟩
abbrev ti7 : TI := ⟨.other, (.sc .any), 1, 0, [(.tuple #[(.pointer none), (.int .i64 0)])]⟩
abbrev ti8 : TI := ⟨.struct [(0, 3), (1, 45)], (.agg [(.int .i64), .slc]), 2, 32, [(.int .i64 0), (.slice none 0 0)]⟩
noncomputable def tbl : Tbl := [⟨.other, (.sc .any), 1, 0, [(.tuple #[])]⟩, ti0, ti1, ti1, ⟨.bool, (.sc .bool), 1, 1, [(.bool .false)]⟩, ti2, ti2, ⟨.struct [(0, 2), (1, 3), (2, 4), (3, 6)], (.agg [(.int .i64), (.int .i64), .bool, (.int .u8)]), 4, 24, [(.int .i64 0), (.int .i64 0), (.bool .false), (.int .u8 0)]⟩, ⟨.struct [(0, 2), (1, 3), (2, 4), (3, 6)], (.agg [(.int .i64), (.int .i64), .bool, (.int .u8)]), 4, 24, [(.int .i64 0), (.int .i64 0), (.bool .false), (.int .u8 0)]⟩, ti3, ti3, ti3, ti4, ⟨.struct [(0, 9), (1, 12)], (.agg [.str, (.int .u64)]), 2, 24, [(.string ⟨#[]⟩), (.int .u64 0)]⟩, ⟨.struct [(0, 9), (1, 12)], (.agg [.str, (.int .u64)]), 2, 24, [(.string ⟨#[]⟩), (.int .u64 0)]⟩, ⟨.ptr 289, (.sc .ptr), 1, 8, [(.pointer none)]⟩, ⟨.ptr 292, (.sc .ptr), 1, 8, [(.pointer none)]⟩, ⟨.ptr 299, (.sc .ptr), 1, 8, [(.pointer none)]⟩, ⟨.struct [(0, 17)], (.agg [.ptr]), 1, 8, [(.pointer none)]⟩, ⟨.struct [(0, 17)], (.agg [.ptr]), 1, 8, [(.pointer none)]⟩, ⟨.other, (.sc .any), 1, 16, [.nilIface]⟩, ti5, ⟨.struct [(0, 3), (1, 3), (2, 3)], (.agg [(.int .i64), (.int .i64), (.int .i64)]), 3, 24, [(.int .i64 0), (.int .i64 0), (.int .i64 0)]⟩, ⟨.struct [(0, 3), (1, 3), (2, 3)], (.agg [(.int .i64), (.int .i64), (.int .i64)]), 3, 24, [(.int .i64 0), (.int .i64 0), (.int .i64 0)]⟩, ⟨.slice 3, (.sc .slc), 1, 24, [(.slice none 0 0)]⟩, ti0, ⟨.other, (.sc .any), 1, 0, [(.tuple #[(.agg #[(.int .i64 0), (.int .i64 0), (.int .i64 0)]), (.int .i64 0), (.slice none 0 0)])]⟩, ti0, ti0, ⟨.ptr 71, (.sc .ptr), 1, 8, [(.pointer none)]⟩, ti0, ⟨.ptr 33, (.sc .ptr), 1, 8, [(.pointer none)]⟩, ti6, ti6, ti0, ⟨.ptr 77, (.sc .ptr), 1, 8, [(.pointer none)]⟩, ti1, ti7, ti0, ti0, ⟨.ptr 89, (.sc .ptr), 1, 8, [(.pointer none)]⟩, ti7, ti0, ti0, ti0, ⟨.slice 5, (.sc .slc), 1, 24, [(.slice none 0 0)]⟩, ti0, ti0, ⟨.slice 54, (.sc .slc), 1, 24, [(.slice none 0 0)]⟩, ⟨.struct [(0, 3), (1, 3), (2, 23), (5, 3), (6, 24), (7, 48)], (.agg [(.int .i64), (.int .i64), (.int .i64), (.int .i64), (.int .i64), (.int .i64), .slc, .slc]), 8, 96, [(.int .i64 0), (.int .i64 0), (.int .i64 0), (.int .i64 0), (.int .i64 0), (.int .i64 0), (.slice none 0 0), (.slice none 0 0)]⟩, ⟨.struct [(0, 3), (1, 3), (2, 23), (5, 3), (6, 24), (7, 48)], (.agg [(.int .i64), (.int .i64), (.int .i64), (.int .i64), (.int .i64), (.int .i64), .slc, .slc]), 8, 96, [(.int .i64 0), (.int .i64 0), (.int .i64 0), (.int .i64 0), (.int .i64 0), (.int .i64 0), (.slice none 0 0), (.slice none 0 0)]⟩, ti0, ti0, ⟨.struct [(0, 9), (1, 3), (2, 3), (3, 24)], (.agg [.str, (.int .i64), (.int .i64), .slc]), 4, 56, [(.string ⟨#[]⟩), (.int .i64 0), (.int .i64 0), (.slice none 0 0)]⟩, ⟨.struct [(0, 9), (1, 3), (2, 3), (3, 24)], (.agg [.str, (.int .i64), (.int .i64), .slc]), 4, 56, [(.string ⟨#[]⟩), (.int .i64 0), (.int .i64 0), (.slice none 0 0)]⟩, ti0, ⟨.int .u32, (.sc (.int .u32)), 1, 4, [(.int .u32 0)]⟩, ti0, ⟨.slice 24, (.sc .slc), 1, 24, [(.slice none 0 0)]⟩, ti0, ti0, ti0, ⟨.ptr 123, (.sc .ptr), 1, 8, [(.pointer none)]⟩, ti0, ti0, ti0, ⟨.slice 9, (.sc .slc), 1, 24, [(.slice none 0 0)]⟩, ti0, ti0, ti0, ti6, ti6, ⟨.other, (.sc .any), 1, 0, [(.tuple #[(.slice none 0 0), (.bool .false)])]⟩, ti0, ti0, ⟨.array 64 62, (.arr .ptr), 64, 512, List.replicate 64 (.pointer none)⟩, ⟨.struct [(0, 50), (8, 29), (9, 3), (10, 75)], (.arr .any), 74, 624, [(.int .i64 0), (.int .i64 0), (.int .i64 0), (.int .i64 0), (.int .i64 0), (.int .i64 0), (.slice none 0 0), (.slice none 0 0), (.pointer none), (.int .i64 0)] ++ List.replicate 64 (.pointer none)⟩, ⟨.struct [(0, 50), (8, 29), (9, 3), (10, 75)], (.arr .any), 74, 624, [(.int .i64 0), (.int .i64 0), (.int .i64 0), (.int .i64 0), (.int .i64 0), (.int .i64 0), (.slice none 0 0), (.slice none 0 0), (.pointer none), (.int .i64 0)] ++ List.replicate 64 (.pointer none)⟩, ⟨.slice 45, (.sc .slc), 1, 24, [(.slice none 0 0)]⟩, ti0, ti0, ti0, ⟨.slice 101, (.sc .slc), 1, 24, [(.slice none 0 0)]⟩, ti0, ⟨.other, (.sc .any), 1, 0, [(.tuple #[(.agg #[(.int .i64 0), (.int .i64 0), (.int .i64 0), (.int .i64 0), (.int .i64 0), (.int .i64 0), (.slice none 0 0), (.slice none 0 0)]), (.int .i64 0)])]⟩, ti0, ⟨.ptr 131, (.sc .ptr), 1, 8, [(.pointer none)]⟩, ⟨.array 64 86, (.arr .ptr), 64, 512, List.replicate 64 (.pointer none)⟩, ⟨.struct [(0, 50), (8, 31), (9, 3), (10, 87)], (.arr .any), 74, 624, [(.int .i64 0), (.int .i64 0), (.int .i64 0), (.int .i64 0), (.int .i64 0), (.int .i64 0), (.slice none 0 0), (.slice none 0 0), (.pointer none), (.int .i64 0)] ++ List.replicate 64 (.pointer none)⟩, ⟨.struct [(0, 50), (8, 31), (9, 3), (10, 87)], (.arr .any), 74, 624, [(.int .i64 0), (.int .i64 0), (.int .i64 0), (.int .i64 0), (.int .i64 0), (.int .i64 0), (.slice none 0 0), (.slice none 0 0), (.pointer none), (.int .i64 0)] ++ List.replicate 64 (.pointer none)⟩, ti0, ti0, ti0, ti0, ti0, ti0, ti0, ⟨.other, (.sc .any), 1, 0, [(.tuple #[(.slice none 0 0), (.bool .false)])]⟩, ti0, ti0, ti8, ti8, ti0, ti0, ti0, ti0, ti0, ti0, ti0, ti0, ti0, ti0, ti0, ⟨.slice 116, (.sc .slc), 1, 24, [(.slice none 0 0)]⟩, ti0, ti8, ti8, ti0, ti0, ti0, ti0, ti0, ⟨.struct [(0, 29), (1, 3), (2, 78), (3, 3), (4, 78), (5, 4), (6, 4)], (.agg [.ptr, (.int .i64), .slc, (.int .i64), .slc, .bool, .bool]), 7, 80, [(.pointer none), (.int .i64 0), (.slice none 0 0), (.int .i64 0), (.slice none 0 0), (.bool .false), (.bool .false)]⟩, ⟨.struct [(0, 29), (1, 3), (2, 78), (3, 3), (4, 78), (5, 4), (6, 4)], (.agg [.ptr, (.int .i64), .slc, (.int .i64), .slc, .bool, .bool]), 7, 80, [(.pointer none), (.int .i64 0), (.slice none 0 0), (.int .i64 0), (.slice none 0 0), (.bool .false), (.bool .false)]⟩, ti0, ti0, ti0, ti0, ti0, ti0, ⟨.struct [(0, 3), (1, 31), (2, 78), (3, 3), (4, 4), (5, 78), (6, 4)], (.agg [(.int .i64), .ptr, .slc, (.int .i64), .bool, .slc, .bool]), 7, 88, [(.int .i64 0), (.pointer none), (.slice none 0 0), (.int .i64 0), (.bool .false), (.slice none 0 0), (.bool .false)]⟩, ⟨.struct [(0, 3), (1, 31), (2, 78), (3, 3), (4, 4), (5, 78), (6, 4)], (.agg [(.int .i64), .ptr, .slc, (.int .i64), .bool, .slc, .bool]), 7, 88, [(.int .i64 0), (.pointer none), (.slice none 0 0), (.int .i64 0), (.bool .false), (.slice none 0 0), (.bool .false)]⟩, ⟨.slice 133, (.sc .slc), 1, 24, [(.slice none 0 0)]⟩, ti8, ti0, ti0, ti0, ti0, ti0, ti0, ⟨.other, (.sc .any), 1, 0, [(.tuple #[(.int .i64 0), (.bool .false)])]⟩, ti0, ti0, ti0, ⟨.ptr 179, (.sc .ptr), 1, 8, [(.pointer none)]⟩, ti7, ti0, ti0, ⟨.struct [(0, 3), (1, 3), (2, 3), (3, 23), (6, 56), (7, 45)], (.agg [(.int .i64), (.int .i64), (.int .i64), (.int .i64), (.int .i64), (.int .i64), (.int .u32), .slc]), 8, 80, [(.int .i64 0), (.int .i64 0), (.int .i64 0), (.int .i64 0), (.int .i64 0), (.int .i64 0), (.int .u32 0), (.slice none 0 0)]⟩, ⟨.struct [(0, 3), (1, 3), (2, 3), (3, 23), (6, 56), (7, 45)], (.agg [(.int .i64), (.int .i64), (.int .i64), (.int .i64), (.int .i64), (.int .i64), (.int .u32), .slc]), 8, 80, [(.int .i64 0), (.int .i64 0), (.int .i64 0), (.int .i64 0), (.int .i64 0), (.int .i64 0), (.int .u32 0), (.slice none 0 0)]⟩, ti0, ti0, ti0, ti0, ti0, ti0, ti0, ti0, ti0, ti0, ti0, ⟨.slice 149, (.sc .slc), 1, 24, [(.slice none 0 0)]⟩, ti0, ti0, ti0, ti0, ti4, ti0, ti0, ti0, ti0, ⟨.array 64 4, (.arr .bool), 64, 64, List.replicate 64 (.bool .false)⟩, ti0, ⟨.other, (.sc .any), 1, 0, [(.tuple #[(.slice none 0 0), (.int .i64 0)])]⟩, ti0, ⟨.ptr 220, (.sc .ptr), 1, 8, [(.pointer none)]⟩, ti0, ti0, ⟨.struct [(0, 23), (3, 56), (4, 78)], (.agg [(.int .i64), (.int .i64), (.int .i64), (.int .u32), .slc]), 5, 56, [(.int .i64 0), (.int .i64 0), (.int .i64 0), (.int .u32 0), (.slice none 0 0)]⟩, ⟨.struct [(0, 23), (3, 56), (4, 78)], (.agg [(.int .i64), (.int .i64), (.int .i64), (.int .u32), .slc]), 5, 56, [(.int .i64 0), (.int .i64 0), (.int .i64 0), (.int .u32 0), (.slice none 0 0)]⟩, ⟨.cpx, (.sc (.cpx .f64)), 1, 16, [(.complex Go.FloatKind.f64 0 0)]⟩, ti0, ⟨.slice 186, (.sc .slc), 1, 24, [(.slice none 0 0)]⟩, ⟨.flt, (.sc (.flt .f64)), 1, 8, [(.float Go.FloatKind.f64 0)]⟩, ti0, ⟨.struct [(0, 3), (1, 183)], (.agg [(.int .i64), (.flt .f64)]), 2, 16, [(.int .i64 0), (.float Go.FloatKind.f64 0)]⟩, ⟨.struct [(0, 3), (1, 183)], (.agg [(.int .i64), (.flt .f64)]), 2, 16, [(.int .i64 0), (.float Go.FloatKind.f64 0)]⟩, ti0, ti0, ti0, ti0, ti0, ti0, ti0, ti0, ti0, ti0, ti0, ti0, ti0, ⟨.other, (.sc .any), 1, 0, [(.tuple #[(.agg #[(.int .i64 0), (.int .i64 0), (.int .i64 0), (.int .i64 0), (.int .i64 0), (.int .i64 0), (.int .u32 0), (.slice none 0 0)]), (.bool .false)])]⟩, ti0, ti0, ti0, ti0, ti0, ti0, ⟨.ptr 5, (.sc .ptr), 1, 8, [(.pointer none)]⟩, ti0, ti0, ti0, ti0, ti0, ti0, ti0, ⟨.array 255 5, (.arr (.int .u8)), 255, 255, List.replicate 255 (.int .u8 0)⟩, ti0, ⟨.array 256 3, (.arr (.int .i64)), 256, 2048, List.replicate 256 (.int .i64 0)⟩, ti0, ⟨.struct [(0, 215), (255, 217)], (.arr .any), 511, 2304, List.replicate 255 (.int .u8 0) ++ List.replicate 256 (.int .i64 0)⟩, ⟨.struct [(0, 215), (255, 217)], (.arr .any), 511, 2304, List.replicate 255 (.int .u8 0) ++ List.replicate 256 (.int .i64 0)⟩, ti0, ti0, ⟨.ptr 226, (.sc .ptr), 1, 8, [(.pointer none)]⟩, ti0, ⟨.struct [(0, 180), (1, 180), (2, 3), (3, 3), (4, 4)], (.agg [(.cpx .f64), (.cpx .f64), (.int .i64), (.int .i64), .bool]), 5, 56, [(.complex Go.FloatKind.f64 0 0), (.complex Go.FloatKind.f64 0 0), (.int .i64 0), (.int .i64 0), (.bool .false)]⟩, ⟨.struct [(0, 180), (1, 180), (2, 3), (3, 3), (4, 4)], (.agg [(.cpx .f64), (.cpx .f64), (.int .i64), (.int .i64), .bool]), 5, 56, [(.complex Go.FloatKind.f64 0 0), (.complex Go.FloatKind.f64 0 0), (.int .i64 0), (.int .i64 0), (.bool .false)]⟩, ti0, ti0, ⟨.ptr 269, (.sc .ptr), 1, 8, [(.pointer none)]⟩, ti0, ti0, ti0, ti0, ti0, ti0, ti1, ⟨.other, (.sc .any), 1, 0, [(.tuple #[(.int .i64 0), (.int .i64 0)])]⟩, ti0, ti0, ti0, ti0, ti0, ti0, ti4, ti0, ⟨.other, (.sc .any), 1, 0, [(.tuple #[(.int .i64 0), (.slice none 0 0), (.bool .false)])]⟩, ti0, ti0, ti0, ti0, ti0, ti0, ti0, ti0, ti0, ti0, ti0, ti0, ti0, ti0, ti0, ti0, ti0, ti0, ti0, ti0, ti0, ⟨.struct [(0, 244)], (.agg [(.int .u64)]), 1, 8, [(.int .u64 0)]⟩, ⟨.struct [(0, 244)], (.agg [(.int .u64)]), 1, 8, [(.int .u64 0)]⟩, ti4, ti0, ti0, ti0, ⟨.ptr 3, (.sc .ptr), 1, 8, [(.pointer none)]⟩, ti0, ti0, ti0, ti0, ti0, ti0, ti0, ⟨.ptr 270, (.sc .ptr), 1, 8, [(.pointer none)]⟩, ⟨.other, (.sc .any), 1, 0, [(.tuple #[(.int .i64 0), (.int .i64 0)])]⟩, ti0, ti0, ti0, ti0, ⟨.struct [(0, 17), (1, 17), (2, 17), (3, 9)], (.agg [.ptr, .ptr, .ptr, .str]), 4, 40, [(.pointer none), (.pointer none), (.pointer none), (.string ⟨#[]⟩)]⟩, ⟨.struct [(0, 17), (1, 17), (2, 17), (3, 9)], (.agg [.ptr, .ptr, .ptr, .str]), 4, 40, [(.pointer none), (.pointer none), (.pointer none), (.string ⟨#[]⟩)]⟩, ⟨.array 0 16, (.arr .ptr), 0, 0, []⟩, ⟨.struct [(0, 290)], (.agg []), 0, 0, []⟩, ⟨.struct [(0, 290)], (.agg []), 0, 0, []⟩, ti2, ti2, ti0, ti5, ti5, ⟨.struct [(0, 12), (1, 12), (2, 56), (3, 293), (4, 5), (5, 5), (6, 294), (7, 295), (8, 207), (9, 296), (10, 297)], (.agg [(.int .u64), (.int .u64), (.int .u32), (.int .u8), (.int .u8), (.int .u8), (.int .u8), .fn, .ptr, (.int .i32), (.int .i32)]), 11, 48, [(.int .u64 0), (.int .u64 0), (.int .u32 0), (.int .u8 0), (.int .u8 0), (.int .u8 0), (.int .u8 0), .nilFunc, (.pointer none), (.int .i32 0), (.int .i32 0)]⟩, ⟨.struct [(0, 12), (1, 12), (2, 56), (3, 293), (4, 5), (5, 5), (6, 294), (7, 295), (8, 207), (9, 296), (10, 297)], (.agg [(.int .u64), (.int .u64), (.int .u32), (.int .u8), (.int .u8), (.int .u8), (.int .u8), .fn, .ptr, (.int .i32), (.int .i32)]), 11, 48, [(.int .u64 0), (.int .u64 0), (.int .u32 0), (.int .u8 0), (.int .u8 0), (.int .u8 0), (.int .u8 0), .nilFunc, (.pointer none), (.int .i32 0), (.int .i32 0)]⟩, ⟨.other, (.sc .any), 1, 8, [(.pointer none)]⟩]
noncomputable def C : Ctx := { P := Tryz.prog, T := tbl, tup := [(0, []), (26, [(.agg [(.int .i64), (.int .i64), (.int .i64)]), (.sc (.int .i64)), (.sc .slc)]), (37, [(.sc .ptr), (.sc (.int .i64))]), (41, [(.sc .ptr), (.sc (.int .i64))]), (72, [(.sc .slc), (.sc .bool)]), (84, [(.agg [(.int .i64), (.int .i64), (.int .i64), (.int .i64), (.int .i64), (.int .i64), .slc, .slc]), (.sc (.int .i64))]), (97, [(.sc .slc), (.sc .bool)]), (140, [(.sc (.int .i64)), (.sc .bool)]), (145, [(.sc .ptr), (.sc (.int .i64))]), (173, [(.sc .slc), (.sc (.int .i64))]), (200, [(.agg [(.int .i64), (.int .i64), (.int .i64), (.int .i64), (.int .i64), (.int .i64), (.int .u32), .slc]), (.sc .bool)]), (237, [(.sc (.int .i64)), (.sc (.int .i64))]), (246, [(.sc (.int .i64)), (.sc .slc), (.sc .bool)]), (283, [(.sc (.int .i64)), (.sc (.int .i64))])], fns := [false, false] ++ List.replicate 248 true ++ List.replicate 21 false }
theorem C_tbl : (List.range C.T.length).map (Tbl.seen C.P) = C.T.map Tbl.told := by kernel_rfl
theorem C_mixed : C.P.follows .mixedOrders = true := by kernel_rfl
theorem C_fns : (C.P.funcs.toList.map fun f => !(f.name == "runtime.NumGoroutine") && f.body.isSome) = C.fns := by kernel_rfl
theorem C_ok : C.Ok := { tbl := C_tbl, mixed := C_mixed, fns := C_fns }
abbrev wellspringlaw29_StoreFormats_id : FuncId := 3
noncomputable def wellspringlaw29_StoreFormats_m (p_0 : Int × Int × Int) (extra_1 : Int) (cells_2 : Sl) (c_3 : Sl) (fuse_4 : Int) (R : Value → Heap → Prop) (h : Heap) : Prop :=
  RunsA Tryz.prog (Instr.box 23 (.agg #[(.int .i64 p_0.1), (.int .i64 p_0.2.1), (.int .i64 p_0.2.2)])) h fun a1 h1 =>
  Br (decide (((cells_2.len : Nat) : Int) > (70 : Int)))
  (CallM Tryz.prog 5 #[] (.one (.sc .bool)) h1 fun r2 h2 =>
  R (.bool r2) h2)
  (CallM Tryz.prog 6 #[(.slice c_3.ptr c_3.len c_3.cap)] (.many [(.agg [(.int .i64), (.int .i64), (.int .i64)]), (.sc (.int .i64)), (.sc .slc)]) h1 fun r3 h3 =>
  RunsA Tryz.prog (Instr.alloc 23 true (.tuple #[])) h3 fun a4 h4 =>
  Runs Tryz.prog (Instr.storeAt 23 (.pointer (some a4)) (.agg #[(.int .i64 r3.1.1), (.int .i64 r3.1.2.1), (.int .i64 r3.1.2.2)])) h4 fun _ h5 =>
  LoopM (σ := Int) (fun s5 K1 h6 =>
  Br (decide (s5 < (6 : Int)))
  (∃ x6 : Int × Int × Int, cellsAt h6 a4 0 [(.int .i64 x6.1), (.int .i64 x6.2.1), (.int .i64 x6.2.2)] ∧
  RunsA Tryz.prog (Instr.alloc 23 true (.tuple #[])) h6 fun a7 h7 =>
  Runs Tryz.prog (Instr.storeAt 23 (.pointer (some a7)) (.agg #[(.int .i64 x6.1), (.int .i64 x6.2.1), (.int .i64 x6.2.2)])) h7 fun _ h8 =>
  JoinM (σ := Int × Sl) (fun s15 h16 =>
  CallM Tryz.prog 8 #[] (.one (.sc .ptr)) h16 fun r16 h17 =>
  RunsA Tryz.prog (Instr.box 33 (.agg #[(.bool false), (.bool false), (.int .i64 (0 : Int)), (.int .i64 (0 : Int))])) h17 fun a17 h18 =>
  JoinM (σ := Unit) (fun _ h23 =>
  JoinM (σ := Option Addr × Int) (fun s26 h26 =>
  ∃ x27 : Int × Int × Int, cellsAt h26 a7 0 [(.int .i64 x27.1), (.int .i64 x27.2.1), (.int .i64 x27.2.2)] ∧
  CallM Tryz.prog 13 #[(.agg #[(.int .i64 x27.1), (.int .i64 x27.2.1), (.int .i64 x27.2.2)]), (.int .i64 s15.1), (.pointer (some a17)), (.slice s15.2.ptr s15.2.len s15.2.cap)] (.many [(.sc .ptr), (.sc (.int .i64))]) h26 fun r28 h27 =>
  Br (s26.2 != r28.2) (R (.bool false) h27) (CallM Tryz.prog 14 #[(.pointer s26.1), (.pointer r28.1)] (.one (.sc .bool)) h27 fun r29 h28 =>
  Br (!r29) (R (.bool false) h28) (Br (!((!(Option.isNone s26.1)) == (s26.2 == (0 : Int))))
  (R (.bool false) h28)
  (K1 (IntKind.wrap .i64 (s5 + (1 : Int))) h28))))
  (fun K4 =>
  ∃ x23 : Int × Int × Int, cellsAt h23 a7 0 [(.int .i64 x23.1), (.int .i64 x23.2.1), (.int .i64 x23.2.2)] ∧
  CallM Tryz.prog 12 #[(.slice s15.2.ptr s15.2.len s15.2.cap), (.int .i64 (71 : Int))] (.one (.sc .slc)) h23 fun r24 h24 =>
  (Held.ok [(a7, (.int .i64 x23.1)), (a7.add 1, (.int .i64 x23.2.1)), (a7.add 2, (.int .i64 x23.2.2))] h24) ∧
  CallM Tryz.prog 11 #[(.agg #[(.int .i64 x23.1), (.int .i64 x23.2.1), (.int .i64 x23.2.2)]), (.int .i64 s15.1), (.pointer r16), (.slice r24.ptr r24.len r24.cap)] (.many [(.sc .ptr), (.sc (.int .i64))]) h24 fun r25 h25 =>
  (Held.ok [] h25) ∧
  K4 (r25.1, r25.2) h25))
  (fun K3 =>
  Br (s5 == (5 : Int))
  (CallM Tryz.prog 7 #[(.int .i64 fuse_4), (.int .i64 (12 : Int))] (.one (.sc (.int .i64))) h18 fun r18 h19 =>
  CallM Tryz.prog 9 #[(.pointer r16), (.int .i64 r18)] (.many []) h19 fun _ h20 =>
  CallM Tryz.prog 7 #[(.int .i64 fuse_4), (.int .i64 (12 : Int))] (.one (.sc (.int .i64))) h20 fun r20 h21 =>
  CallM Tryz.prog 10 #[(.pointer (some a17)), (.int .i64 r20)] (.many []) h21 fun _ h22 =>
  K3 () h22)
  (K3 () h18)))
  (fun K2 =>
  Br (s5 == (1 : Int))
  (∃ x8 : Int × Int × Int, cellsAt h8 a1 0 [(.int .i64 x8.1), (.int .i64 x8.2.1), (.int .i64 x8.2.2)] ∧
  Runs Tryz.prog (Instr.storeAt 23 (.pointer (some a7)) (.agg #[(.int .i64 x8.1), (.int .i64 x8.2.1), (.int .i64 x8.2.2)])) h8 fun _ h9 =>
  K2 (r3.2.1, (⟨r3.2.2.ptr, r3.2.2.len, r3.2.2.cap⟩ : Sl)) h9)
  (Br (s5 == (2 : Int))
  (K2 (extra_1, (⟨r3.2.2.ptr, r3.2.2.len, r3.2.2.cap⟩ : Sl)) h8)
  (Br (s5 == (3 : Int))
  (K2 (r3.2.1, (⟨cells_2.ptr, cells_2.len, cells_2.cap⟩ : Sl)) h8)
  (Br (s5 == (4 : Int))
  (RunsR Tryz.prog (Builtin.append_ #[24, 24] 24 #[(.slice none 0 0), (.slice r3.2.2.ptr r3.2.2.len r3.2.2.cap)]) (.one (.sc .slc)) h8 fun v9 h10 =>
  CallM Tryz.prog 7 #[(.int .i64 fuse_4), (.int .i64 (3 : Int))] (.one (.sc (.int .i64))) h10 fun r10 h11 =>
  RunsR Tryz.prog (Instr.buildSlice 24 1 #[(0, (.int .i64 (IntKind.wrap .i64 ((1 : Int) + r10))))]) (.one (.sc .slc)) h11 fun v11 h12 =>
  RunsR Tryz.prog (Builtin.append_ #[24, 24] 24 #[(.slice v9.ptr v9.len v9.cap), (.slice v11.ptr v11.len v11.cap)]) (.one (.sc .slc)) h12 fun v12 h13 =>
  K2 (r3.2.1, (⟨v12.ptr, v12.len, v12.cap⟩ : Sl)) h13)
  (Br (s5 == (5 : Int))
  (RunsR Tryz.prog (Instr.buildSlice 24 2 #[(0, (.int .i64 (0 : Int))), (1, (.int .i64 (0 : Int)))]) (.one (.sc .slc)) h8 fun v13 h14 =>
  RunsR Tryz.prog (Builtin.append_ #[24, 24] 24 #[(.slice v13.ptr v13.len v13.cap), (.slice r3.2.2.ptr r3.2.2.len r3.2.2.cap)]) (.one (.sc .slc)) h14 fun v14 h15 =>
  K2 (r3.2.1, (⟨v14.ptr, v14.len, v14.cap⟩ : Sl)) h15)
  (K2 (r3.2.1, (⟨r3.2.2.ptr, r3.2.2.len, r3.2.2.cap⟩ : Sl)) h8)))))))
  (∃ x30 : Int × Int × Int, cellsAt h6 a4 0 [(.int .i64 x30.1), (.int .i64 x30.2.1), (.int .i64 x30.2.2)] ∧
  CallM Tryz.prog 11 #[(.agg #[(.int .i64 x30.1), (.int .i64 x30.2.1), (.int .i64 x30.2.2)]), (.int .i64 r3.2.1), (.pointer none), (.slice r3.2.2.ptr r3.2.2.len r3.2.2.cap)] (.many [(.sc .ptr), (.sc (.int .i64))]) h6 fun r31 h29 =>
  Br (r31.2 == (1 : Int)) (CallM Tryz.prog 5 #[] (.one (.sc .bool)) h29 fun r32 h30 =>
  R (.bool r32) h30) (R (.bool false) h29))) (0 : Int) h5)
theorem wellspringlaw29_StoreFormats_run (p_0 : Int × Int × Int) (extra_1 : Int) (cells_2 : Sl) (c_3 : Sl) (fuse_4 : Int) {R : Value → Heap → Prop} {h : Heap} (hm : wellspringlaw29_StoreFormats_m p_0 extra_1 cells_2 c_3 fuse_4 R h) : Meets Tryz.prog 3 #[(.agg #[(.int .i64 p_0.1), (.int .i64 p_0.2.1), (.int .i64 p_0.2.2)]), (.int .i64 extra_1), (.slice cells_2.ptr cells_2.len cells_2.cap), (.slice c_3.ptr c_3.len c_3.cap), (.int .i64 fuse_4)] h R := fn_tie C_ok Tryz.func3 (.two .n (.two .n (.two .n (.two .n (.two (.two .n (.inn (.loop [(15, (.sc (.int .i64)))] [(10, 11), (15, 25), (37, 117)] (.two .n (.two (.inn (.two .n (.two (.join [(17, (.sc (.int .i64))), (18, (.sc .slc))] [(17, 19), (44, 69)] .n) (.two .n (.two (.join [] [(72, 84)] .n) (.two (.join [(21, (.sc .ptr)), (22, (.sc (.int .i64)))] [(21, 23), (84, 93)] .n) .n)))))) .n))))) .n))))) hm
abbrev wellspringlaw29_wakes_id : FuncId := 5
noncomputable def wellspringlaw29_wakes_m  (R : Value → Heap → Prop) (h : Heap) : Prop :=
  CallM Tryz.prog 8 #[] (.one (.sc .ptr)) h fun r1 h1 =>
  RunsR Tryz.prog (Instr.buildSlice 24 1 #[(0, (.int .i64 (5 : Int)))]) (.one (.sc .slc)) h1 fun v2 h2 =>
  CallM Tryz.prog 11 #[(.agg #[(.int .i64 (1 : Int)), (.int .i64 (1 : Int)), (.int .i64 (1 : Int))]), (.int .i64 (0 : Int)), (.pointer r1), (.slice v2.ptr v2.len v2.cap)] (.many [(.sc .ptr), (.sc (.int .i64))]) h2 fun r3 h3 =>
  Br (r3.2 == (0 : Int)) (Br (!(Option.isNone r3.1)) (CallM Tryz.prog 26 #[(.pointer r3.1)] (.one (.sc .slc)) h3 fun r4 h4 =>
  Br (((r4.len : Nat) : Int) == (0 : Int)) (CallM Tryz.prog 22 #[(.pointer r3.1)] (.one (.sc .slc)) h4 fun r5 h5 =>
  R (.bool (((r5.len : Nat) : Int) == (1 : Int))) h5) (R (.bool false) h4)) (R (.bool false) h3)) (R (.bool false) h3)
theorem wellspringlaw29_wakes_run  {R : Value → Heap → Prop} {h : Heap} (hm : wellspringlaw29_wakes_m  R h) : Meets Tryz.prog 5 #[] h R := fn_tie C_ok Tryz.func5 .n hm
abbrev wellspringplay_Config_id : FuncId := 6
noncomputable def wellspringplay_Config_m (l_0 : Sl) (R : Value → Heap → Prop) (h : Heap) : Prop :=
  RunsA Tryz.prog (Instr.alloc 23 true (.tuple #[])) h fun a1 h1 =>
  CallM Tryz.prog 28 #[(.slice l_0.ptr l_0.len l_0.cap), (.int .i64 (0 : Int))] (.one (.sc (.int .i64))) h1 fun r2 h2 =>
  CallM Tryz.prog 28 #[(.slice l_0.ptr l_0.len l_0.cap), (.int .i64 (1 : Int))] (.one (.sc (.int .i64))) h2 fun r3 h3 =>
  CallM Tryz.prog 28 #[(.slice l_0.ptr l_0.len l_0.cap), (.int .i64 (2 : Int))] (.one (.sc (.int .i64))) h3 fun r4 h4 =>
  CallM Tryz.prog 27 #[(.int .i64 r2), (.int .i64 r3), (.int .i64 r4)] (.one (.agg [(.int .i64), (.int .i64), (.int .i64)])) h4 fun r5 h5 =>
  RunsA Tryz.prog (Instr.alloc 23 true (.tuple #[])) h5 fun a6 h6 =>
  Runs Tryz.prog (Instr.storeAt 23 (.pointer (some a6)) (.agg #[(.int .i64 r5.1), (.int .i64 r5.2.1), (.int .i64 r5.2.2)])) h6 fun _ h7 =>
  LoopM (σ := Sl × Int) (fun s7 K1 h8 =>
  CallM Tryz.prog 28 #[(.slice l_0.ptr l_0.len l_0.cap), (.int .i64 (4 : Int))] (.one (.sc (.int .i64))) h8 fun r8 h9 =>
  CallM Tryz.prog 7 #[(.int .i64 r8), (.int .i64 (4 : Int))] (.one (.sc (.int .i64))) h9 fun r9 h10 =>
  Br (decide (s7.2 < (IntKind.wrap .i64 ((2 : Int) + r9))))
  (CallM Tryz.prog 28 #[(.slice l_0.ptr l_0.len l_0.cap), (.int .i64 (IntKind.wrap .i64 ((5 : Int) + s7.2)))] (.one (.sc (.int .i64))) h10 fun r10 h11 =>
  CallM Tryz.prog 7 #[(.int .i64 r10), (.int .i64 (50 : Int))] (.one (.sc (.int .i64))) h11 fun r11 h12 =>
  RunsR Tryz.prog (Instr.buildSlice 24 1 #[(0, (.int .i64 (IntKind.wrap .i64 ((8 : Int) + r11))))]) (.one (.sc .slc)) h12 fun v12 h13 =>
  RunsR Tryz.prog (Builtin.append_ #[24, 24] 24 #[(.slice s7.1.ptr s7.1.len s7.1.cap), (.slice v12.ptr v12.len v12.cap)]) (.one (.sc .slc)) h13 fun v13 h14 =>
  K1 ((⟨v13.ptr, v13.len, v13.cap⟩ : Sl), IntKind.wrap .i64 (s7.2 + (1 : Int))) h14)
  (∃ x14 : Int × Int × Int, cellsAt h10 a6 0 [(.int .i64 x14.1), (.int .i64 x14.2.1), (.int .i64 x14.2.2)] ∧
  CallM Tryz.prog 28 #[(.slice l_0.ptr l_0.len l_0.cap), (.int .i64 (3 : Int))] (.one (.sc (.int .i64))) h10 fun r15 h15 =>
  (Held.ok [(a6, (.int .i64 x14.1)), (a6.add 1, (.int .i64 x14.2.1)), (a6.add 2, (.int .i64 x14.2.2))] h15) ∧
  CallM Tryz.prog 7 #[(.int .i64 r15), (.int .i64 (7 : Int))] (.one (.sc (.int .i64))) h15 fun r16 h16 =>
  (Held.ok [(a6, (.int .i64 x14.1)), (a6.add 1, (.int .i64 x14.2.1)), (a6.add 2, (.int .i64 x14.2.2))] h16) ∧
  Runs Tryz.prog (Instr.storeAt 23 (.pointer (some a1)) (.agg #[(.int .i64 x14.1), (.int .i64 x14.2.1), (.int .i64 x14.2.2)])) h16 fun _ h17 =>
  (Held.ok [] h17) ∧
  ∃ res17 : Int × Int × Int, cellsAt h17 a1 0 [(.int .i64 res17.1), (.int .i64 res17.2.1), (.int .i64 res17.2.2)] ∧
  R (.tuple #[(.agg #[(.int .i64 res17.1), (.int .i64 res17.2.1), (.int .i64 res17.2.2)]), (.int .i64 r16), (.slice s7.1.ptr s7.1.len s7.1.cap)]) h17)) ((⟨none, 0, 0⟩ : Sl), (0 : Int)) h7
theorem wellspringplay_Config_run (l_0 : Sl) {R : Value → Heap → Prop} {h : Heap} (hm : wellspringplay_Config_m l_0 R h) : Meets Tryz.prog 6 #[(.slice l_0.ptr l_0.len l_0.cap)] h R := fn_tie C_ok Tryz.func6 (.two .n (.two .n (.two .n (.two .n (.two (.two .n (.inn (.loop [(7, (.sc .slc)), (8, (.sc (.int .i64)))] [(7, 9), (16, 35)] .n))) .n))))) hm
abbrev wellspringkeep_Within_id : FuncId := 7
noncomputable def wellspringkeep_Within_m (x_0 : Int) (n_1 : Int) (R : Value → Heap → Prop) (h : Heap) : Prop :=
  (n_1 ≠ 0) ∧
  JoinM (σ := Int) (fun s1 h1 =>
  R (.int .i64 s1) h1)
  (fun K1 =>
  Br (decide ((Int.tmod x_0 n_1) < (0 : Int)))
  (K1 (IntKind.wrap .i64 ((Int.tmod x_0 n_1) + n_1)) h)
  (K1 (Int.tmod x_0 n_1) h))
theorem wellspringkeep_Within_run (x_0 : Int) (n_1 : Int) {R : Value → Heap → Prop} {h : Heap} (hm : wellspringkeep_Within_m x_0 n_1 R h) : Meets Tryz.prog 7 #[(.int .i64 x_0), (.int .i64 n_1)] h R := fn_tie C_ok Tryz.func7 (.two .n (.two .n (.two (.join [(0, (.sc (.int .i64)))] [(0, 1), (8, 13)] .n) .n))) hm
abbrev power_New_id : FuncId := 8
noncomputable def power_New_m  (R : Value → Heap → Prop) (h : Heap) : Prop :=
  RunsA Tryz.prog (Instr.box 71 (.agg #[(.bool false), (.bool false), (.int .i64 (0 : Int)), (.int .i64 (0 : Int))])) h fun a1 h1 =>
  R (.pointer (some a1)) h1
theorem power_New_run  {R : Value → Heap → Prop} {h : Heap} (hm : power_New_m  R h) : Meets Tryz.prog 8 #[] h R := fn_tie C_ok Tryz.func8 .n hm
abbrev power_Power_Arm_id : FuncId := 9
noncomputable def power_Power_Arm_m (p_0 : Option Addr) (n_1 : Int) (R : Value → Heap → Prop) (h : Heap) : Prop :=
  CallM Tryz.prog 29 #[(.pointer p_0)] (.one (.sc .bool)) h fun r1 h1 =>
  Br (!r1)
  (R (.tuple #[]) h1)
  (∃ a2 : Addr, (p_0 = some a2) ∧
  Runs Tryz.prog (Instr.storeAt 4 (.pointer (some (a2.add 1))) (.bool (decide (n_1 ≥ (0 : Int))))) h1 fun _ h2 =>
  ∃ a3 : Addr, (p_0 = some a3) ∧
  Runs Tryz.prog (Instr.storeAt 3 (.pointer (some (a3.add 2))) (.int .i64 (if (0 : Int) > n_1 then (0 : Int) else n_1))) h2 fun _ h3 =>
  R (.tuple #[]) h3)
theorem power_Power_Arm_run (p_0 : Option Addr) (n_1 : Int) {R : Value → Heap → Prop} {h : Heap} (hm : power_Power_Arm_m p_0 n_1 R h) : Meets Tryz.prog 9 #[(.pointer p_0), (.int .i64 n_1)] h R := fn_tie C_ok Tryz.func9 .n hm
abbrev wellspringref21_Power_Arm_id : FuncId := 10
noncomputable def wellspringref21_Power_Arm_m (p_0 : Option Addr) (n_1 : Int) (R : Value → Heap → Prop) (h : Heap) : Prop :=
  ∃ a1 : Addr, (p_0 = some a1) ∧
  ∃ x2 : Bool, cellOf h a1 = some (.bool x2) ∧
  Br (!x2)
  (∃ a3 : Addr, (p_0 = some a3) ∧
  Runs Tryz.prog (Instr.storeAt 4 (.pointer (some (a3.add 1))) (.bool (decide (n_1 ≥ (0 : Int))))) h fun _ h1 =>
  ∃ a4 : Addr, (p_0 = some a4) ∧
  Runs Tryz.prog (Instr.storeAt 3 (.pointer (some (a4.add 2))) (.int .i64 n_1)) h1 fun _ h2 =>
  R (.tuple #[]) h2)
  (R (.tuple #[]) h)
theorem wellspringref21_Power_Arm_run (p_0 : Option Addr) (n_1 : Int) {R : Value → Heap → Prop} {h : Heap} (hm : wellspringref21_Power_Arm_m p_0 n_1 R h) : Meets Tryz.prog 10 #[(.pointer p_0), (.int .i64 n_1)] h R := fn_tie C_ok Tryz.func10 .n hm
abbrev store_Format_id : FuncId := 11
noncomputable def store_Format_m (p_0 : Int × Int × Int) (extra_1 : Int) (pw_2 : Option Addr) (cells_3 : Sl) (R : Value → Heap → Prop) (h : Heap) : Prop :=
  RunsA Tryz.prog (Instr.box 23 (.agg #[(.int .i64 p_0.1), (.int .i64 p_0.2.1), (.int .i64 p_0.2.2)])) h fun a1 h1 =>
  CallM Tryz.prog 30 #[(.slice cells_3.ptr cells_3.len cells_3.cap)] (.many [(.sc .slc), (.sc .bool)]) h1 fun r2 h2 =>
  JoinM (σ := Unit) (fun _ h4 =>
  JoinM (σ := Option Addr) (fun s10 h7 =>
  LoopM (σ := Int) (fun s11 K3 h8 =>
  Br (decide (s11 < ((r2.1.len : Nat) : Int)))
  (∃ a12 : Addr, (r2.1.ptr = some a12 ∧ 0 ≤ s11 ∧ s11 < ((r2.1.len : Nat) : Int)) ∧
  ∃ x13 : Int, cellOf h8 (a12.add (s11.toNat * 1)) = some (.int .i64 x13) ∧
  ∃ a14 : Addr, (cells_3.ptr = some a14 ∧ 0 ≤ x13 ∧ x13 < ((cells_3.len : Nat) : Int)) ∧
  ∃ x15 : Int, cellOf h8 (a14.add (x13.toNat * 1)) = some (.int .i64 x15) ∧
  ∃ a16 : Addr, (s10 = some a16) ∧
  ∃ x17 : Int × Int × Int × Int × Int × Int × Sl × Sl, cellsAt h8 a16 0 [(.int .i64 x17.1), (.int .i64 x17.2.1), (.int .i64 x17.2.2.1), (.int .i64 x17.2.2.2.1), (.int .i64 x17.2.2.2.2.1), (.int .i64 x17.2.2.2.2.2.1), (.slice x17.2.2.2.2.2.2.1.ptr x17.2.2.2.2.2.2.1.len x17.2.2.2.2.2.2.1.cap), (.slice x17.2.2.2.2.2.2.2.ptr x17.2.2.2.2.2.2.2.len x17.2.2.2.2.2.2.2.cap)] ∧
  CallM Tryz.prog 33 #[(.agg #[(.int .i64 x17.1), (.int .i64 x17.2.1), (.int .i64 x17.2.2.1), (.int .i64 x17.2.2.2.1), (.int .i64 x17.2.2.2.2.1), (.int .i64 x17.2.2.2.2.2.1), (.slice x17.2.2.2.2.2.2.1.ptr x17.2.2.2.2.2.2.1.len x17.2.2.2.2.2.2.1.cap), (.slice x17.2.2.2.2.2.2.2.ptr x17.2.2.2.2.2.2.2.len x17.2.2.2.2.2.2.2.cap)])] (.one (.sc .slc)) h8 fun r18 h9 =>
  (Held.ok [(a14.add (x13.toNat * 1), (.int .i64 x15))] h9) ∧
  Br (decide (x15 < ((r18.len : Nat) : Int)))
  (R (.tuple #[(.pointer none), (.int .i64 (7 : Int))]) h9)
  (K3 (IntKind.wrap .i64 (s11 + (1 : Int))) h9))
  (LoopM (σ := Int) (fun s19 K4 h10 =>
  Br (decide (s19 < ((r2.1.len : Nat) : Int)))
  (∃ a20 : Addr, (r2.1.ptr = some a20 ∧ 0 ≤ s19 ∧ s19 < ((r2.1.len : Nat) : Int)) ∧
  ∃ x21 : Int, cellOf h10 (a20.add (s19.toNat * 1)) = some (.int .i64 x21) ∧
  ∃ a22 : Addr, (cells_3.ptr = some a22 ∧ 0 ≤ x21 ∧ x21 < ((cells_3.len : Nat) : Int)) ∧
  ∃ x23 : Int, cellOf h10 (a22.add (x21.toNat * 1)) = some (.int .i64 x23) ∧
  ∃ a24 : Addr, (s10 = some a24) ∧
  CallM Tryz.prog 34 #[(.int .i64 x23), (.pointer pw_2)] (.one (.sc .ptr)) h10 fun r25 h11 =>
  (Held.ok [] h11) ∧
  (0 ≤ x21 ∧ x21 < ((64 : Nat) : Int)) ∧
  Runs Tryz.prog (Instr.storeAt 62 (.pointer (some ((a24.add 10).add (x21.toNat * 1)))) (.pointer r25)) h11 fun _ h12 =>
  (Held.ok [] h12) ∧
  K4 (IntKind.wrap .i64 (s19 + (1 : Int))) h12)
  (∃ a26 : Addr, (s10 = some a26) ∧
  ∃ x27 : Int × Int × Int × Int × Int × Int × Sl × Sl, cellsAt h10 a26 0 [(.int .i64 x27.1), (.int .i64 x27.2.1), (.int .i64 x27.2.2.1), (.int .i64 x27.2.2.2.1), (.int .i64 x27.2.2.2.2.1), (.int .i64 x27.2.2.2.2.2.1), (.slice x27.2.2.2.2.2.2.1.ptr x27.2.2.2.2.2.2.1.len x27.2.2.2.2.2.2.1.cap), (.slice x27.2.2.2.2.2.2.2.ptr x27.2.2.2.2.2.2.2.len x27.2.2.2.2.2.2.2.cap)] ∧
  CallM Tryz.prog 36 #[(.agg #[(.int .i64 x27.1), (.int .i64 x27.2.1), (.int .i64 x27.2.2.1), (.int .i64 x27.2.2.2.1), (.int .i64 x27.2.2.2.2.1), (.int .i64 x27.2.2.2.2.2.1), (.slice x27.2.2.2.2.2.2.1.ptr x27.2.2.2.2.2.2.1.len x27.2.2.2.2.2.2.1.cap), (.slice x27.2.2.2.2.2.2.2.ptr x27.2.2.2.2.2.2.2.len x27.2.2.2.2.2.2.2.cap)]), (.slice r2.1.ptr r2.1.len r2.1.cap)] (.one (.sc .slc)) h10 fun r28 h13 =>
  CallM Tryz.prog 35 #[(.func (.func 24) #[(.pointer s10)] #[]), (.slice r28.ptr r28.len r28.cap)] (.one (.sc (.int .i64))) h13 fun r29 h14 =>
  Br (r29 != (0 : Int))
  (R (.tuple #[(.pointer none), (.int .i64 r29)]) h14)
  (R (.tuple #[(.pointer s10), (.int .i64 (0 : Int))]) h14))) (0 : Int) h8)) (0 : Int) h7)
  (fun K2 =>
  ∃ x6 : Int × Int × Int, cellsAt h4 a1 0 [(.int .i64 x6.1), (.int .i64 x6.2.1), (.int .i64 x6.2.2)] ∧
  CallM Tryz.prog 32 #[(.pointer pw_2)] (.one (.sc (.int .i64))) h4 fun r7 h5 =>
  (Held.ok [(a1, (.int .i64 x6.1)), (a1.add 1, (.int .i64 x6.2.1)), (a1.add 2, (.int .i64 x6.2.2))] h5) ∧
  ∃ v8 : Value, (AlwaysV Tryz.prog (Instr.build 77 #[(0, (.agg #[(.int .i64 (1 : Int)), (.int .i64 (0 : Int)), (.int .i64 x6.1), (.int .i64 x6.2.1), (.int .i64 x6.2.2), (.int .i64 extra_1), (.slice r2.1.ptr r2.1.len r2.1.cap), (.slice none 0 0)])), (1, (.pointer pw_2)), (2, (.int .i64 r7))]) v8) ∧
  RunsA Tryz.prog (Instr.box 77 v8) h5 fun a9 h6 =>
  (Held.ok [(a1, (.int .i64 x6.1)), (a1.add 1, (.int .i64 x6.2.1)), (a1.add 2, (.int .i64 x6.2.2))] h6) ∧
  K2 (some a9) h6))
  (fun K1 =>
  Br (!r2.2) (R (.tuple #[(.pointer none), (.int .i64 (1 : Int))]) h2) (∃ x3 : Int × Int × Int, cellsAt h2 a1 0 [(.int .i64 x3.1), (.int .i64 x3.2.1), (.int .i64 x3.2.2)] ∧
  CallM Tryz.prog 31 #[(.agg #[(.int .i64 x3.1), (.int .i64 x3.2.1), (.int .i64 x3.2.2)])] (.one (.sc .bool)) h2 fun r4 h3 =>
  Br (!r4) (R (.tuple #[(.pointer none), (.int .i64 (1 : Int))]) h3) (Br (decide (extra_1 < (0 : Int))) (R (.tuple #[(.pointer none), (.int .i64 (1 : Int))]) h3) (Br (decide (extra_1 > (16 : Int))) (R (.tuple #[(.pointer none), (.int .i64 (1 : Int))]) h3) (Br (Option.isNone pw_2)
  (R (.tuple #[(.pointer none), (.int .i64 (1 : Int))]) h3)
  (K1 () h3))))))
theorem store_Format_run (p_0 : Int × Int × Int) (extra_1 : Int) (pw_2 : Option Addr) (cells_3 : Sl) {R : Value → Heap → Prop} {h : Heap} (hm : store_Format_m p_0 extra_1 pw_2 cells_3 R h) : Meets Tryz.prog 11 #[(.agg #[(.int .i64 p_0.1), (.int .i64 p_0.2.1), (.int .i64 p_0.2.2)]), (.int .i64 extra_1), (.pointer pw_2), (.slice cells_3.ptr cells_3.len cells_3.cap)] h R := fn_tie C_ok Tryz.func11 (.two .n (.two .n (.two (.join [] [(8, 10), (23, 42)] .n) (.two (.join [(12, (.sc .ptr))] [(12, 13), (42, 51)] .n) (.two (.two .n (.inn (.loop [(53, (.sc (.int .i64)))] [(8, 10), (14, 15), (53, 69)] .n))) (.two (.two .n (.inn (.loop [(71, (.sc (.int .i64)))] [(16, 17), (71, 87)] .n))) .n)))))) hm
abbrev wellspringkeep_Spare_int_id : FuncId := 12
noncomputable def wellspringkeep_Spare_int_m (l_0 : Sl) (mark_1 : Int) (R : Value → Heap → Prop) (h : Heap) : Prop :=
  RunsR Tryz.prog (Instr.makeSlice 24 (.int .i64 ((l_0.len : Nat) : Int)) (.int .i64 (IntKind.wrap .i64 (((l_0.len : Nat) : Int) + (2 : Int))))) (.one (.sc .slc)) h fun v1 h1 =>
  RunsR Tryz.prog (Builtin.copy_ #[24, 24] 3 #[(.slice v1.ptr v1.len v1.cap), (.slice l_0.ptr l_0.len l_0.cap)]) (.one (.sc (.int .i64))) h1 fun _ h2 =>
  (0 ≤ ((v1.cap : Nat) : Int) ∧ ((v1.cap : Nat) : Int) ≤ ((v1.cap : Nat) : Int)) ∧
  LoopM (σ := Int) (fun s3 K1 h3 =>
  Br (decide (s3 < ((((v1.cap : Nat) : Int).toNat : Nat) : Int)))
  (∃ a4 : Addr, (v1.ptr = some a4 ∧ 0 ≤ s3 ∧ s3 < ((((v1.cap : Nat) : Int).toNat : Nat) : Int)) ∧
  Runs Tryz.prog (Instr.storeAt 3 (.pointer (some (a4.add (s3.toNat * 1)))) (.int .i64 mark_1)) h3 fun _ h4 =>
  K1 (IntKind.wrap .i64 (s3 + (1 : Int))) h4)
  (R (.slice v1.ptr v1.len v1.cap) h3)) ((l_0.len : Nat) : Int) h2
theorem wellspringkeep_Spare_int_run (l_0 : Sl) (mark_1 : Int) {R : Value → Heap → Prop} {h : Heap} (hm : wellspringkeep_Spare_int_m l_0 mark_1 R h) : Meets Tryz.prog 12 #[(.slice l_0.ptr l_0.len l_0.cap), (.int .i64 mark_1)] h R := fn_tie C_ok Tryz.func12 (.two .n (.two .n (.two .n (.two .n (.two (.two .n (.inn (.loop [(7, (.sc (.int .i64)))] [(7, 8), (23, 33)] .n))) .n))))) hm
abbrev wellspringref29_Format_id : FuncId := 13
noncomputable def wellspringref29_Format_m (p_0 : Int × Int × Int) (extra_1 : Int) (pw_2 : Option Addr) (cells_3 : Sl) (R : Value → Heap → Prop) (h : Heap) : Prop :=
  RunsA Tryz.prog (Instr.box 23 (.agg #[(.int .i64 p_0.1), (.int .i64 p_0.2.1), (.int .i64 p_0.2.2)])) h fun a1 h1 =>
  Br (Option.isNone pw_2)
  (R (.tuple #[(.pointer none), (.int .i64 (1 : Int))]) h1)
  (∃ x2 : Int × Int × Int, cellsAt h1 a1 0 [(.int .i64 x2.1), (.int .i64 x2.2.1), (.int .i64 x2.2.2)] ∧
  CallM Tryz.prog 37 #[(.agg #[(.int .i64 x2.1), (.int .i64 x2.2.1), (.int .i64 x2.2.2)]), (.int .i64 extra_1), (.slice cells_3.ptr cells_3.len cells_3.cap)] (.many [(.agg [(.int .i64), (.int .i64), (.int .i64), (.int .i64), (.int .i64), (.int .i64), .slc, .slc]), (.sc (.int .i64))]) h1 fun r3 h2 =>
  RunsA Tryz.prog (Instr.alloc 50 true (.tuple #[])) h2 fun a4 h3 =>
  Runs Tryz.prog (Instr.storeAt 50 (.pointer (some a4)) (.agg #[(.int .i64 r3.1.1), (.int .i64 r3.1.2.1), (.int .i64 r3.1.2.2.1), (.int .i64 r3.1.2.2.2.1), (.int .i64 r3.1.2.2.2.2.1), (.int .i64 r3.1.2.2.2.2.2.1), (.slice r3.1.2.2.2.2.2.2.1.ptr r3.1.2.2.2.2.2.2.1.len r3.1.2.2.2.2.2.2.1.cap), (.slice r3.1.2.2.2.2.2.2.2.ptr r3.1.2.2.2.2.2.2.2.len r3.1.2.2.2.2.2.2.2.cap)])) h3 fun _ h4 =>
  Br (r3.2 != (0 : Int))
  (R (.tuple #[(.pointer none), (.int .i64 r3.2)]) h4)
  (∃ x5 : Int × Int × Int × Int × Int × Int × Sl × Sl, cellsAt h4 a4 0 [(.int .i64 x5.1), (.int .i64 x5.2.1), (.int .i64 x5.2.2.1), (.int .i64 x5.2.2.2.1), (.int .i64 x5.2.2.2.2.1), (.int .i64 x5.2.2.2.2.2.1), (.slice x5.2.2.2.2.2.2.1.ptr x5.2.2.2.2.2.2.1.len x5.2.2.2.2.2.2.1.cap), (.slice x5.2.2.2.2.2.2.2.ptr x5.2.2.2.2.2.2.2.len x5.2.2.2.2.2.2.2.cap)] ∧
  ∃ a6 : Addr, (pw_2 = some a6) ∧
  ∃ x7 : Int, cellOf h4 (a6.add 3) = some (.int .i64 x7) ∧
  ∃ v8 : Value, (AlwaysV Tryz.prog (Instr.build 89 #[(0, (.agg #[(.int .i64 x5.1), (.int .i64 x5.2.1), (.int .i64 x5.2.2.1), (.int .i64 x5.2.2.2.1), (.int .i64 x5.2.2.2.2.1), (.int .i64 x5.2.2.2.2.2.1), (.slice x5.2.2.2.2.2.2.1.ptr x5.2.2.2.2.2.2.1.len x5.2.2.2.2.2.2.1.cap), (.slice x5.2.2.2.2.2.2.2.ptr x5.2.2.2.2.2.2.2.len x5.2.2.2.2.2.2.2.cap)])), (1, (.pointer pw_2)), (2, (.int .i64 x7))]) v8) ∧
  RunsA Tryz.prog (Instr.box 89 v8) h4 fun a9 h5 =>
  (Held.ok [(a6.add 3, (.int .i64 x7)), (a4, (.int .i64 x5.1)), (a4.add 1, (.int .i64 x5.2.1)), (a4.add 2, (.int .i64 x5.2.2.1)), (a4.add 3, (.int .i64 x5.2.2.2.1)), (a4.add 4, (.int .i64 x5.2.2.2.2.1)), (a4.add 5, (.int .i64 x5.2.2.2.2.2.1)), (a4.add 6, (.slice x5.2.2.2.2.2.2.1.ptr x5.2.2.2.2.2.2.1.len x5.2.2.2.2.2.2.1.cap)), (a4.add 7, (.slice x5.2.2.2.2.2.2.2.ptr x5.2.2.2.2.2.2.2.len x5.2.2.2.2.2.2.2.cap))] h5) ∧
  ∃ x10 : Sl, cellOf h5 (a4.add 6) = some (.slice x10.ptr x10.len x10.cap) ∧
  LoopM (σ := Int) (fun s11 K1 h6 =>
  Br (decide (s11 < ((x10.len : Nat) : Int)))
  (∃ a12 : Addr, (x10.ptr = some a12 ∧ 0 ≤ s11 ∧ s11 < ((x10.len : Nat) : Int)) ∧
  ∃ x13 : Int, cellOf h6 (a12.add (s11.toNat * 1)) = some (.int .i64 x13) ∧
  ∃ a14 : Addr, (cells_3.ptr = some a14 ∧ 0 ≤ x13 ∧ x13 < ((cells_3.len : Nat) : Int)) ∧
  ∃ x15 : Int, cellOf h6 (a14.add (x13.toNat * 1)) = some (.int .i64 x15) ∧
  ∃ a16 : Addr, (some a9 = some a16) ∧
  CallM Tryz.prog 38 #[(.int .i64 x15), (.pointer pw_2)] (.one (.sc .ptr)) h6 fun r17 h7 =>
  (Held.ok [] h7) ∧
  (0 ≤ x13 ∧ x13 < ((64 : Nat) : Int)) ∧
  Runs Tryz.prog (Instr.storeAt 86 (.pointer (some ((a16.add 10).add (x13.toNat * 1)))) (.pointer r17)) h7 fun _ h8 =>
  (Held.ok [] h8) ∧
  K1 (IntKind.wrap .i64 (s11 + (1 : Int))) h8)
  (∃ x18 : Int × Int × Int × Int × Int × Int × Sl × Sl, cellsAt h6 a4 0 [(.int .i64 x18.1), (.int .i64 x18.2.1), (.int .i64 x18.2.2.1), (.int .i64 x18.2.2.2.1), (.int .i64 x18.2.2.2.2.1), (.int .i64 x18.2.2.2.2.2.1), (.slice x18.2.2.2.2.2.2.1.ptr x18.2.2.2.2.2.2.1.len x18.2.2.2.2.2.2.1.cap), (.slice x18.2.2.2.2.2.2.2.ptr x18.2.2.2.2.2.2.2.len x18.2.2.2.2.2.2.2.cap)] ∧
  ∃ x19 : Sl, cellOf h6 (a4.add 6) = some (.slice x19.ptr x19.len x19.cap) ∧
  CallM Tryz.prog 39 #[(.pointer (some a9)), (.agg #[(.int .i64 x18.1), (.int .i64 x18.2.1), (.int .i64 x18.2.2.1), (.int .i64 x18.2.2.2.1), (.int .i64 x18.2.2.2.2.1), (.int .i64 x18.2.2.2.2.2.1), (.slice x18.2.2.2.2.2.2.1.ptr x18.2.2.2.2.2.2.1.len x18.2.2.2.2.2.2.1.cap), (.slice x18.2.2.2.2.2.2.2.ptr x18.2.2.2.2.2.2.2.len x18.2.2.2.2.2.2.2.cap)]), (.slice x19.ptr x19.len x19.cap)] (.one (.sc (.int .i64))) h6 fun r20 h9 =>
  Br (r20 != (0 : Int))
  (R (.tuple #[(.pointer none), (.int .i64 (14 : Int))]) h9)
  (R (.tuple #[(.pointer (some a9)), (.int .i64 (0 : Int))]) h9))) (0 : Int) h5))
theorem wellspringref29_Format_run (p_0 : Int × Int × Int) (extra_1 : Int) (pw_2 : Option Addr) (cells_3 : Sl) {R : Value → Heap → Prop} {h : Heap} (hm : wellspringref29_Format_m p_0 extra_1 pw_2 cells_3 R h) : Meets Tryz.prog 13 #[(.agg #[(.int .i64 p_0.1), (.int .i64 p_0.2.1), (.int .i64 p_0.2.2)]), (.int .i64 extra_1), (.pointer pw_2), (.slice cells_3.ptr cells_3.len cells_3.cap)] h R := fn_tie C_ok Tryz.func13 (.two .n (.two .n (.two .n (.two .n (.two .n (.two (.two .n (.inn (.loop [(38, (.sc (.int .i64)))] [(14, 15), (38, 54)] .n))) .n)))))) hm
abbrev wellspringlaw29_Same_id : FuncId := 14
noncomputable def wellspringlaw29_Same_m (s_0 : Option Addr) (r_1 : Option Addr) (R : Value → Heap → Prop) (h : Heap) : Prop :=
  Br (!((!(Option.isNone s_0)) == (!(Option.isNone r_1))))
  (R (.bool false) h)
  (Br (Option.isNone s_0)
  (R (.bool true) h)
  (JoinM (σ := Unit) (fun _ h13 =>
  LoopM (σ := Int) (fun s24 K2 h14 =>
  Br (decide (s24 < (64 : Int)))
  (∃ a25 : Addr, (r_1 = some a25) ∧
  (0 ≤ s24 ∧ s24 < ((64 : Nat) : Int)) ∧
  ∃ x26 : Option Addr, cellOf h14 ((a25.add 10).add (s24.toNat * 1)) = some (.pointer x26) ∧
  CallM Tryz.prog 24 #[(.pointer s_0), (.int .i64 s24)] (.one (.sc .ptr)) h14 fun r27 h15 =>
  (Held.ok [((a25.add 10).add (s24.toNat * 1), (.pointer x26))] h15) ∧
  CallM Tryz.prog 46 #[(.pointer r27), (.pointer x26)] (.one (.sc .bool)) h15 fun r28 h16 =>
  (Held.ok [] h16) ∧
  Br (!r28)
  (R (.bool false) h16)
  (K2 (IntKind.wrap .i64 (s24 + (1 : Int))) h16))
  (CallM Tryz.prog 24 #[(.pointer s_0), (.int .i64 (-1 : Int))] (.one (.sc .ptr)) h14 fun r29 h17 =>
  Br (Option.isNone r29) (CallM Tryz.prog 24 #[(.pointer s_0), (.int .i64 (64 : Int))] (.one (.sc .ptr)) h17 fun r30 h18 =>
  R (.bool (Option.isNone r30)) h18) (R (.bool false) h17))) (0 : Int) h13)
  (fun K1 =>
  ∃ a1 : Addr, (r_1 = some a1) ∧
  ∃ x2 : Int × Int × Int × Int × Int × Int × Sl × Sl, cellsAt h a1 0 [(.int .i64 x2.1), (.int .i64 x2.2.1), (.int .i64 x2.2.2.1), (.int .i64 x2.2.2.2.1), (.int .i64 x2.2.2.2.2.1), (.int .i64 x2.2.2.2.2.2.1), (.slice x2.2.2.2.2.2.2.1.ptr x2.2.2.2.2.2.2.1.len x2.2.2.2.2.2.2.1.cap), (.slice x2.2.2.2.2.2.2.2.ptr x2.2.2.2.2.2.2.2.len x2.2.2.2.2.2.2.2.cap)] ∧
  CallM Tryz.prog 17 #[(.pointer s_0)] (.one (.agg [(.int .i64), (.int .i64), (.int .i64), (.int .i64), (.int .i64), (.int .i64), .slc, .slc])) h fun r3 h1 =>
  (Held.ok [(a1, (.int .i64 x2.1)), (a1.add 1, (.int .i64 x2.2.1)), (a1.add 2, (.int .i64 x2.2.2.1)), (a1.add 3, (.int .i64 x2.2.2.2.1)), (a1.add 4, (.int .i64 x2.2.2.2.2.1)), (a1.add 5, (.int .i64 x2.2.2.2.2.2.1)), (a1.add 6, (.slice x2.2.2.2.2.2.2.1.ptr x2.2.2.2.2.2.2.1.len x2.2.2.2.2.2.2.1.cap)), (a1.add 7, (.slice x2.2.2.2.2.2.2.2.ptr x2.2.2.2.2.2.2.2.len x2.2.2.2.2.2.2.2.cap))] h1) ∧
  CallM Tryz.prog 40 #[(.agg #[(.int .i64 r3.1), (.int .i64 r3.2.1), (.int .i64 r3.2.2.1), (.int .i64 r3.2.2.2.1), (.int .i64 r3.2.2.2.2.1), (.int .i64 r3.2.2.2.2.2.1), (.slice r3.2.2.2.2.2.2.1.ptr r3.2.2.2.2.2.2.1.len r3.2.2.2.2.2.2.1.cap), (.slice r3.2.2.2.2.2.2.2.ptr r3.2.2.2.2.2.2.2.len r3.2.2.2.2.2.2.2.cap)]), (.agg #[(.int .i64 x2.1), (.int .i64 x2.2.1), (.int .i64 x2.2.2.1), (.int .i64 x2.2.2.2.1), (.int .i64 x2.2.2.2.2.1), (.int .i64 x2.2.2.2.2.2.1), (.slice x2.2.2.2.2.2.2.1.ptr x2.2.2.2.2.2.2.1.len x2.2.2.2.2.2.2.1.cap), (.slice x2.2.2.2.2.2.2.2.ptr x2.2.2.2.2.2.2.2.len x2.2.2.2.2.2.2.2.cap)])] (.one (.sc .bool)) h1 fun r4 h2 =>
  (Held.ok [] h2) ∧
  Br (!r4) ((Held.ok [] h2) ∧
  (Held.ok [] h2) ∧
  (Held.ok [] h2) ∧
  (Held.ok [] h2) ∧
  (Held.ok [] h2) ∧
  (Held.ok [] h2) ∧
  (Held.ok [] h2) ∧
  (Held.ok [] h2) ∧
  (Held.ok [] h2) ∧
  (Held.ok [] h2) ∧
  R (.bool false) h2) (CallM Tryz.prog 22 #[(.pointer s_0)] (.one (.sc .slc)) h2 fun r5 h3 =>
  (Held.ok [] h3) ∧
  CallM Tryz.prog 42 #[(.pointer r_1)] (.one (.sc .slc)) h3 fun r6 h4 =>
  (Held.ok [] h4) ∧
  CallM Tryz.prog 41 #[(.slice r5.ptr r5.len r5.cap), (.slice r6.ptr r6.len r6.cap)] (.one (.sc .bool)) h4 fun r7 h5 =>
  (Held.ok [] h5) ∧
  Br (!r7) ((Held.ok [] h5) ∧
  (Held.ok [] h5) ∧
  (Held.ok [] h5) ∧
  (Held.ok [] h5) ∧
  (Held.ok [] h5) ∧
  (Held.ok [] h5) ∧
  (Held.ok [] h5) ∧
  R (.bool false) h5) (CallM Tryz.prog 43 #[(.pointer s_0)] (.one (.sc .bool)) h5 fun r8 h6 =>
  (Held.ok [] h6) ∧
  CallM Tryz.prog 44 #[(.pointer r_1)] (.one (.sc .bool)) h6 fun r9 h7 =>
  (Held.ok [] h7) ∧
  Br (!(r8 == r9)) ((Held.ok [] h7) ∧
  (Held.ok [] h7) ∧
  (Held.ok [] h7) ∧
  (Held.ok [] h7) ∧
  (Held.ok [] h7) ∧
  R (.bool false) h7) (CallM Tryz.prog 45 #[(.pointer s_0)] (.one (.sc .ptr)) h7 fun r10 h8 =>
  (Held.ok [] h8) ∧
  Br (Option.isNone r10) ((Held.ok [] h8) ∧
  (Held.ok [] h8) ∧
  (Held.ok [] h8) ∧
  (Held.ok [] h8) ∧
  R (.bool false) h8) (∃ a11 : Addr, (r_1 = some a11) ∧
  ∃ x12 : Option Addr, cellOf h8 (a11.add 8) = some (.pointer x12) ∧
  ∃ a13 : Addr, (x12 = some a13) ∧
  ∃ x14 : Bool, cellOf h8 a13 = some (.bool x14) ∧
  CallM Tryz.prog 45 #[(.pointer s_0)] (.one (.sc .ptr)) h8 fun r15 h9 =>
  (Held.ok [(a13, (.bool x14)), (a11.add 8, (.pointer x12))] h9) ∧
  CallM Tryz.prog 29 #[(.pointer r15)] (.one (.sc .bool)) h9 fun r16 h10 =>
  (Held.ok [(a13, (.bool x14)), (a11.add 8, (.pointer x12))] h10) ∧
  Br (r16 == x14) ((Held.ok [(a13, (.bool x14)), (a11.add 8, (.pointer x12))] h10) ∧
  (Held.ok [(a13, (.bool x14)), (a11.add 8, (.pointer x12))] h10) ∧
  R (.bool false) h10) (∃ a17 : Addr, (r_1 = some a17) ∧
  ∃ x18 : Option Addr, cellOf h10 (a17.add 8) = some (.pointer x18) ∧
  ∃ a19 : Addr, (x18 = some a19) ∧
  ∃ x20 : Int, cellOf h10 (a19.add 3) = some (.int .i64 x20) ∧
  CallM Tryz.prog 45 #[(.pointer s_0)] (.one (.sc .ptr)) h10 fun r21 h11 =>
  (Held.ok [(a19.add 3, (.int .i64 x20)), (a17.add 8, (.pointer x18)), (a13, (.bool x14)), (a11.add 8, (.pointer x12))] h11) ∧
  CallM Tryz.prog 32 #[(.pointer r21)] (.one (.sc (.int .i64))) h11 fun r22 h12 =>
  (Held.ok [(a19.add 3, (.int .i64 x20)), (a17.add 8, (.pointer x18)), (a13, (.bool x14)), (a11.add 8, (.pointer x12))] h12) ∧
  Br (r22 != x20)
  (R (.bool false) h12)
  (K1 () h12)))))))))
theorem wellspringlaw29_Same_run (s_0 : Option Addr) (r_1 : Option Addr) {R : Value → Heap → Prop} {h : Heap} (hm : wellspringlaw29_Same_m s_0 r_1 R h) : Meets Tryz.prog 14 #[(.pointer s_0), (.pointer r_1)] h R := fn_tie C_ok Tryz.func14 (.two .n (.two .n (.two .n (.two (.join [] [(4, 5), (13, 67)] .n) (.two (.two .n (.inn (.loop [(67, (.sc (.int .i64)))] [(4, 6), (67, 82)] .n))) .n))))) hm
abbrev store_Store_Manifest_id : FuncId := 17
noncomputable def store_Store_Manifest_m (s_0 : Option Addr) (R : Value → Heap → Prop) (h : Heap) : Prop :=
  RunsA Tryz.prog (Instr.alloc 50 true (.tuple #[])) h fun a1 h1 =>
  Br (Option.isNone s_0)
  (Runs Tryz.prog (Instr.storeAt 50 (.pointer (some a1)) (.agg #[(.int .i64 (0 : Int)), (.int .i64 (0 : Int)), (.int .i64 (0 : Int)), (.int .i64 (0 : Int)), (.int .i64 (0 : Int)), (.int .i64 (0 : Int)), (.slice none 0 0), (.slice none 0 0)])) h1 fun _ h2 =>
  ∃ res2 : Int × Int × Int × Int × Int × Int × Sl × Sl, cellsAt h2 a1 0 [(.int .i64 res2.1), (.int .i64 res2.2.1), (.int .i64 res2.2.2.1), (.int .i64 res2.2.2.2.1), (.int .i64 res2.2.2.2.2.1), (.int .i64 res2.2.2.2.2.2.1), (.slice res2.2.2.2.2.2.2.1.ptr res2.2.2.2.2.2.2.1.len res2.2.2.2.2.2.2.1.cap), (.slice res2.2.2.2.2.2.2.2.ptr res2.2.2.2.2.2.2.2.len res2.2.2.2.2.2.2.2.cap)] ∧
  R (.agg #[(.int .i64 res2.1), (.int .i64 res2.2.1), (.int .i64 res2.2.2.1), (.int .i64 res2.2.2.2.1), (.int .i64 res2.2.2.2.2.1), (.int .i64 res2.2.2.2.2.2.1), (.slice res2.2.2.2.2.2.2.1.ptr res2.2.2.2.2.2.2.1.len res2.2.2.2.2.2.2.1.cap), (.slice res2.2.2.2.2.2.2.2.ptr res2.2.2.2.2.2.2.2.len res2.2.2.2.2.2.2.2.cap)]) h2)
  (∃ a3 : Addr, (s_0 = some a3) ∧
  ∃ x4 : Int × Int × Int × Int × Int × Int × Sl × Sl, cellsAt h1 a3 0 [(.int .i64 x4.1), (.int .i64 x4.2.1), (.int .i64 x4.2.2.1), (.int .i64 x4.2.2.2.1), (.int .i64 x4.2.2.2.2.1), (.int .i64 x4.2.2.2.2.2.1), (.slice x4.2.2.2.2.2.2.1.ptr x4.2.2.2.2.2.2.1.len x4.2.2.2.2.2.2.1.cap), (.slice x4.2.2.2.2.2.2.2.ptr x4.2.2.2.2.2.2.2.len x4.2.2.2.2.2.2.2.cap)] ∧
  CallM Tryz.prog 56 #[(.agg #[(.int .i64 x4.1), (.int .i64 x4.2.1), (.int .i64 x4.2.2.1), (.int .i64 x4.2.2.2.1), (.int .i64 x4.2.2.2.2.1), (.int .i64 x4.2.2.2.2.2.1), (.slice x4.2.2.2.2.2.2.1.ptr x4.2.2.2.2.2.2.1.len x4.2.2.2.2.2.2.1.cap), (.slice x4.2.2.2.2.2.2.2.ptr x4.2.2.2.2.2.2.2.len x4.2.2.2.2.2.2.2.cap)])] (.one (.agg [(.int .i64), (.int .i64), (.int .i64), (.int .i64), (.int .i64), (.int .i64), .slc, .slc])) h1 fun r5 h3 =>
  Runs Tryz.prog (Instr.storeAt 50 (.pointer (some a1)) (.agg #[(.int .i64 r5.1), (.int .i64 r5.2.1), (.int .i64 r5.2.2.1), (.int .i64 r5.2.2.2.1), (.int .i64 r5.2.2.2.2.1), (.int .i64 r5.2.2.2.2.2.1), (.slice r5.2.2.2.2.2.2.1.ptr r5.2.2.2.2.2.2.1.len r5.2.2.2.2.2.2.1.cap), (.slice r5.2.2.2.2.2.2.2.ptr r5.2.2.2.2.2.2.2.len r5.2.2.2.2.2.2.2.cap)])) h3 fun _ h4 =>
  ∃ res6 : Int × Int × Int × Int × Int × Int × Sl × Sl, cellsAt h4 a1 0 [(.int .i64 res6.1), (.int .i64 res6.2.1), (.int .i64 res6.2.2.1), (.int .i64 res6.2.2.2.1), (.int .i64 res6.2.2.2.2.1), (.int .i64 res6.2.2.2.2.2.1), (.slice res6.2.2.2.2.2.2.1.ptr res6.2.2.2.2.2.2.1.len res6.2.2.2.2.2.2.1.cap), (.slice res6.2.2.2.2.2.2.2.ptr res6.2.2.2.2.2.2.2.len res6.2.2.2.2.2.2.2.cap)] ∧
  R (.agg #[(.int .i64 res6.1), (.int .i64 res6.2.1), (.int .i64 res6.2.2.1), (.int .i64 res6.2.2.2.1), (.int .i64 res6.2.2.2.2.1), (.int .i64 res6.2.2.2.2.2.1), (.slice res6.2.2.2.2.2.2.1.ptr res6.2.2.2.2.2.2.1.len res6.2.2.2.2.2.2.1.cap), (.slice res6.2.2.2.2.2.2.2.ptr res6.2.2.2.2.2.2.2.len res6.2.2.2.2.2.2.2.cap)]) h4)
theorem store_Store_Manifest_run (s_0 : Option Addr) {R : Value → Heap → Prop} {h : Heap} (hm : store_Store_Manifest_m s_0 R h) : Meets Tryz.prog 17 #[(.pointer s_0)] h R := fn_tie C_ok Tryz.func17 .n hm
abbrev mani_May_id : FuncId := 18
noncomputable def mani_May_m (m_0 : Int × Int × Int × Int × Int × Int × Sl × Sl) (R : Value → Heap → Prop) (h : Heap) : Prop :=
  RunsA Tryz.prog (Instr.box 50 (.agg #[(.int .i64 m_0.1), (.int .i64 m_0.2.1), (.int .i64 m_0.2.2.1), (.int .i64 m_0.2.2.2.1), (.int .i64 m_0.2.2.2.2.1), (.int .i64 m_0.2.2.2.2.2.1), (.slice m_0.2.2.2.2.2.2.1.ptr m_0.2.2.2.2.2.2.1.len m_0.2.2.2.2.2.2.1.cap), (.slice m_0.2.2.2.2.2.2.2.ptr m_0.2.2.2.2.2.2.2.len m_0.2.2.2.2.2.2.2.cap)])) h fun a1 h1 =>
  JoinM (σ := Unit) (fun _ h6 =>
  JoinM (σ := Unit) (fun _ h8 =>
  ∃ x15 : Sl, cellOf h8 (a1.add 7) = some (.slice x15.ptr x15.len x15.cap) ∧
  LoopM (σ := Int) (fun s16 K3 h9 =>
  Br (decide (s16 < ((x15.len : Nat) : Int)))
  (∃ a17 : Addr, (x15.ptr = some a17 ∧ 0 ≤ s16 ∧ s16 < ((x15.len : Nat) : Int)) ∧
  ∃ x18 : ByteArray × Int × Int × Sl, cellsAt h9 (a17.add (s16.toNat * 4)) 0 [(.string x18.1), (.int .i64 x18.2.1), (.int .i64 x18.2.2.1), (.slice x18.2.2.2.ptr x18.2.2.2.len x18.2.2.2.cap)] ∧
  RunsA Tryz.prog (Instr.alloc 54 true (.tuple #[])) h9 fun a19 h10 =>
  Runs Tryz.prog (Instr.storeAt 54 (.pointer (some a19)) (.agg #[(.string x18.1), (.int .i64 x18.2.1), (.int .i64 x18.2.2.1), (.slice x18.2.2.2.ptr x18.2.2.2.len x18.2.2.2.cap)])) h10 fun _ h11 =>
  JoinM (σ := Unit) (fun _ h13 =>
  ∃ x28 : Sl, cellOf h13 (a1.add 7) = some (.slice x28.ptr x28.len x28.cap) ∧
  (0 ≤ s16 ∧ s16 ≤ ((x28.cap : Nat) : Int)) ∧
  CallM Tryz.prog 60 #[(.slice x28.ptr s16.toNat x28.cap), (.func (.func 61) #[] #[(.pointer (some a19))])] (.one (.sc .bool)) h13 fun r29 h14 =>
  Br r29
  (R (.bool false) h14)
  (K3 (IntKind.wrap .i64 (s16 + (1 : Int))) h14))
  (fun K4 =>
  ∃ x20 : Int × Int × Int × Int × Int × Int × Sl × Sl, cellsAt h11 a1 0 [(.int .i64 x20.1), (.int .i64 x20.2.1), (.int .i64 x20.2.2.1), (.int .i64 x20.2.2.2.1), (.int .i64 x20.2.2.2.2.1), (.int .i64 x20.2.2.2.2.2.1), (.slice x20.2.2.2.2.2.2.1.ptr x20.2.2.2.2.2.2.1.len x20.2.2.2.2.2.2.1.cap), (.slice x20.2.2.2.2.2.2.2.ptr x20.2.2.2.2.2.2.2.len x20.2.2.2.2.2.2.2.cap)] ∧
  ∃ x21 : ByteArray × Int × Int × Sl, cellsAt h11 a19 0 [(.string x21.1), (.int .i64 x21.2.1), (.int .i64 x21.2.2.1), (.slice x21.2.2.2.ptr x21.2.2.2.len x21.2.2.2.cap)] ∧
  CallM Tryz.prog 59 #[(.agg #[(.int .i64 x20.1), (.int .i64 x20.2.1), (.int .i64 x20.2.2.1), (.int .i64 x20.2.2.2.1), (.int .i64 x20.2.2.2.2.1), (.int .i64 x20.2.2.2.2.2.1), (.slice x20.2.2.2.2.2.2.1.ptr x20.2.2.2.2.2.2.1.len x20.2.2.2.2.2.2.1.cap), (.slice x20.2.2.2.2.2.2.2.ptr x20.2.2.2.2.2.2.2.len x20.2.2.2.2.2.2.2.cap)]), (.agg #[(.string x21.1), (.int .i64 x21.2.1), (.int .i64 x21.2.2.1), (.slice x21.2.2.2.ptr x21.2.2.2.len x21.2.2.2.cap)])] (.one (.sc .bool)) h11 fun r22 h12 =>
  (Held.ok [] h12) ∧
  Br (!r22) (R (.bool false) h12) (Br (decide (s16 > (0 : Int))) (∃ x23 : Sl, cellOf h12 (a1.add 7) = some (.slice x23.ptr x23.len x23.cap) ∧
  ∃ a24 : Addr, (x23.ptr = some a24 ∧ 0 ≤ (IntKind.wrap .i64 (s16 - (1 : Int))) ∧ (IntKind.wrap .i64 (s16 - (1 : Int))) < ((x23.len : Nat) : Int)) ∧
  ∃ x25 : ByteArray, cellOf h12 (a24.add ((IntKind.wrap .i64 (s16 - (1 : Int))).toNat * 4)) = some (.string x25) ∧
  ∃ x26 : ByteArray, cellOf h12 a19 = some (.string x26) ∧
  Br (!(Op.bytesLess x25.toList x26.toList))
  (R (.bool false) h12)
  (K4 () h12)) (K4 () h12))))
  (R (.bool true) h9)) (0 : Int) h8)
  (fun K2 =>
  ∃ x11 : Sl, cellOf h6 (a1.add 6) = some (.slice x11.ptr x11.len x11.cap) ∧
  CallM Tryz.prog 58 #[(.slice x11.ptr x11.len x11.cap), (.int .i64 (63 : Int))] (.one (.sc .bool)) h6 fun r12 h7 =>
  Br (!r12) (R (.bool false) h7) (∃ x13 : Sl, cellOf h7 (a1.add 7) = some (.slice x13.ptr x13.len x13.cap) ∧
  Br (decide (((x13.len : Nat) : Int) > (12 : Int)))
  (R (.bool false) h7)
  (K2 () h7))))
  (fun K1 =>
  ∃ x2 : Int, cellOf h1 a1 = some (.int .i64 x2) ∧
  CallM Tryz.prog 57 #[(.int .i64 x2), (.int .i64 (1 : Int)), (.int .i64 (2147483647 : Int))] (.one (.sc .bool)) h1 fun r3 h2 =>
  Br (!r3) (R (.bool false) h2) (∃ x4 : Int, cellOf h2 (a1.add 1) = some (.int .i64 x4) ∧
  CallM Tryz.prog 57 #[(.int .i64 x4), (.int .i64 (0 : Int)), (.int .i64 (16777216 : Int))] (.one (.sc .bool)) h2 fun r5 h3 =>
  Br (!r5) (R (.bool false) h3) (∃ x6 : Int × Int × Int, cellsAt h3 (a1.add 2) 0 [(.int .i64 x6.1), (.int .i64 x6.2.1), (.int .i64 x6.2.2)] ∧
  CallM Tryz.prog 31 #[(.agg #[(.int .i64 x6.1), (.int .i64 x6.2.1), (.int .i64 x6.2.2)])] (.one (.sc .bool)) h3 fun r7 h4 =>
  Br (!r7) (R (.bool false) h4) (∃ x8 : Int, cellOf h4 (a1.add 5) = some (.int .i64 x8) ∧
  CallM Tryz.prog 57 #[(.int .i64 x8), (.int .i64 (0 : Int)), (.int .i64 (16 : Int))] (.one (.sc .bool)) h4 fun r9 h5 =>
  Br (!r9)
  (R (.bool false) h5)
  (K1 () h5)))))
theorem mani_May_run (m_0 : Int × Int × Int × Int × Int × Int × Sl × Sl) {R : Value → Heap → Prop} {h : Heap} (hm : mani_May_m m_0 R h) : Meets Tryz.prog 18 #[(.agg #[(.int .i64 m_0.1), (.int .i64 m_0.2.1), (.int .i64 m_0.2.2.1), (.int .i64 m_0.2.2.2.1), (.int .i64 m_0.2.2.2.2.1), (.int .i64 m_0.2.2.2.2.2.1), (.slice m_0.2.2.2.2.2.2.1.ptr m_0.2.2.2.2.2.2.1.len m_0.2.2.2.2.2.2.1.cap), (.slice m_0.2.2.2.2.2.2.2.ptr m_0.2.2.2.2.2.2.2.len m_0.2.2.2.2.2.2.2.cap)])] h R := fn_tie C_ok Tryz.func18 (.two .n (.two (.join [] [(2, 3), (5, 27)] .n) (.two (.join [] [(2, 3), (27, 37)] .n) (.two (.two .n (.inn (.loop [(40, (.sc (.int .i64)))] [(2, 5), (40, 72)] (.two .n (.two .n (.two (.inn (.two .n (.two (.join [] [(2, 3), (45, 65)] .n) .n))) .n)))))) .n)))) hm
abbrev store_Store_Live_id : FuncId := 22
noncomputable def store_Store_Live_m (s_0 : Option Addr) (R : Value → Heap → Prop) (h : Heap) : Prop :=
  Br (Option.isNone s_0)
  (R (.slice none 0 0) h)
  (∃ a1 : Addr, (s_0 = some a1) ∧
  ∃ x2 : Sl, cellOf h (a1.add 6) = some (.slice x2.ptr x2.len x2.cap) ∧
  CallM Tryz.prog 65 #[(.func (.func 24) #[(.pointer s_0)] #[]), (.slice x2.ptr x2.len x2.cap)] (.one (.sc .slc)) h fun r3 h1 =>
  R (.slice r3.ptr r3.len r3.cap) h1)
theorem store_Store_Live_run (s_0 : Option Addr) {R : Value → Heap → Prop} {h : Heap} (hm : store_Store_Live_m s_0 R h) : Meets Tryz.prog 22 #[(.pointer s_0)] h R := fn_tie C_ok Tryz.func22 .n hm
abbrev store_Store_Drive_id : FuncId := 24
noncomputable def store_Store_Drive_m (s_0 : Option Addr) (slot_1 : Int) (R : Value → Heap → Prop) (h : Heap) : Prop :=
  JoinM (σ := Unit) (fun _ h1 =>
  ∃ a2 : Addr, (s_0 = some a2) ∧
  (0 ≤ slot_1 ∧ slot_1 < ((64 : Nat) : Int)) ∧
  ∃ x3 : Option Addr, cellOf h1 ((a2.add 10).add (slot_1.toNat * 1)) = some (.pointer x3) ∧
  R (.pointer x3) h1)
  (fun K1 =>
  Br (Option.isNone s_0) (R (.pointer none) h) (Br (decide (slot_1 < (0 : Int))) (R (.pointer none) h) (Br (decide (slot_1 ≥ (64 : Int)))
  (R (.pointer none) h)
  (K1 () h))))
theorem store_Store_Drive_run (s_0 : Option Addr) (slot_1 : Int) {R : Value → Heap → Prop} {h : Heap} (hm : store_Store_Drive_m s_0 slot_1 R h) : Meets Tryz.prog 24 #[(.pointer s_0), (.int .i64 slot_1)] h R := fn_tie C_ok Tryz.func24 (.two .n (.two (.join [] [(4, 15)] .n) .n)) hm
abbrev drive_Drive_Pending_id : FuncId := 25
noncomputable def drive_Drive_Pending_m (d_0 : Option Addr) (R : Value → Heap → Prop) (h : Heap) : Prop :=
  Br (Option.isNone d_0)
  (R (.int .i64 (0 : Int)) h)
  (∃ a1 : Addr, (d_0 = some a1) ∧
  ∃ x2 : Int, cellOf h (a1.add 3) = some (.int .i64 x2) ∧
  R (.int .i64 x2) h)
theorem drive_Drive_Pending_run (d_0 : Option Addr) {R : Value → Heap → Prop} {h : Heap} (hm : drive_Drive_Pending_m d_0 R h) : Meets Tryz.prog 25 #[(.pointer d_0)] h R := fn_tie C_ok Tryz.func25 .n hm
abbrev store_Store_List_id : FuncId := 26
noncomputable def store_Store_List_m (s_0 : Option Addr) (R : Value → Heap → Prop) (h : Heap) : Prop :=
  CallM Tryz.prog 70 #[(.pointer s_0)] (.one (.sc .bool)) h fun r1 h1 =>
  Br r1
  (R (.slice none 0 0) h1)
  (∃ a2 : Addr, (s_0 = some a2) ∧
  ∃ x3 : Sl, cellOf h1 (a2.add 7) = some (.slice x3.ptr x3.len x3.cap) ∧
  LoopM (σ := Sl × Int) (fun s4 K1 h2 =>
  Br (decide (s4.2 < ((x3.len : Nat) : Int)))
  (∃ a5 : Addr, (x3.ptr = some a5 ∧ 0 ≤ s4.2 ∧ s4.2 < ((x3.len : Nat) : Int)) ∧
  ∃ x6 : ByteArray × Int × Int × Sl, cellsAt h2 (a5.add (s4.2.toNat * 4)) 0 [(.string x6.1), (.int .i64 x6.2.1), (.int .i64 x6.2.2.1), (.slice x6.2.2.2.ptr x6.2.2.2.len x6.2.2.2.cap)] ∧
  RunsA Tryz.prog (Instr.alloc 54 true (.tuple #[])) h2 fun a7 h3 =>
  Runs Tryz.prog (Instr.storeAt 54 (.pointer (some a7)) (.agg #[(.string x6.1), (.int .i64 x6.2.1), (.int .i64 x6.2.2.1), (.slice x6.2.2.2.ptr x6.2.2.2.len x6.2.2.2.cap)])) h3 fun _ h4 =>
  ∃ x8 : ByteArray, cellOf h4 a7 = some (.string x8) ∧
  CallM Tryz.prog 71 #[(.string x8)] (.one (.sc .str)) h4 fun r9 h5 =>
  RunsR Tryz.prog (Instr.buildSlice 66 1 #[(0, (.string r9))]) (.one (.sc .slc)) h5 fun v10 h6 =>
  RunsR Tryz.prog (Builtin.append_ #[66, 66] 66 #[(.slice s4.1.ptr s4.1.len s4.1.cap), (.slice v10.ptr v10.len v10.cap)]) (.one (.sc .slc)) h6 fun v11 h7 =>
  K1 ((⟨v11.ptr, v11.len, v11.cap⟩ : Sl), IntKind.wrap .i64 (s4.2 + (1 : Int))) h7)
  (R (.slice s4.1.ptr s4.1.len s4.1.cap) h2)) ((⟨none, 0, 0⟩ : Sl), (0 : Int)) h1)
theorem store_Store_List_run (s_0 : Option Addr) {R : Value → Heap → Prop} {h : Heap} (hm : store_Store_List_m s_0 R h) : Meets Tryz.prog 26 #[(.pointer s_0)] h R := fn_tie C_ok Tryz.func26 (.two .n (.two .n (.two .n (.two (.two .n (.inn (.loop [(3, (.sc .slc)), (14, (.sc (.int .i64)))] [(3, 4), (5, 6), (14, 25)] .n))) .n)))) hm
abbrev wellspringplay_Small_id : FuncId := 27
noncomputable def wellspringplay_Small_m (a_0 : Int) (b_1 : Int) (c_2 : Int) (R : Value → Heap → Prop) (h : Heap) : Prop :=
  RunsA Tryz.prog (Instr.alloc 23 true (.tuple #[])) h fun a1 h1 =>
  CallM Tryz.prog 7 #[(.int .i64 a_0), (.int .i64 (6 : Int))] (.one (.sc (.int .i64))) h1 fun r2 h2 =>
  CallM Tryz.prog 7 #[(.int .i64 b_1), (.int .i64 (3 : Int))] (.one (.sc (.int .i64))) h2 fun r3 h3 =>
  CallM Tryz.prog 7 #[(.int .i64 c_2), (.int .i64 (9 : Int))] (.one (.sc (.int .i64))) h3 fun r4 h4 =>
  Runs Tryz.prog (Instr.storeAt 23 (.pointer (some a1)) (.agg #[(.int .i64 (IntKind.wrap .i64 ((1 : Int) + r2))), (.int .i64 (IntKind.wrap .i64 ((1 : Int) + r3))), (.int .i64 (IntKind.wrap .i64 ((1 : Int) + r4)))])) h4 fun _ h5 =>
  ∃ res5 : Int × Int × Int, cellsAt h5 a1 0 [(.int .i64 res5.1), (.int .i64 res5.2.1), (.int .i64 res5.2.2)] ∧
  R (.agg #[(.int .i64 res5.1), (.int .i64 res5.2.1), (.int .i64 res5.2.2)]) h5
theorem wellspringplay_Small_run (a_0 : Int) (b_1 : Int) (c_2 : Int) {R : Value → Heap → Prop} {h : Heap} (hm : wellspringplay_Small_m a_0 b_1 c_2 R h) : Meets Tryz.prog 27 #[(.int .i64 a_0), (.int .i64 b_1), (.int .i64 c_2)] h R := fn_tie C_ok Tryz.func27 .n hm
abbrev wellspringplay_Num_id : FuncId := 28
noncomputable def wellspringplay_Num_m (l_0 : Sl) (k_1 : Int) (R : Value → Heap → Prop) (h : Heap) : Prop :=
  Br (decide (k_1 < ((l_0.len : Nat) : Int)))
  (∃ a1 : Addr, (l_0.ptr = some a1 ∧ 0 ≤ k_1 ∧ k_1 < ((l_0.len : Nat) : Int)) ∧
  ∃ x2 : Int, cellOf h (a1.add (k_1.toNat * 1)) = some (.int .i64 x2) ∧
  R (.int .i64 x2) h)
  (R (.int .i64 (0 : Int)) h)
theorem wellspringplay_Num_run (l_0 : Sl) (k_1 : Int) {R : Value → Heap → Prop} {h : Heap} (hm : wellspringplay_Num_m l_0 k_1 R h) : Meets Tryz.prog 28 #[(.slice l_0.ptr l_0.len l_0.cap), (.int .i64 k_1)] h R := fn_tie C_ok Tryz.func28 .n hm
abbrev power_Power_On_id : FuncId := 29
noncomputable def power_Power_On_m (p_0 : Option Addr) (R : Value → Heap → Prop) (h : Heap) : Prop :=
  Br (!(Option.isNone p_0)) (∃ a1 : Addr, (p_0 = some a1) ∧
  ∃ x2 : Bool, cellOf h a1 = some (.bool x2) ∧
  R (.bool (!x2)) h) (R (.bool false) h)
theorem power_Power_On_run (p_0 : Option Addr) {R : Value → Heap → Prop} {h : Heap} (hm : power_Power_On_m p_0 R h) : Meets Tryz.prog 29 #[(.pointer p_0)] h R := fn_tie C_ok Tryz.func29 .n hm
abbrev store_places_id : FuncId := 30
noncomputable def store_places_m (cells_0 : Sl) (R : Value → Heap → Prop) (h : Heap) : Prop :=
  LoopM (σ := Sl × Int) (fun s1 K1 h1 =>
  Br (decide (s1.2 < ((cells_0.len : Nat) : Int)))
  (∃ a2 : Addr, (cells_0.ptr = some a2 ∧ 0 ≤ s1.2 ∧ s1.2 < ((cells_0.len : Nat) : Int)) ∧
  ∃ x3 : Int, cellOf h1 (a2.add (s1.2.toNat * 1)) = some (.int .i64 x3) ∧
  JoinM (σ := Unit) (fun _ h2 =>
  Br (decide (x3 > (0 : Int)))
  (RunsR Tryz.prog (Instr.buildSlice 24 1 #[(0, (.int .i64 s1.2))]) (.one (.sc .slc)) h2 fun v5 h3 =>
  RunsR Tryz.prog (Builtin.append_ #[24, 24] 24 #[(.slice s1.1.ptr s1.1.len s1.1.cap), (.slice v5.ptr v5.len v5.cap)]) (.one (.sc .slc)) h3 fun v6 h4 =>
  K1 ((⟨v6.ptr, v6.len, v6.cap⟩ : Sl), IntKind.wrap .i64 (s1.2 + (1 : Int))) h4)
  (K1 ((⟨s1.1.ptr, s1.1.len, s1.1.cap⟩ : Sl), IntKind.wrap .i64 (s1.2 + (1 : Int))) h2))
  (fun K2 =>
  Br (decide (x3 < (0 : Int))) (R (.tuple #[(.slice none 0 0), (.bool false)]) h1) (Br (decide (x3 > (512 : Int)))
  (R (.tuple #[(.slice none 0 0), (.bool false)]) h1)
  (K2 () h1))))
  (Br (decide (((cells_0.len : Nat) : Int) ≤ (64 : Int))) (R (.tuple #[(.slice s1.1.ptr s1.1.len s1.1.cap), (.bool (decide (((s1.1.len : Nat) : Int) > (0 : Int))))]) h1) (R (.tuple #[(.slice s1.1.ptr s1.1.len s1.1.cap), (.bool false)]) h1))) ((⟨none, 0, 0⟩ : Sl), (0 : Int)) h
theorem store_places_run (cells_0 : Sl) {R : Value → Heap → Prop} {h : Heap} (hm : store_places_m cells_0 R h) : Meets Tryz.prog 30 #[(.slice cells_0.ptr cells_0.len cells_0.cap)] h R := fn_tie C_ok Tryz.func30 (.two .n (.two .n (.two (.two .n (.inn (.loop [(4, (.sc .slc)), (9, (.sc (.int .i64)))] [(2, 7), (9, 27)] (.two .n (.two .n (.two (.inn (.two .n (.two (.join [] [(2, 4), (14, 20)] .n) .n))) .n)))))) .n))) hm
abbrev pre_May_id : FuncId := 31
noncomputable def pre_May_m (p_0 : Int × Int × Int) (R : Value → Heap → Prop) (h : Heap) : Prop :=
  RunsA Tryz.prog (Instr.box 23 (.agg #[(.int .i64 p_0.1), (.int .i64 p_0.2.1), (.int .i64 p_0.2.2)])) h fun a1 h1 =>
  ∃ x2 : Int, cellOf h1 a1 = some (.int .i64 x2) ∧
  Br (decide (x2 ≥ (1 : Int))) (∃ x3 : Int, cellOf h1 a1 = some (.int .i64 x3) ∧
  Br (decide (x3 ≤ (16 : Int))) (∃ x4 : Int, cellOf h1 (a1.add 1) = some (.int .i64 x4) ∧
  Br (decide (x4 ≥ (1 : Int))) (∃ x5 : Int, cellOf h1 (a1.add 1) = some (.int .i64 x5) ∧
  Br (decide (x5 ≤ (4 : Int))) (∃ x6 : Int, cellOf h1 (a1.add 2) = some (.int .i64 x6) ∧
  Br (decide (x6 ≥ (1 : Int))) (∃ x7 : Int, cellOf h1 (a1.add 2) = some (.int .i64 x7) ∧
  R (.bool (decide (x7 ≤ (24 : Int)))) h1) (R (.bool false) h1)) (R (.bool false) h1)) (R (.bool false) h1)) (R (.bool false) h1)) (R (.bool false) h1)
theorem pre_May_run (p_0 : Int × Int × Int) {R : Value → Heap → Prop} {h : Heap} (hm : pre_May_m p_0 R h) : Meets Tryz.prog 31 #[(.agg #[(.int .i64 p_0.1), (.int .i64 p_0.2.1), (.int .i64 p_0.2.2)])] h R := fn_tie C_ok Tryz.func31 .n hm
abbrev power_Power_Offs_id : FuncId := 32
noncomputable def power_Power_Offs_m (p_0 : Option Addr) (R : Value → Heap → Prop) (h : Heap) : Prop :=
  Br (Option.isNone p_0)
  (R (.int .i64 (0 : Int)) h)
  (∃ a1 : Addr, (p_0 = some a1) ∧
  ∃ x2 : Int, cellOf h (a1.add 3) = some (.int .i64 x2) ∧
  R (.int .i64 x2) h)
theorem power_Power_Offs_run (p_0 : Option Addr) {R : Value → Heap → Prop} {h : Heap} (hm : power_Power_Offs_m p_0 R h) : Meets Tryz.prog 32 #[(.pointer p_0)] h R := fn_tie C_ok Tryz.func32 .n hm
abbrev page_Split_id : FuncId := 33
noncomputable def page_Split_m (m_0 : Int × Int × Int × Int × Int × Int × Sl × Sl) (R : Value → Heap → Prop) (h : Heap) : Prop :=
  RunsA Tryz.prog (Instr.box 50 (.agg #[(.int .i64 m_0.1), (.int .i64 m_0.2.1), (.int .i64 m_0.2.2.1), (.int .i64 m_0.2.2.2.1), (.int .i64 m_0.2.2.2.2.1), (.int .i64 m_0.2.2.2.2.2.1), (.slice m_0.2.2.2.2.2.2.1.ptr m_0.2.2.2.2.2.2.1.len m_0.2.2.2.2.2.2.1.cap), (.slice m_0.2.2.2.2.2.2.2.ptr m_0.2.2.2.2.2.2.2.len m_0.2.2.2.2.2.2.2.cap)])) h fun a1 h1 =>
  ∃ x2 : Int × Int × Int × Int × Int × Int × Sl × Sl, cellsAt h1 a1 0 [(.int .i64 x2.1), (.int .i64 x2.2.1), (.int .i64 x2.2.2.1), (.int .i64 x2.2.2.2.1), (.int .i64 x2.2.2.2.2.1), (.int .i64 x2.2.2.2.2.2.1), (.slice x2.2.2.2.2.2.2.1.ptr x2.2.2.2.2.2.2.1.len x2.2.2.2.2.2.2.1.cap), (.slice x2.2.2.2.2.2.2.2.ptr x2.2.2.2.2.2.2.2.len x2.2.2.2.2.2.2.2.cap)] ∧
  CallM Tryz.prog 72 #[(.agg #[(.int .i64 x2.1), (.int .i64 x2.2.1), (.int .i64 x2.2.2.1), (.int .i64 x2.2.2.2.1), (.int .i64 x2.2.2.2.2.1), (.int .i64 x2.2.2.2.2.2.1), (.slice x2.2.2.2.2.2.2.1.ptr x2.2.2.2.2.2.2.1.len x2.2.2.2.2.2.2.1.cap), (.slice x2.2.2.2.2.2.2.2.ptr x2.2.2.2.2.2.2.2.len x2.2.2.2.2.2.2.2.cap)])] (.one (.sc .slc)) h1 fun r3 h2 =>
  ((48 : Int) ≠ 0) ∧
  LoopM (σ := Sl × Int) (fun s4 K1 h3 =>
  Br (decide (s4.2 < (IntKind.wrap .i64 (Int.tdiv (IntKind.wrap .i64 ((IntKind.wrap .i64 (((r3.len : Nat) : Int) + (48 : Int))) - (1 : Int))) (48 : Int)))))
  (∃ x5 : Int, cellOf h3 a1 = some (.int .i64 x5) ∧
  (0 ≤ (IntKind.wrap .i64 (s4.2 * (48 : Int))) ∧ (IntKind.wrap .i64 (s4.2 * (48 : Int))) ≤ (if (IntKind.wrap .i64 ((IntKind.wrap .i64 (s4.2 + (1 : Int))) * (48 : Int))) < ((r3.len : Nat) : Int) then IntKind.wrap .i64 ((IntKind.wrap .i64 (s4.2 + (1 : Int))) * (48 : Int)) else ((r3.len : Nat) : Int)) ∧ (if (IntKind.wrap .i64 ((IntKind.wrap .i64 (s4.2 + (1 : Int))) * (48 : Int))) < ((r3.len : Nat) : Int) then IntKind.wrap .i64 ((IntKind.wrap .i64 (s4.2 + (1 : Int))) * (48 : Int)) else ((r3.len : Nat) : Int)) ≤ ((r3.cap : Nat) : Int)) ∧
  CallM Tryz.prog 73 #[(.int .i64 x5), (.int .i64 s4.2), (.int .i64 (IntKind.wrap .i64 (Int.tdiv (IntKind.wrap .i64 ((IntKind.wrap .i64 (((r3.len : Nat) : Int) + (48 : Int))) - (1 : Int))) (48 : Int)))), (.slice (if r3.cap = (IntKind.wrap .i64 (s4.2 * (48 : Int))).toNat then r3.ptr else r3.ptr.map (·.add ((IntKind.wrap .i64 (s4.2 * (48 : Int))).toNat * 1))) ((if (IntKind.wrap .i64 ((IntKind.wrap .i64 (s4.2 + (1 : Int))) * (48 : Int))) < ((r3.len : Nat) : Int) then IntKind.wrap .i64 ((IntKind.wrap .i64 (s4.2 + (1 : Int))) * (48 : Int)) else ((r3.len : Nat) : Int)).toNat - (IntKind.wrap .i64 (s4.2 * (48 : Int))).toNat) (r3.cap - (IntKind.wrap .i64 (s4.2 * (48 : Int))).toNat))] (.one (.sc .slc)) h3 fun r6 h4 =>
  (Held.ok [] h4) ∧
  RunsR Tryz.prog (Instr.buildSlice 78 1 #[(0, (.slice r6.ptr r6.len r6.cap))]) (.one (.sc .slc)) h4 fun v7 h5 =>
  (Held.ok [] h5) ∧
  RunsR Tryz.prog (Builtin.append_ #[78, 78] 78 #[(.slice s4.1.ptr s4.1.len s4.1.cap), (.slice v7.ptr v7.len v7.cap)]) (.one (.sc .slc)) h5 fun v8 h6 =>
  (Held.ok [] h6) ∧
  K1 ((⟨v8.ptr, v8.len, v8.cap⟩ : Sl), IntKind.wrap .i64 (s4.2 + (1 : Int))) h6)
  (R (.slice s4.1.ptr s4.1.len s4.1.cap) h3)) ((⟨none, 0, 0⟩ : Sl), (0 : Int)) h2
theorem page_Split_run (m_0 : Int × Int × Int × Int × Int × Int × Sl × Sl) {R : Value → Heap → Prop} {h : Heap} (hm : page_Split_m m_0 R h) : Meets Tryz.prog 33 #[(.agg #[(.int .i64 m_0.1), (.int .i64 m_0.2.1), (.int .i64 m_0.2.2.1), (.int .i64 m_0.2.2.2.1), (.int .i64 m_0.2.2.2.2.1), (.int .i64 m_0.2.2.2.2.2.1), (.slice m_0.2.2.2.2.2.2.1.ptr m_0.2.2.2.2.2.2.1.len m_0.2.2.2.2.2.2.1.cap), (.slice m_0.2.2.2.2.2.2.2.ptr m_0.2.2.2.2.2.2.2.len m_0.2.2.2.2.2.2.2.cap)])] h R := fn_tie C_ok Tryz.func33 (.two .n (.two .n (.two .n (.two .n (.two (.two .n (.inn (.loop [(5, (.sc .slc)), (16, (.sc (.int .i64)))] [(5, 8), (16, 39)] .n))) .n))))) hm
abbrev drive_New_id : FuncId := 34
noncomputable def drive_New_m (cells_0 : Int) (p_1 : Option Addr) (R : Value → Heap → Prop) (h : Heap) : Prop :=
  JoinM (σ := Unit) (fun _ h1 =>
  RunsA Tryz.prog (Instr.box 123 (.agg #[(.pointer p_1), (.int .i64 cells_0), (.slice none 0 0), (.int .i64 (0 : Int)), (.slice none 0 0), (.bool false), (.bool false)])) h1 fun a2 h2 =>
  R (.pointer (some a2)) h2)
  (fun K1 =>
  Br (decide (cells_0 < (1 : Int))) (R (.pointer none) h) (Br (decide (cells_0 > (512 : Int))) (R (.pointer none) h) (Br (Option.isNone p_1)
  (R (.pointer none) h)
  (K1 () h))))
theorem drive_New_run (cells_0 : Int) (p_1 : Option Addr) {R : Value → Heap → Prop} {h : Heap} (hm : drive_New_m cells_0 p_1 R h) : Meets Tryz.prog 34 #[(.int .i64 cells_0), (.pointer p_1)] h R := fn_tie C_ok Tryz.func34 (.two .n (.two (.join [] [(4, 15)] .n) .n)) hm
abbrev lay_All_id : FuncId := 35
noncomputable def lay_All_m (at_0 : FuncId × Array Value × Array Value) (l_1 : Sl) (R : Value → Heap → Prop) (h : Heap) : Prop :=
  LoopM (σ := Sl × Int) (fun s1 K1 h1 =>
  Br (decide (s1.2 < ((l_1.len : Nat) : Int)))
  (∃ a2 : Addr, (l_1.ptr = some a2 ∧ 0 ≤ s1.2 ∧ s1.2 < ((l_1.len : Nat) : Int)) ∧
  ∃ x3 : Int × Sl, cellsAt h1 (a2.add (s1.2.toNat * 2)) 0 [(.int .i64 x3.1), (.slice x3.2.ptr x3.2.len x3.2.cap)] ∧
  RunsA Tryz.prog (Instr.alloc 101 true (.tuple #[])) h1 fun a4 h2 =>
  Runs Tryz.prog (Instr.storeAt 101 (.pointer (some a4)) (.agg #[(.int .i64 x3.1), (.slice x3.2.ptr x3.2.len x3.2.cap)])) h2 fun _ h3 =>
  JoinM (σ := Unit) (fun _ h7 =>
  ∃ x11 : Int, cellOf h7 a4 = some (.int .i64 x11) ∧
  RunsR Tryz.prog (Instr.buildSlice 24 1 #[(0, (.int .i64 x11))]) (.one (.sc .slc)) h7 fun v12 h8 =>
  RunsR Tryz.prog (Builtin.append_ #[24, 24] 24 #[(.slice s1.1.ptr s1.1.len s1.1.cap), (.slice v12.ptr v12.len v12.cap)]) (.one (.sc .slc)) h8 fun v13 h9 =>
  K1 ((⟨v13.ptr, v13.len, v13.cap⟩ : Sl), IntKind.wrap .i64 (s1.2 + (1 : Int))) h9)
  (fun K2 =>
  JoinM (σ := Int) (fun s9 h6 =>
  Br (s9 != (0 : Int))
  (R (.int .i64 s9) h6)
  (K2 () h6))
  (fun K3 =>
  ∃ x5 : Int, cellOf h3 a4 = some (.int .i64 x5) ∧
  ∃ x6 : Sl, cellOf h3 (a4.add 1) = some (.slice x6.ptr x6.len x6.cap) ∧
  DynM C at_0.1 (at_0.2.1.toList ++ [(.int .i64 x5)] ++ at_0.2.2.toList) (.one (.sc .ptr)) h3 fun r7 h4 =>
  (Held.ok [(a4.add 1, (.slice x6.ptr x6.len x6.cap))] h4) ∧
  CallM Tryz.prog 74 #[(.pointer r7), (.slice x6.ptr x6.len x6.cap)] (.one (.sc (.int .i64))) h4 fun r8 h5 =>
  (Held.ok [] h5) ∧
  K3 r8 h5)))
  (CallM Tryz.prog 75 #[(.func (.func at_0.1) at_0.2.1 at_0.2.2), (.slice s1.1.ptr s1.1.len s1.1.cap)] (.one (.sc (.int .i64))) h1 fun r14 h10 =>
  R (.int .i64 r14) h10)) ((⟨none, 0, 0⟩ : Sl), (0 : Int)) h
theorem lay_All_run (at_0 : FuncId × Array Value × Array Value) (l_1 : Sl) {R : Value → Heap → Prop} {h : Heap} (hm : lay_All_m at_0 l_1 R h) : Meets Tryz.prog 35 #[(.func (.func at_0.1) at_0.2.1 at_0.2.2), (.slice l_1.ptr l_1.len l_1.cap)] h R := fn_tie C_ok Tryz.func35 (.two .n (.two .n (.two (.two .n (.inn (.loop [(5, (.sc .slc)), (11, (.sc (.int .i64)))] [(4, 6), (7, 9), (11, 31)] (.two .n (.two .n (.two (.inn (.two .n (.two (.join [] [(4, 5), (8, 9), (15, 25)] (.two (.join [(8, (.sc (.int .i64)))] [(8, 9), (15, 22)] .n) .n)) .n))) .n)))))) .n))) hm
abbrev lay_Pages_id : FuncId := 36
noncomputable def lay_Pages_m (m_0 : Int × Int × Int × Int × Int × Int × Sl × Sl) (slots_1 : Sl) (R : Value → Heap → Prop) (h : Heap) : Prop :=
  RunsA Tryz.prog (Instr.box 50 (.agg #[(.int .i64 m_0.1), (.int .i64 m_0.2.1), (.int .i64 m_0.2.2.1), (.int .i64 m_0.2.2.2.1), (.int .i64 m_0.2.2.2.2.1), (.int .i64 m_0.2.2.2.2.2.1), (.slice m_0.2.2.2.2.2.2.1.ptr m_0.2.2.2.2.2.2.1.len m_0.2.2.2.2.2.2.1.cap), (.slice m_0.2.2.2.2.2.2.2.ptr m_0.2.2.2.2.2.2.2.len m_0.2.2.2.2.2.2.2.cap)])) h fun a1 h1 =>
  ∃ x2 : Int × Int × Int × Int × Int × Int × Sl × Sl, cellsAt h1 a1 0 [(.int .i64 x2.1), (.int .i64 x2.2.1), (.int .i64 x2.2.2.1), (.int .i64 x2.2.2.2.1), (.int .i64 x2.2.2.2.2.1), (.int .i64 x2.2.2.2.2.2.1), (.slice x2.2.2.2.2.2.2.1.ptr x2.2.2.2.2.2.2.1.len x2.2.2.2.2.2.2.1.cap), (.slice x2.2.2.2.2.2.2.2.ptr x2.2.2.2.2.2.2.2.len x2.2.2.2.2.2.2.2.cap)] ∧
  CallM Tryz.prog 33 #[(.agg #[(.int .i64 x2.1), (.int .i64 x2.2.1), (.int .i64 x2.2.2.1), (.int .i64 x2.2.2.2.1), (.int .i64 x2.2.2.2.2.1), (.int .i64 x2.2.2.2.2.2.1), (.slice x2.2.2.2.2.2.2.1.ptr x2.2.2.2.2.2.2.1.len x2.2.2.2.2.2.2.1.cap), (.slice x2.2.2.2.2.2.2.2.ptr x2.2.2.2.2.2.2.2.len x2.2.2.2.2.2.2.2.cap)])] (.one (.sc .slc)) h1 fun r3 h2 =>
  LoopM (σ := Sl × Int) (fun s4 K1 h3 =>
  Br (decide (s4.2 < ((slots_1.len : Nat) : Int)))
  (∃ a5 : Addr, (slots_1.ptr = some a5 ∧ 0 ≤ s4.2 ∧ s4.2 < ((slots_1.len : Nat) : Int)) ∧
  ∃ x6 : Int, cellOf h3 (a5.add (s4.2.toNat * 1)) = some (.int .i64 x6) ∧
  LoopM (σ := Sl × Int) (fun s7 K2 h4 =>
  Br (decide (s7.2 < ((r3.len : Nat) : Int)))
  (∃ a8 : Addr, (r3.ptr = some a8 ∧ 0 ≤ s7.2 ∧ s7.2 < ((r3.len : Nat) : Int)) ∧
  ∃ x9 : Sl, cellOf h4 (a8.add (s7.2.toNat * 1)) = some (.slice x9.ptr x9.len x9.cap) ∧
  RunsR Tryz.prog (Instr.buildSlice 82 1 #[(0, (.agg #[(.int .i64 x6), (.slice x9.ptr x9.len x9.cap)]))]) (.one (.sc .slc)) h4 fun v10 h5 =>
  RunsR Tryz.prog (Builtin.append_ #[82, 82] 82 #[(.slice s7.1.ptr s7.1.len s7.1.cap), (.slice v10.ptr v10.len v10.cap)]) (.one (.sc .slc)) h5 fun v11 h6 =>
  K2 ((⟨v11.ptr, v11.len, v11.cap⟩ : Sl), IntKind.wrap .i64 (s7.2 + (1 : Int))) h6)
  (K1 ((⟨s7.1.ptr, s7.1.len, s7.1.cap⟩ : Sl), IntKind.wrap .i64 (s4.2 + (1 : Int))) h4)) ((⟨s4.1.ptr, s4.1.len, s4.1.cap⟩ : Sl), (0 : Int)) h3)
  (R (.slice s4.1.ptr s4.1.len s4.1.cap) h3)) ((⟨none, 0, 0⟩ : Sl), (0 : Int)) h2
theorem lay_Pages_run (m_0 : Int × Int × Int × Int × Int × Int × Sl × Sl) (slots_1 : Sl) {R : Value → Heap → Prop} {h : Heap} (hm : lay_Pages_m m_0 slots_1 R h) : Meets Tryz.prog 36 #[(.agg #[(.int .i64 m_0.1), (.int .i64 m_0.2.1), (.int .i64 m_0.2.2.1), (.int .i64 m_0.2.2.2.1), (.int .i64 m_0.2.2.2.2.1), (.int .i64 m_0.2.2.2.2.2.1), (.slice m_0.2.2.2.2.2.2.1.ptr m_0.2.2.2.2.2.2.1.len m_0.2.2.2.2.2.2.1.cap), (.slice m_0.2.2.2.2.2.2.2.ptr m_0.2.2.2.2.2.2.2.len m_0.2.2.2.2.2.2.2.cap)]), (.slice slots_1.ptr slots_1.len slots_1.cap)] h R := fn_tie C_ok Tryz.func36 (.two .n (.two .n (.two .n (.two (.two .n (.inn (.loop [(6, (.sc .slc)), (15, (.sc (.int .i64)))] [(6, 7), (8, 9), (10, 11), (15, 33)] (.two .n (.two .n (.two (.inn (.two .n (.two .n (.inn (.loop [(6, (.sc .slc)), (21, (.sc (.int .i64)))] [(6, 7), (10, 11), (21, 32)] .n))))) .n)))))) .n)))) hm
end Go.Proofs.YtdoiokchdaoonaaGreat
