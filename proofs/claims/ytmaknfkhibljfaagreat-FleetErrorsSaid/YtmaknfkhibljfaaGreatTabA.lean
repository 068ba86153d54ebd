/- Part of the proofs that wellspringlaw30's laws answer true whatever the input reads, and leave it as it was; no condition. -/
import Derived.Test.YtmaknfkhibljfaaGreatHpA
import Derived.Test.YtmaknfkhibljfaaGreatProg
set_option linter.unusedVariables false
set_option linter.unusedSimpArgs false
namespace Go.Proofs.YtmaknfkhibljfaaGreat
open Go Go.Vc Go.Proofs
set_option maxRecDepth 1000000
abbrev T_int : Nat := 3
abbrev T_uint8 : Nat := 5
abbrev T_sl_int : Nat := 22
abbrev T_ptr_drive_Drive : Nat := 33
abbrev T_api_Params : Nat := 37
abbrev T_sl_api_Entry : Nat := 38
abbrev T_api_Manifest : Nat := 40
abbrev T_wellspringref21_Power : Nat := 50
abbrev T_sl_sl_uint8 : Nat := 63
abbrev T_sl_lay_Piece : Nat := 66
abbrev T_ptr_wellspringref21_Drive : Nat := 76
abbrev T_wellspringref29_Store : Nat := 79
abbrev T_store_Store : Nat := 85
abbrev T_drive_Drive : Nat := 87
abbrev T_sl_uint8 : Nat := 90
abbrev T_power_Power : Nat := 96
abbrev T_lay_Piece : Nat := 117
abbrev T_api_Entry : Nat := 133
abbrev T_wellspringref21_Drive : Nat := 136
abbrev T_sl_wellspringref29_Item : Nat := 146
abbrev T_wellspringref29_Item : Nat := 147
abbrev T_64_bool : Nat := 175
abbrev ti0 : TI := ⟨.fn, (.sc .fn), 1, 8, [.nilFunc]⟩
abbrev ti1 : TI := ⟨.int .i64, (.sc (.int .i64)), 1, 8, [(.int .i64 0)]⟩
abbrev ti2 : TI := ⟨.int .u8, (.sc (.int .u8)), 1, 1, [(.int .u8 0)]⟩
abbrev ti3 : TI := ⟨.str, (.sc .str), 1, 16, [(.string ⟨#[]⟩)]⟩
abbrev ti4 : TI := ⟨.int .u64, (.sc (.int .u64)), 1, 8, [(.int .u64 0)]⟩
abbrev ti5 : TI := ⟨.int .i32, (.sc (.int .i32)), 1, 4, [(.int .i32 0)]⟩
abbrev ti6 : TI := ⟨.struct [(0, 3), (1, 3), (2, 3)], (.agg [(.int .i64), (.int .i64), (.int .i64)]), 3, 24, [(.int .i64 0), (.int .i64 0), (.int .i64 0)]⟩
abbrev ti7 : TI := ⟨.struct [(0, 4), (1, 4), (2, 3), (3, 3)], (.agg [.bool, .bool, (.int .i64), (.int .i64)]), 4, 24, [(.bool .false), (.bool .false), (.int .i64 0), (.int .i64 0)]⟩
abbrev ti8 : TI := ⟨.struct [(0, 3), (1, 90)], (.agg [(.int .i64), .slc]), 2, 32, [(.int .i64 0), (.slice none 0 0)]⟩
noncomputable def tbl : Tbl := [⟨.other, (.sc .any), 1, 0, [(.tuple #[])]⟩, ti0, ti1, ti1, ⟨.bool, (.sc .bool), 1, 1, [(.bool .false)]⟩, ti2, ti2, ⟨.struct [(0, 2), (1, 3), (2, 4), (3, 6)], (.agg [(.int .i64), (.int .i64), .bool, (.int .u8)]), 4, 24, [(.int .i64 0), (.int .i64 0), (.bool .false), (.int .u8 0)]⟩, ⟨.struct [(0, 2), (1, 3), (2, 4), (3, 6)], (.agg [(.int .i64), (.int .i64), .bool, (.int .u8)]), 4, 24, [(.int .i64 0), (.int .i64 0), (.bool .false), (.int .u8 0)]⟩, ti3, ti3, ti3, ti4, ⟨.struct [(0, 9), (1, 12)], (.agg [.str, (.int .u64)]), 2, 24, [(.string ⟨#[]⟩), (.int .u64 0)]⟩, ⟨.struct [(0, 9), (1, 12)], (.agg [.str, (.int .u64)]), 2, 24, [(.string ⟨#[]⟩), (.int .u64 0)]⟩, ⟨.ptr 230, (.sc .ptr), 1, 8, [(.pointer none)]⟩, ⟨.ptr 233, (.sc .ptr), 1, 8, [(.pointer none)]⟩, ⟨.ptr 241, (.sc .ptr), 1, 8, [(.pointer none)]⟩, ⟨.struct [(0, 17)], (.agg [.ptr]), 1, 8, [(.pointer none)]⟩, ⟨.struct [(0, 17)], (.agg [.ptr]), 1, 8, [(.pointer none)]⟩, ⟨.other, (.sc .any), 1, 16, [.nilIface]⟩, ti5, ⟨.slice 3, (.sc .slc), 1, 24, [(.slice none 0 0)]⟩, ⟨.ptr 85, (.sc .ptr), 1, 8, [(.pointer none)]⟩, ⟨.ptr 79, (.sc .ptr), 1, 8, [(.pointer none)]⟩, ⟨.other, (.sc .any), 1, 0, [(.tuple #[(.pointer none), (.pointer none)])]⟩, ti0, ti0, ti0, ti1, ti0, ti0, ti0, ⟨.ptr 87, (.sc .ptr), 1, 8, [(.pointer none)]⟩, ti0, ti0, ti6, ti6, ⟨.slice 133, (.sc .slc), 1, 24, [(.slice none 0 0)]⟩, ⟨.struct [(0, 3), (1, 3), (2, 37), (5, 3), (6, 22), (7, 38)], (.agg [(.int .i64), (.int .i64), (.int .i64), (.int .i64), (.int .i64), (.int .i64), .slc, .slc]), 8, 96, [(.int .i64 0), (.int .i64 0), (.int .i64 0), (.int .i64 0), (.int .i64 0), (.int .i64 0), (.slice none 0 0), (.slice none 0 0)]⟩, ⟨.struct [(0, 3), (1, 3), (2, 37), (5, 3), (6, 22), (7, 38)], (.agg [(.int .i64), (.int .i64), (.int .i64), (.int .i64), (.int .i64), (.int .i64), .slc, .slc]), 8, 96, [(.int .i64 0), (.int .i64 0), (.int .i64 0), (.int .i64 0), (.int .i64 0), (.int .i64 0), (.slice none 0 0), (.slice none 0 0)]⟩, ti0, ⟨.ptr 96, (.sc .ptr), 1, 8, [(.pointer none)]⟩, ti0, ti0, ti0, ⟨.other, (.sc .any), 1, 0, [(.tuple #[(.agg #[(.int .i64 0), (.int .i64 0), (.int .i64 0)]), (.int .i64 0), (.slice none 0 0)])]⟩, ti0, ⟨.ptr 50, (.sc .ptr), 1, 8, [(.pointer none)]⟩, ti7, ti7, ⟨.other, (.sc .any), 1, 0, [(.tuple #[(.pointer none), (.int .i64 0)])]⟩, ti0, ⟨.other, (.sc .any), 1, 0, [(.tuple #[(.pointer none), (.int .i64 0)])]⟩, ti0, ti0, ti0, ti0, ti0, ti0, ti0, ti0, ti0, ⟨.slice 90, (.sc .slc), 1, 24, [(.slice none 0 0)]⟩, ti0, ti0, ⟨.slice 117, (.sc .slc), 1, 24, [(.slice none 0 0)]⟩, ti0, ti0, ⟨.ptr 72, (.sc .ptr), 1, 8, [(.pointer none)]⟩, ⟨.array 64 3, (.arr (.int .i64)), 64, 512, List.replicate 64 (.int .i64 0)⟩, ⟨.struct [(0, 23), (1, 40), (9, 40), (17, 22), (18, 3), (19, 70), (83, 66)], (.arr .any), 84, 768, [(.pointer none), (.int .i64 0), (.int .i64 0), (.int .i64 0), (.int .i64 0), (.int .i64 0), (.int .i64 0), (.slice none 0 0), (.slice none 0 0), (.int .i64 0), (.int .i64 0), (.int .i64 0), (.int .i64 0), (.int .i64 0), (.int .i64 0), (.slice none 0 0), (.slice none 0 0), (.slice none 0 0)] ++ List.replicate 65 (.int .i64 0) ++ [(.slice none 0 0)]⟩, ⟨.struct [(0, 23), (1, 40), (9, 40), (17, 22), (18, 3), (19, 70), (83, 66)], (.arr .any), 84, 768, [(.pointer none), (.int .i64 0), (.int .i64 0), (.int .i64 0), (.int .i64 0), (.int .i64 0), (.int .i64 0), (.slice none 0 0), (.slice none 0 0), (.int .i64 0), (.int .i64 0), (.int .i64 0), (.int .i64 0), (.int .i64 0), (.int .i64 0), (.slice none 0 0), (.slice none 0 0), (.slice none 0 0)] ++ List.replicate 65 (.int .i64 0) ++ [(.slice none 0 0)]⟩, ti0, ti0, ti0, ⟨.ptr 136, (.sc .ptr), 1, 8, [(.pointer none)]⟩, ⟨.array 64 76, (.arr .ptr), 64, 512, List.replicate 64 (.pointer none)⟩, ⟨.struct [(0, 40), (8, 48), (9, 3), (10, 77)], (.arr .any), 74, 624, [(.int .i64 0), (.int .i64 0), (.int .i64 0), (.int .i64 0), (.int .i64 0), (.int .i64 0), (.slice none 0 0), (.slice none 0 0), (.pointer none), (.int .i64 0)] ++ List.replicate 64 (.pointer none)⟩, ⟨.struct [(0, 40), (8, 48), (9, 3), (10, 77)], (.arr .any), 74, 624, [(.int .i64 0), (.int .i64 0), (.int .i64 0), (.int .i64 0), (.int .i64 0), (.int .i64 0), (.slice none 0 0), (.slice none 0 0), (.pointer none), (.int .i64 0)] ++ List.replicate 64 (.pointer none)⟩, ti0, ti0, ti0, ⟨.array 64 33, (.arr .ptr), 64, 512, List.replicate 64 (.pointer none)⟩, ⟨.struct [(0, 40), (8, 42), (9, 3), (10, 83)], (.arr .any), 74, 624, [(.int .i64 0), (.int .i64 0), (.int .i64 0), (.int .i64 0), (.int .i64 0), (.int .i64 0), (.slice none 0 0), (.slice none 0 0), (.pointer none), (.int .i64 0)] ++ List.replicate 64 (.pointer none)⟩, ⟨.struct [(0, 40), (8, 42), (9, 3), (10, 83)], (.arr .any), 74, 624, [(.int .i64 0), (.int .i64 0), (.int .i64 0), (.int .i64 0), (.int .i64 0), (.int .i64 0), (.slice none 0 0), (.slice none 0 0), (.pointer none), (.int .i64 0)] ++ List.replicate 64 (.pointer none)⟩, ⟨.struct [(0, 42), (1, 3), (2, 63), (3, 3), (4, 63), (5, 4), (6, 4)], (.agg [.ptr, (.int .i64), .slc, (.int .i64), .slc, .bool, .bool]), 7, 80, [(.pointer none), (.int .i64 0), (.slice none 0 0), (.int .i64 0), (.slice none 0 0), (.bool .false), (.bool .false)]⟩, ⟨.struct [(0, 42), (1, 3), (2, 63), (3, 3), (4, 63), (5, 4), (6, 4)], (.agg [.ptr, (.int .i64), .slc, (.int .i64), .slc, .bool, .bool]), 7, 80, [(.pointer none), (.int .i64 0), (.slice none 0 0), (.int .i64 0), (.slice none 0 0), (.bool .false), (.bool .false)]⟩, ti0, ti0, ⟨.slice 5, (.sc .slc), 1, 24, [(.slice none 0 0)]⟩, ti0, ti0, ti0, ti0, ti7, ti7, ti0, ti0, ⟨.other, (.sc .any), 1, 0, [(.tuple #[(.slice none 0 0), (.bool .false)])]⟩, ti0, ti0, ⟨.other, (.sc .any), 1, 0, [(.tuple #[(.agg #[(.int .i64 0), (.int .i64 0), (.int .i64 0), (.int .i64 0), (.int .i64 0), (.int .i64 0), (.slice none 0 0), (.slice none 0 0)]), (.int .i64 0)])]⟩, ti0, ti0, ti0, ti0, ti0, ti4, ti0, ti0, ti0, ti0, ti0, ti0, ti0, ti8, ti8, ti0, ti0, ti0, ti0, ⟨.slice 126, (.sc .slc), 1, 24, [(.slice none 0 0)]⟩, ti0, ⟨.int .u32, (.sc (.int .u32)), 1, 4, [(.int .u32 0)]⟩, ⟨.struct [(0, 3), (1, 3), (2, 3), (3, 37), (6, 124), (7, 90)], (.agg [(.int .i64), (.int .i64), (.int .i64), (.int .i64), (.int .i64), (.int .i64), (.int .u32), .slc]), 8, 80, [(.int .i64 0), (.int .i64 0), (.int .i64 0), (.int .i64 0), (.int .i64 0), (.int .i64 0), (.int .u32 0), (.slice none 0 0)]⟩, ⟨.struct [(0, 3), (1, 3), (2, 3), (3, 37), (6, 124), (7, 90)], (.agg [(.int .i64), (.int .i64), (.int .i64), (.int .i64), (.int .i64), (.int .i64), (.int .u32), .slc]), 8, 80, [(.int .i64 0), (.int .i64 0), (.int .i64 0), (.int .i64 0), (.int .i64 0), (.int .i64 0), (.int .u32 0), (.slice none 0 0)]⟩, ti0, ti0, ti0, ti0, ti0, ⟨.struct [(0, 9), (1, 3), (2, 3), (3, 22)], (.agg [.str, (.int .i64), (.int .i64), .slc]), 4, 56, [(.string ⟨#[]⟩), (.int .i64 0), (.int .i64 0), (.slice none 0 0)]⟩, ⟨.struct [(0, 9), (1, 3), (2, 3), (3, 22)], (.agg [.str, (.int .i64), (.int .i64), .slc]), 4, 56, [(.string ⟨#[]⟩), (.int .i64 0), (.int .i64 0), (.slice none 0 0)]⟩, ti0, ⟨.struct [(0, 3), (1, 48), (2, 63), (3, 3), (4, 4), (5, 63), (6, 4)], (.agg [(.int .i64), .ptr, .slc, (.int .i64), .bool, .slc, .bool]), 7, 88, [(.int .i64 0), (.pointer none), (.slice none 0 0), (.int .i64 0), (.bool .false), (.slice none 0 0), (.bool .false)]⟩, ⟨.struct [(0, 3), (1, 48), (2, 63), (3, 3), (4, 4), (5, 63), (6, 4)], (.agg [(.int .i64), .ptr, .slc, (.int .i64), .bool, .slc, .bool]), 7, 88, [(.int .i64 0), (.pointer none), (.slice none 0 0), (.int .i64 0), (.bool .false), (.slice none 0 0), (.bool .false)]⟩, ti0, ti0, ti0, ti0, ti0, ti0, ti0, ti0, ti0, ⟨.slice 147, (.sc .slc), 1, 24, [(.slice none 0 0)]⟩, ti8, ti0, ti0, ti1, ⟨.other, (.sc .any), 1, 0, [(.tuple #[(.int .i64 0), (.int .i64 0)])]⟩, ti0, ti0, ⟨.other, (.sc .any), 1, 0, [(.tuple #[(.int .i64 0), (.bool .false)])]⟩, ti0, ti0, ti0, ti4, ti0, ti0, ti0, ti0, ⟨.mp, (.sc .mp), 1, 8, [(.map none)]⟩, ti0, ti6, ti6, ti0, ti0, ti0, ti0, ti0, ti0, ti0, ti0, ⟨.array 64 4, (.arr .bool), 64, 64, List.replicate 64 (.bool .false)⟩, ti4, ti0, ti0, ti0, ⟨.ptr 3, (.sc .ptr), 1, 8, [(.pointer none)]⟩, ti0, ti0, ⟨.other, (.sc .any), 1, 0, [(.tuple #[(.agg #[(.int .i64 0), (.int .i64 0), (.int .i64 0), (.int .i64 0), (.int .i64 0), (.int .i64 0), (.int .u32 0), (.slice none 0 0)]), (.bool .false)])]⟩, ti0, ti0, ti0, ti0, ti0, ti0, ti0, ⟨.cpx, (.sc (.cpx .f64)), 1, 16, [(.complex Go.FloatKind.f64 0 0)]⟩, ti0, ⟨.slice 197, (.sc .slc), 1, 24, [(.slice none 0 0)]⟩, ⟨.flt, (.sc (.flt .f64)), 1, 8, [(.float Go.FloatKind.f64 0)]⟩, ti0, ⟨.struct [(0, 3), (1, 194)], (.agg [(.int .i64), (.flt .f64)]), 2, 16, [(.int .i64 0), (.float Go.FloatKind.f64 0)]⟩, ⟨.struct [(0, 3), (1, 194)], (.agg [(.int .i64), (.flt .f64)]), 2, 16, [(.int .i64 0), (.float Go.FloatKind.f64 0)]⟩, ti0, ti0, ti0, ti0, ti0, ⟨.ptr 176, (.sc .ptr), 1, 8, [(.pointer none)]⟩, ⟨.other, (.sc .any), 1, 0, [(.tuple #[(.int .i64 0), (.int .i64 0)])]⟩, ti0, ⟨.other, (.sc .any), 1, 0, [(.tuple #[(.int .i64 0), (.slice none 0 0), (.bool .false)])]⟩, ti0, ti0, ti0, ti0, ⟨.ptr 214, (.sc .ptr), 1, 8, [(.pointer none)]⟩, ti0, ⟨.struct [(0, 191), (1, 191), (2, 3), (3, 3), (4, 4)], (.agg [(.cpx .f64), (.cpx .f64), (.int .i64), (.int .i64), .bool]), 5, 56, [(.complex Go.FloatKind.f64 0 0), (.complex Go.FloatKind.f64 0 0), (.int .i64 0), (.int .i64 0), (.bool .false)]⟩, ⟨.struct [(0, 191), (1, 191), (2, 3), (3, 3), (4, 4)], (.agg [(.cpx .f64), (.cpx .f64), (.int .i64), (.int .i64), .bool]), 5, 56, [(.complex Go.FloatKind.f64 0 0), (.complex Go.FloatKind.f64 0 0), (.int .i64 0), (.int .i64 0), (.bool .false)]⟩, ti0, ti0, ti0, ti0, ti0, ti0, ti0, ti0, ti0, ti0, ti0, ti0, ti0, ti0, ⟨.struct [(0, 17), (1, 17), (2, 17), (3, 9)], (.agg [.ptr, .ptr, .ptr, .str]), 4, 40, [(.pointer none), (.pointer none), (.pointer none), (.string ⟨#[]⟩)]⟩, ⟨.struct [(0, 17), (1, 17), (2, 17), (3, 9)], (.agg [.ptr, .ptr, .ptr, .str]), 4, 40, [(.pointer none), (.pointer none), (.pointer none), (.string ⟨#[]⟩)]⟩, ⟨.array 0 16, (.arr .ptr), 0, 0, []⟩, ⟨.struct [(0, 231)], (.agg []), 0, 0, []⟩, ⟨.struct [(0, 231)], (.agg []), 0, 0, []⟩, ti2, ti2, ti0, ⟨.ptr 5, (.sc .ptr), 1, 8, [(.pointer none)]⟩, ti5, ti5, ⟨.struct [(0, 12), (1, 12), (2, 124), (3, 234), (4, 5), (5, 5), (6, 235), (7, 236), (8, 237), (9, 238), (10, 239)], (.agg [(.int .u64), (.int .u64), (.int .u32), (.int .u8), (.int .u8), (.int .u8), (.int .u8), .fn, .ptr, (.int .i32), (.int .i32)]), 11, 48, [(.int .u64 0), (.int .u64 0), (.int .u32 0), (.int .u8 0), (.int .u8 0), (.int .u8 0), (.int .u8 0), .nilFunc, (.pointer none), (.int .i32 0), (.int .i32 0)]⟩, ⟨.struct [(0, 12), (1, 12), (2, 124), (3, 234), (4, 5), (5, 5), (6, 235), (7, 236), (8, 237), (9, 238), (10, 239)], (.agg [(.int .u64), (.int .u64), (.int .u32), (.int .u8), (.int .u8), (.int .u8), (.int .u8), .fn, .ptr, (.int .i32), (.int .i32)]), 11, 48, [(.int .u64 0), (.int .u64 0), (.int .u32 0), (.int .u8 0), (.int .u8 0), (.int .u8 0), (.int .u8 0), .nilFunc, (.pointer none), (.int .i32 0), (.int .i32 0)]⟩, ⟨.other, (.sc .any), 1, 8, [(.pointer none)]⟩]
noncomputable def C : Ctx := { P := Tryz.prog, T := tbl, tup := [(0, []), (25, [(.sc .ptr), (.sc .ptr)]), (46, [(.agg [(.int .i64), (.int .i64), (.int .i64)]), (.sc (.int .i64)), (.sc .slc)]), (51, [(.sc .ptr), (.sc (.int .i64))]), (53, [(.sc .ptr), (.sc (.int .i64))]), (99, [(.sc .slc), (.sc .bool)]), (102, [(.agg [(.int .i64), (.int .i64), (.int .i64), (.int .i64), (.int .i64), (.int .i64), .slc, .slc]), (.sc (.int .i64))]), (151, [(.sc (.int .i64)), (.sc (.int .i64))]), (154, [(.sc (.int .i64)), (.sc .bool)]), (183, [(.agg [(.int .i64), (.int .i64), (.int .i64), (.int .i64), (.int .i64), (.int .i64), (.int .u32), .slc]), (.sc .bool)]), (204, [(.sc (.int .i64)), (.sc (.int .i64))]), (206, [(.sc (.int .i64)), (.sc .slc), (.sc .bool)])], fns := [false, false] ++ List.replicate 194 true ++ List.replicate 19 false }
theorem C_tbl : (List.range C.T.length).map (Tbl.seen C.P) = C.T.map Tbl.told := by kernel_rfl
theorem C_mixed : C.P.follows .mixedOrders = true := by kernel_rfl
theorem C_fns : (C.P.funcs.toList.map fun f => !(f.name == "runtime.NumGoroutine") && f.body.isSome) = C.fns := by kernel_rfl
theorem C_ok : C.Ok := { tbl := C_tbl, mixed := C_mixed, fns := C_fns }
abbrev wellspringlaw30_FleetErrors_id : FuncId := 3
noncomputable def wellspringlaw30_FleetErrors_m (c_0 : Sl) (slot_1 : Int) (cells_2 : Int) (R : Value → Heap → Prop) (h : Heap) : Prop :=
  CallM Tryz.prog 4 #[(.slice c_0.ptr c_0.len c_0.cap)] (.many [(.sc .ptr), (.sc .ptr)]) h fun r1 h1 =>
  JoinM (σ := Unit) (fun _ h4 =>
  CallM Tryz.prog 6 #[(.int .i64 slot_1), (.int .i64 (1000 : Int))] (.one (.sc (.int .i64))) h4 fun r5 h5 =>
  CallM Tryz.prog 6 #[(.int .i64 cells_2), (.int .i64 (1000 : Int))] (.one (.sc (.int .i64))) h5 fun r6 h6 =>
  JoinM (σ := Unit) (fun _ h14 =>
  JoinM (σ := Unit) (fun _ h21 =>
  JoinM (σ := Unit) (fun _ h31 =>
  CallM Tryz.prog 16 #[(.pointer r1.1)] (.one (.sc .ptr)) h31 fun r32 h32 =>
  CallM Tryz.prog 17 #[(.pointer r32), (.int .i64 (0 : Int))] (.many []) h32 fun _ h33 =>
  CallM Tryz.prog 16 #[(.pointer r1.1)] (.one (.sc .ptr)) h33 fun r34 h34 =>
  CallM Tryz.prog 18 #[(.pointer r34)] (.one (.sc .bool)) h34 fun _ h35 =>
  LoopM (σ := Option Addr × Int) (fun s36 K6 h36 =>
  Br (decide (s36.2 < (2 : Int)))
  (CallM Tryz.prog 7 #[(.pointer s36.1), (.int .i64 (IntKind.wrap .i64 ((64 : Int) + r5))), (.int .i64 cells_2)] (.one (.sc (.int .i64))) h36 fun r37 h37 =>
  Br (r37 != (14 : Int)) (R (.bool false) h37) (CallM Tryz.prog 9 #[(.pointer s36.1), (.int .i64 (IntKind.wrap .i64 ((64 : Int) + r5)))] (.one (.sc (.int .i64))) h37 fun r38 h38 =>
  Br (r38 != (14 : Int)) (R (.bool false) h38) (CallM Tryz.prog 8 #[(.pointer s36.1), (.int .i64 (IntKind.wrap .i64 ((64 : Int) + r5))), (.int .i64 cells_2)] (.one (.sc (.int .i64))) h38 fun r39 h39 =>
  Br (r39 != (14 : Int)) (R (.bool false) h39) (CallM Tryz.prog 10 #[(.pointer s36.1), (.int .i64 (IntKind.wrap .i64 ((64 : Int) + r5)))] (.one (.sc (.int .i64))) h39 fun r40 h40 =>
  Br (r40 != (14 : Int))
  (R (.bool false) h40)
  (K6 (none, IntKind.wrap .i64 (s36.2 + (1 : Int))) h40)))))
  (CallM Tryz.prog 5 #[] (.one (.sc .bool)) h36 fun r41 h41 =>
  R (.bool r41) h41)) (r1.1, (0 : Int)) h35)
  (fun K5 =>
  CallM Tryz.prog 10 #[(.pointer r1.1), (.int .i64 (0 : Int))] (.one (.sc (.int .i64))) h21 fun r22 h22 =>
  Br (r22 != (0 : Int)) (R (.bool false) h22) (CallM Tryz.prog 10 #[(.pointer r1.1), (.int .i64 (0 : Int))] (.one (.sc (.int .i64))) h22 fun r23 h23 =>
  Br (r23 != (5 : Int)) (R (.bool false) h23) (CallM Tryz.prog 7 #[(.pointer r1.1), (.int .i64 (0 : Int)), (.int .i64 (9 : Int))] (.one (.sc (.int .i64))) h23 fun r24 h24 =>
  Br (r24 != (4 : Int)) (R (.bool false) h24) (CallM Tryz.prog 8 #[(.pointer r1.1), (.int .i64 (0 : Int)), (.int .i64 (9 : Int))] (.one (.sc (.int .i64))) h24 fun r25 h25 =>
  Br (r25 != (0 : Int)) (R (.bool false) h25) (CallM Tryz.prog 12 #[(.pointer r1.1), (.int .i64 (0 : Int))] (.one (.sc .ptr)) h25 fun r26 h26 =>
  CallM Tryz.prog 13 #[(.pointer r26)] (.one (.sc .bool)) h26 fun r27 h27 =>
  Br r27 (R (.bool false) h27) (CallM Tryz.prog 12 #[(.pointer r1.1), (.int .i64 (0 : Int))] (.one (.sc .ptr)) h27 fun r28 h28 =>
  CallM Tryz.prog 15 #[(.pointer r1.1)] (.one (.agg [(.int .i64), (.int .i64), (.int .i64), (.int .i64), (.int .i64), (.int .i64), .slc, .slc])) h28 fun r29 h29 =>
  CallM Tryz.prog 14 #[(.pointer r28), (.agg #[(.int .i64 r29.1), (.int .i64 r29.2.1), (.int .i64 r29.2.2.1), (.int .i64 r29.2.2.2.1), (.int .i64 r29.2.2.2.2.1), (.int .i64 r29.2.2.2.2.2.1), (.slice r29.2.2.2.2.2.2.1.ptr r29.2.2.2.2.2.2.1.len r29.2.2.2.2.2.2.1.cap), (.slice r29.2.2.2.2.2.2.2.ptr r29.2.2.2.2.2.2.2.len r29.2.2.2.2.2.2.2.cap)])] (.one (.sc .bool)) h29 fun r30 h30 =>
  Br (!r30)
  (R (.bool false) h30)
  (K5 () h30))))))))
  (fun K4 =>
  CallM Tryz.prog 8 #[(.pointer r1.1), (.int .i64 (40 : Int)), (.int .i64 (9 : Int))] (.one (.sc (.int .i64))) h14 fun r15 h15 =>
  Br (r15 != (5 : Int)) (R (.bool false) h15) (CallM Tryz.prog 8 #[(.pointer r1.1), (.int .i64 (0 : Int)), (.int .i64 (9 : Int))] (.one (.sc (.int .i64))) h15 fun r16 h16 =>
  Br (r16 != (4 : Int)) (R (.bool false) h16) (CallM Tryz.prog 9 #[(.pointer r1.1), (.int .i64 (IntKind.wrap .i64 ((64 : Int) + r5)))] (.one (.sc (.int .i64))) h16 fun r17 h17 =>
  Br (r17 != (5 : Int)) (R (.bool false) h17) (CallM Tryz.prog 9 #[(.pointer r1.1), (.int .i64 (40 : Int))] (.one (.sc (.int .i64))) h17 fun r18 h18 =>
  Br (r18 != (5 : Int)) (R (.bool false) h18) (CallM Tryz.prog 10 #[(.pointer r1.1), (.int .i64 (IntKind.wrap .i64 ((64 : Int) + r5)))] (.one (.sc (.int .i64))) h18 fun r19 h19 =>
  Br (r19 != (5 : Int)) (R (.bool false) h19) (CallM Tryz.prog 11 #[(.pointer r1.1), (.pointer r1.2)] (.one (.sc .bool)) h19 fun r20 h20 =>
  Br (!r20)
  (R (.bool false) h20)
  (K4 () h20))))))))
  (fun K3 =>
  CallM Tryz.prog 7 #[(.pointer r1.1), (.int .i64 (IntKind.wrap .i64 ((64 : Int) + r5))), (.int .i64 (5 : Int))] (.one (.sc (.int .i64))) h6 fun r7 h7 =>
  Br (r7 != (1 : Int)) (R (.bool false) h7) (CallM Tryz.prog 6 #[(.int .i64 slot_1), (.int .i64 (9 : Int))] (.one (.sc (.int .i64))) h7 fun r8 h8 =>
  CallM Tryz.prog 7 #[(.pointer r1.1), (.int .i64 (IntKind.wrap .i64 ((-1 : Int) - r8))), (.int .i64 (5 : Int))] (.one (.sc (.int .i64))) h8 fun r9 h9 =>
  Br (r9 != (1 : Int)) (R (.bool false) h9) (CallM Tryz.prog 7 #[(.pointer r1.1), (.int .i64 (0 : Int)), (.int .i64 (IntKind.wrap .i64 ((513 : Int) + r6)))] (.one (.sc (.int .i64))) h9 fun r10 h10 =>
  Br (r10 != (1 : Int)) (R (.bool false) h10) (CallM Tryz.prog 7 #[(.pointer r1.1), (.int .i64 (0 : Int)), (.int .i64 (0 : Int))] (.one (.sc (.int .i64))) h10 fun r11 h11 =>
  Br (r11 != (1 : Int)) (R (.bool false) h11) (CallM Tryz.prog 8 #[(.pointer r1.1), (.int .i64 (IntKind.wrap .i64 ((64 : Int) + r5))), (.int .i64 (9 : Int))] (.one (.sc (.int .i64))) h11 fun r12 h12 =>
  Br (r12 != (1 : Int)) (R (.bool false) h12) (CallM Tryz.prog 8 #[(.pointer r1.1), (.int .i64 (0 : Int)), (.int .i64 (IntKind.wrap .i64 ((513 : Int) + r6)))] (.one (.sc (.int .i64))) h12 fun r13 h13 =>
  Br (r13 != (1 : Int))
  (R (.bool false) h13)
  (K3 () h13))))))))
  (fun K1 =>
  JoinM (σ := Bool) (fun s2 h2 =>
  Br s2
  (Br (Option.isNone r1.1) (Br (Option.isNone r1.2) (CallM Tryz.prog 5 #[] (.one (.sc .bool)) h2 fun r3 h3 =>
  R (.bool r3) h3) (R (.bool false) h2)) (R (.bool false) h2))
  (K1 () h2))
  (fun K2 =>
  Br (Option.isNone r1.1) (K2 true h1) (K2 (Option.isNone r1.2) h1)))
theorem wellspringlaw30_FleetErrors_run (c_0 : Sl) (slot_1 : Int) (cells_2 : Int) {R : Value → Heap → Prop} {h : Heap} (hm : wellspringlaw30_FleetErrors_m c_0 slot_1 cells_2 R h) : Meets Tryz.prog 3 #[(.slice c_0.ptr c_0.len c_0.cap), (.int .i64 slot_1), (.int .i64 cells_2)] h R := fn_tie C_ok Tryz.func3 (.two .n (.two .n (.two (.join [] [(6, 7), (18, 33)] (.two (.join [(23, (.sc .bool))] [(18, 24)] .n) .n)) (.two .n (.two .n (.two (.join [] [(6, 7), (41, 77)] .n) (.two (.join [] [(6, 7), (77, 108)] .n) (.two (.join [] [(6, 7), (108, 139)] .n) (.two .n (.two .n (.two (.two .n (.inn (.loop [(7, (.sc .ptr)), (12, (.sc (.int .i64)))] [(6, 8), (12, 13), (145, 173)] .n))) .n))))))))))) hm
abbrev wellspringlaw29_Both_id : FuncId := 4
noncomputable def wellspringlaw29_Both_m (l_0 : Sl) (R : Value → Heap → Prop) (h : Heap) : Prop :=
  CallM Tryz.prog 19 #[(.slice l_0.ptr l_0.len l_0.cap)] (.many [(.agg [(.int .i64), (.int .i64), (.int .i64)]), (.sc (.int .i64)), (.sc .slc)]) h fun r1 h1 =>
  RunsA Tryz.prog (Instr.alloc 37 true (.tuple #[])) h1 fun a2 h2 =>
  Runs Tryz.prog (Instr.storeAt 37 (.pointer (some a2)) (.agg #[(.int .i64 r1.1.1), (.int .i64 r1.1.2.1), (.int .i64 r1.1.2.2)])) h2 fun _ h3 =>
  CallM Tryz.prog 20 #[] (.one (.sc .ptr)) h3 fun r3 h4 =>
  RunsA Tryz.prog (Instr.box 50 (.agg #[(.bool false), (.bool false), (.int .i64 (0 : Int)), (.int .i64 (0 : Int))])) h4 fun a4 h5 =>
  ∃ x5 : Int × Int × Int, cellsAt h5 a2 0 [(.int .i64 x5.1), (.int .i64 x5.2.1), (.int .i64 x5.2.2)] ∧
  CallM Tryz.prog 21 #[(.agg #[(.int .i64 x5.1), (.int .i64 x5.2.1), (.int .i64 x5.2.2)]), (.int .i64 r1.2.1), (.pointer r3), (.slice r1.2.2.ptr r1.2.2.len r1.2.2.cap)] (.many [(.sc .ptr), (.sc (.int .i64))]) h5 fun r6 h6 =>
  ∃ x7 : Int × Int × Int, cellsAt h6 a2 0 [(.int .i64 x7.1), (.int .i64 x7.2.1), (.int .i64 x7.2.2)] ∧
  CallM Tryz.prog 22 #[(.agg #[(.int .i64 x7.1), (.int .i64 x7.2.1), (.int .i64 x7.2.2)]), (.int .i64 r1.2.1), (.pointer (some a4)), (.slice r1.2.2.ptr r1.2.2.len r1.2.2.cap)] (.many [(.sc .ptr), (.sc (.int .i64))]) h6 fun r8 h7 =>
  R (.tuple #[(.pointer r6.1), (.pointer r8.1)]) h7
theorem wellspringlaw29_Both_run (l_0 : Sl) {R : Value → Heap → Prop} {h : Heap} (hm : wellspringlaw29_Both_m l_0 R h) : Meets Tryz.prog 4 #[(.slice l_0.ptr l_0.len l_0.cap)] h R := fn_tie C_ok Tryz.func4 .n hm
abbrev wellspringlaw30_wakes_id : FuncId := 5
noncomputable def wellspringlaw30_wakes_m  (R : Value → Heap → Prop) (h : Heap) : Prop :=
  CallM Tryz.prog 20 #[] (.one (.sc .ptr)) h fun r1 h1 =>
  RunsR Tryz.prog (Instr.buildSlice 22 1 #[(0, (.int .i64 (5 : Int)))]) (.one (.sc .slc)) h1 fun v2 h2 =>
  CallM Tryz.prog 21 #[(.agg #[(.int .i64 (1 : Int)), (.int .i64 (1 : Int)), (.int .i64 (1 : Int))]), (.int .i64 (0 : Int)), (.pointer r1), (.slice v2.ptr v2.len v2.cap)] (.many [(.sc .ptr), (.sc (.int .i64))]) h2 fun r3 h3 =>
  Br (r3.2 == (0 : Int)) (CallM Tryz.prog 10 #[(.pointer r3.1), (.int .i64 (3 : Int))] (.one (.sc (.int .i64))) h3 fun r4 h4 =>
  Br (r4 == (5 : Int)) (CallM Tryz.prog 7 #[(.pointer r3.1), (.int .i64 (0 : Int)), (.int .i64 (5 : Int))] (.one (.sc (.int .i64))) h4 fun r5 h5 =>
  R (.bool (r5 == (4 : Int))) h5) (R (.bool false) h4)) (R (.bool false) h3)
theorem wellspringlaw30_wakes_run  {R : Value → Heap → Prop} {h : Heap} (hm : wellspringlaw30_wakes_m  R h) : Meets Tryz.prog 5 #[] h R := fn_tie C_ok Tryz.func5 .n hm
abbrev wellspringkeep_Within_id : FuncId := 6
noncomputable def wellspringkeep_Within_m (x_0 : Int) (n_1 : Int) (R : Value → Heap → Prop) (h : Heap) : Prop :=
  (n_1 ≠ 0) ∧
  JoinM (σ := Int) (fun s1 h1 =>
  R (.int .i64 s1) h1)
  (fun K1 =>
  Br (decide ((Int.tmod x_0 n_1) < (0 : Int)))
  (K1 (IntKind.wrap .i64 ((Int.tmod x_0 n_1) + n_1)) h)
  (K1 (Int.tmod x_0 n_1) h))
theorem wellspringkeep_Within_run (x_0 : Int) (n_1 : Int) {R : Value → Heap → Prop} {h : Heap} (hm : wellspringkeep_Within_m x_0 n_1 R h) : Meets Tryz.prog 6 #[(.int .i64 x_0), (.int .i64 n_1)] h R := fn_tie C_ok Tryz.func6 (.two .n (.two .n (.two (.join [(0, (.sc (.int .i64)))] [(0, 1), (8, 13)] .n) .n))) hm
abbrev fleet_Add_id : FuncId := 7
noncomputable def fleet_Add_m (s_0 : Option Addr) (slot_1 : Int) (cells_2 : Int) (R : Value → Heap → Prop) (h : Heap) : Prop :=
  CallM Tryz.prog 23 #[(.pointer s_0)] (.one (.sc .bool)) h fun r1 h1 =>
  Br r1
  (R (.int .i64 (14 : Int)) h1)
  (CallM Tryz.prog 15 #[(.pointer s_0)] (.one (.agg [(.int .i64), (.int .i64), (.int .i64), (.int .i64), (.int .i64), (.int .i64), .slc, .slc])) h1 fun r2 h2 =>
  RunsA Tryz.prog (Instr.alloc 40 true (.tuple #[])) h2 fun a3 h3 =>
  Runs Tryz.prog (Instr.storeAt 40 (.pointer (some a3)) (.agg #[(.int .i64 r2.1), (.int .i64 r2.2.1), (.int .i64 r2.2.2.1), (.int .i64 r2.2.2.2.1), (.int .i64 r2.2.2.2.2.1), (.int .i64 r2.2.2.2.2.2.1), (.slice r2.2.2.2.2.2.2.1.ptr r2.2.2.2.2.2.2.1.len r2.2.2.2.2.2.2.1.cap), (.slice r2.2.2.2.2.2.2.2.ptr r2.2.2.2.2.2.2.2.len r2.2.2.2.2.2.2.2.cap)])) h3 fun _ h4 =>
  CallM Tryz.prog 24 #[(.int .i64 slot_1), (.int .i64 cells_2)] (.one (.sc .bool)) h4 fun r4 h5 =>
  Br (!r4)
  (R (.int .i64 (1 : Int)) h5)
  (∃ x5 : Sl, cellOf h5 (a3.add 6) = some (.slice x5.ptr x5.len x5.cap) ∧
  CallM Tryz.prog 25 #[(.slice x5.ptr x5.len x5.cap), (.int .i64 slot_1)] (.one (.sc .bool)) h5 fun r6 h6 =>
  Br r6
  (R (.int .i64 (4 : Int)) h6)
  (∃ x7 : Int, cellOf h6 a3 = some (.int .i64 x7) ∧
  Br (decide (x7 ≥ (2147483647 : Int)))
  (R (.int .i64 (7 : Int)) h6)
  (CallM Tryz.prog 16 #[(.pointer s_0)] (.one (.sc .ptr)) h6 fun r8 h7 =>
  CallM Tryz.prog 27 #[(.int .i64 cells_2), (.pointer r8)] (.one (.sc .ptr)) h7 fun r9 h8 =>
  CallM Tryz.prog 26 #[(.pointer s_0), (.int .i64 slot_1), (.pointer r9)] (.many []) h8 fun _ h9 =>
  ∃ x11 : Int, cellOf h9 a3 = some (.int .i64 x11) ∧
  Runs Tryz.prog (Instr.storeAt 3 (.pointer (some a3)) (.int .i64 (IntKind.wrap .i64 (x11 + (1 : Int))))) h9 fun _ h10 =>
  ∃ x12 : Sl, cellOf h10 (a3.add 6) = some (.slice x12.ptr x12.len x12.cap) ∧
  RunsR Tryz.prog (Instr.buildSlice 22 1 #[(0, (.int .i64 slot_1))]) (.one (.sc .slc)) h10 fun v13 h11 =>
  RunsR Tryz.prog (Builtin.append_ #[22, 22] 22 #[(.slice x12.ptr x12.len x12.cap), (.slice v13.ptr v13.len v13.cap)]) (.one (.sc .slc)) h11 fun v14 h12 =>
  Runs Tryz.prog (Instr.storeAt 22 (.pointer (some (a3.add 6))) (.slice v14.ptr v14.len v14.cap)) h12 fun _ h13 =>
  ∃ x15 : Sl, cellOf h13 (a3.add 6) = some (.slice x15.ptr x15.len x15.cap) ∧
  CallM Tryz.prog 28 #[(.slice x15.ptr x15.len x15.cap)] (.many []) h13 fun _ h14 =>
  ∃ x17 : Int × Int × Int × Int × Int × Int × Sl × Sl, cellsAt h14 a3 0 [(.int .i64 x17.1), (.int .i64 x17.2.1), (.int .i64 x17.2.2.1), (.int .i64 x17.2.2.2.1), (.int .i64 x17.2.2.2.2.1), (.int .i64 x17.2.2.2.2.2.1), (.slice x17.2.2.2.2.2.2.1.ptr x17.2.2.2.2.2.2.1.len x17.2.2.2.2.2.2.1.cap), (.slice x17.2.2.2.2.2.2.2.ptr x17.2.2.2.2.2.2.2.len x17.2.2.2.2.2.2.2.cap)] ∧
  CallM Tryz.prog 29 #[(.pointer s_0), (.agg #[(.int .i64 x17.1), (.int .i64 x17.2.1), (.int .i64 x17.2.2.1), (.int .i64 x17.2.2.2.1), (.int .i64 x17.2.2.2.2.1), (.int .i64 x17.2.2.2.2.2.1), (.slice x17.2.2.2.2.2.2.1.ptr x17.2.2.2.2.2.2.1.len x17.2.2.2.2.2.2.1.cap), (.slice x17.2.2.2.2.2.2.2.ptr x17.2.2.2.2.2.2.2.len x17.2.2.2.2.2.2.2.cap)])] (.one (.sc (.int .i64))) h14 fun r18 h15 =>
  JoinM (σ := Unit) (fun _ h17 =>
  R (.int .i64 r18) h17)
  (fun K1 =>
  Br (r18 == (7 : Int))
  (CallM Tryz.prog 26 #[(.pointer s_0), (.int .i64 slot_1), (.pointer none)] (.many []) h15 fun _ h16 =>
  K1 () h16)
  (K1 () h15))))))
theorem fleet_Add_run (s_0 : Option Addr) (slot_1 : Int) (cells_2 : Int) {R : Value → Heap → Prop} {h : Heap} (hm : fleet_Add_m s_0 slot_1 cells_2 R h) : Meets Tryz.prog 7 #[(.pointer s_0), (.int .i64 slot_1), (.int .i64 cells_2)] h R := fn_tie C_ok Tryz.func7 (.two .n (.two .n (.two .n (.two .n (.two .n (.two .n (.two .n (.two .n (.two .n (.two (.join [] [(50, 55)] .n) .n)))))))))) hm
abbrev fleet_Replace_id : FuncId := 8
noncomputable def fleet_Replace_m (s_0 : Option Addr) (slot_1 : Int) (cells_2 : Int) (R : Value → Heap → Prop) (h : Heap) : Prop :=
  CallM Tryz.prog 23 #[(.pointer s_0)] (.one (.sc .bool)) h fun r1 h1 =>
  Br r1
  (R (.int .i64 (14 : Int)) h1)
  (CallM Tryz.prog 15 #[(.pointer s_0)] (.one (.agg [(.int .i64), (.int .i64), (.int .i64), (.int .i64), (.int .i64), (.int .i64), .slc, .slc])) h1 fun r2 h2 =>
  RunsA Tryz.prog (Instr.alloc 40 true (.tuple #[])) h2 fun a3 h3 =>
  Runs Tryz.prog (Instr.storeAt 40 (.pointer (some a3)) (.agg #[(.int .i64 r2.1), (.int .i64 r2.2.1), (.int .i64 r2.2.2.1), (.int .i64 r2.2.2.2.1), (.int .i64 r2.2.2.2.2.1), (.int .i64 r2.2.2.2.2.2.1), (.slice r2.2.2.2.2.2.2.1.ptr r2.2.2.2.2.2.2.1.len r2.2.2.2.2.2.2.1.cap), (.slice r2.2.2.2.2.2.2.2.ptr r2.2.2.2.2.2.2.2.len r2.2.2.2.2.2.2.2.cap)])) h3 fun _ h4 =>
  CallM Tryz.prog 24 #[(.int .i64 slot_1), (.int .i64 cells_2)] (.one (.sc .bool)) h4 fun r4 h5 =>
  Br (!r4)
  (R (.int .i64 (1 : Int)) h5)
  (∃ x5 : Sl, cellOf h5 (a3.add 6) = some (.slice x5.ptr x5.len x5.cap) ∧
  CallM Tryz.prog 25 #[(.slice x5.ptr x5.len x5.cap), (.int .i64 slot_1)] (.one (.sc .bool)) h5 fun r6 h6 =>
  Br (!r6)
  (R (.int .i64 (5 : Int)) h6)
  (CallM Tryz.prog 30 #[(.pointer s_0)] (.one (.sc .slc)) h6 fun r7 h7 =>
  CallM Tryz.prog 25 #[(.slice r7.ptr r7.len r7.cap), (.int .i64 slot_1)] (.one (.sc .bool)) h7 fun r8 h8 =>
  Br r8
  (R (.int .i64 (4 : Int)) h8)
  (∃ x9 : Int × Int × Int × Int × Int × Int × Sl × Sl, cellsAt h8 a3 0 [(.int .i64 x9.1), (.int .i64 x9.2.1), (.int .i64 x9.2.2.1), (.int .i64 x9.2.2.2.1), (.int .i64 x9.2.2.2.2.1), (.int .i64 x9.2.2.2.2.2.1), (.slice x9.2.2.2.2.2.2.1.ptr x9.2.2.2.2.2.2.1.len x9.2.2.2.2.2.2.1.cap), (.slice x9.2.2.2.2.2.2.2.ptr x9.2.2.2.2.2.2.2.len x9.2.2.2.2.2.2.2.cap)] ∧
  CallM Tryz.prog 31 #[(.agg #[(.int .i64 x9.1), (.int .i64 x9.2.1), (.int .i64 x9.2.2.1), (.int .i64 x9.2.2.2.1), (.int .i64 x9.2.2.2.2.1), (.int .i64 x9.2.2.2.2.2.1), (.slice x9.2.2.2.2.2.2.1.ptr x9.2.2.2.2.2.2.1.len x9.2.2.2.2.2.2.1.cap), (.slice x9.2.2.2.2.2.2.2.ptr x9.2.2.2.2.2.2.2.len x9.2.2.2.2.2.2.2.cap)])] (.one (.sc .slc)) h8 fun r10 h9 =>
  Br (decide (cells_2 < ((r10.len : Nat) : Int)))
  (R (.int .i64 (7 : Int)) h9)
  (CallM Tryz.prog 16 #[(.pointer s_0)] (.one (.sc .ptr)) h9 fun r11 h10 =>
  CallM Tryz.prog 27 #[(.int .i64 cells_2), (.pointer r11)] (.one (.sc .ptr)) h10 fun r12 h11 =>
  CallM Tryz.prog 26 #[(.pointer s_0), (.int .i64 slot_1), (.pointer r12)] (.many []) h11 fun _ h12 =>
  ∃ x14 : Int × Int × Int × Int × Int × Int × Sl × Sl, cellsAt h12 a3 0 [(.int .i64 x14.1), (.int .i64 x14.2.1), (.int .i64 x14.2.2.1), (.int .i64 x14.2.2.2.1), (.int .i64 x14.2.2.2.2.1), (.int .i64 x14.2.2.2.2.2.1), (.slice x14.2.2.2.2.2.2.1.ptr x14.2.2.2.2.2.2.1.len x14.2.2.2.2.2.2.1.cap), (.slice x14.2.2.2.2.2.2.2.ptr x14.2.2.2.2.2.2.2.len x14.2.2.2.2.2.2.2.cap)] ∧
  RunsR Tryz.prog (Instr.buildSlice 22 1 #[(0, (.int .i64 slot_1))]) (.one (.sc .slc)) h12 fun v15 h13 =>
  CallM Tryz.prog 33 #[(.agg #[(.int .i64 x14.1), (.int .i64 x14.2.1), (.int .i64 x14.2.2.1), (.int .i64 x14.2.2.2.1), (.int .i64 x14.2.2.2.2.1), (.int .i64 x14.2.2.2.2.2.1), (.slice x14.2.2.2.2.2.2.1.ptr x14.2.2.2.2.2.2.1.len x14.2.2.2.2.2.2.1.cap), (.slice x14.2.2.2.2.2.2.2.ptr x14.2.2.2.2.2.2.2.len x14.2.2.2.2.2.2.2.cap)]), (.slice v15.ptr v15.len v15.cap)] (.one (.sc .slc)) h13 fun r16 h14 =>
  CallM Tryz.prog 32 #[(.func (.func 12) #[(.pointer s_0)] #[]), (.slice r16.ptr r16.len r16.cap)] (.one (.sc (.int .i64))) h14 fun r17 h15 =>
  R (.int .i64 r17) h15)))))
theorem fleet_Replace_run (s_0 : Option Addr) (slot_1 : Int) (cells_2 : Int) {R : Value → Heap → Prop} {h : Heap} (hm : fleet_Replace_m s_0 slot_1 cells_2 R h) : Meets Tryz.prog 8 #[(.pointer s_0), (.int .i64 slot_1), (.int .i64 cells_2)] h R := fn_tie C_ok Tryz.func8 .n hm
abbrev fleet_Retire_id : FuncId := 9
noncomputable def fleet_Retire_m (s_0 : Option Addr) (slot_1 : Int) (R : Value → Heap → Prop) (h : Heap) : Prop :=
  RunsA Tryz.prog (Instr.box 3 (.int .i64 slot_1)) h fun a1 h1 =>
  CallM Tryz.prog 23 #[(.pointer s_0)] (.one (.sc .bool)) h1 fun r2 h2 =>
  Br r2
  (R (.int .i64 (14 : Int)) h2)
  (CallM Tryz.prog 15 #[(.pointer s_0)] (.one (.agg [(.int .i64), (.int .i64), (.int .i64), (.int .i64), (.int .i64), (.int .i64), .slc, .slc])) h2 fun r3 h3 =>
  RunsA Tryz.prog (Instr.alloc 40 true (.tuple #[])) h3 fun a4 h4 =>
  Runs Tryz.prog (Instr.storeAt 40 (.pointer (some a4)) (.agg #[(.int .i64 r3.1), (.int .i64 r3.2.1), (.int .i64 r3.2.2.1), (.int .i64 r3.2.2.2.1), (.int .i64 r3.2.2.2.2.1), (.int .i64 r3.2.2.2.2.2.1), (.slice r3.2.2.2.2.2.2.1.ptr r3.2.2.2.2.2.2.1.len r3.2.2.2.2.2.2.1.cap), (.slice r3.2.2.2.2.2.2.2.ptr r3.2.2.2.2.2.2.2.len r3.2.2.2.2.2.2.2.cap)])) h4 fun _ h5 =>
  ∃ x5 : Sl, cellOf h5 (a4.add 6) = some (.slice x5.ptr x5.len x5.cap) ∧
  ∃ x6 : Int, cellOf h5 a1 = some (.int .i64 x6) ∧
  CallM Tryz.prog 25 #[(.slice x5.ptr x5.len x5.cap), (.int .i64 x6)] (.one (.sc .bool)) h5 fun r7 h6 =>
  Br (!r7)
  (R (.int .i64 (5 : Int)) h6)
  (RunsA Tryz.prog (Instr.alloc 68 true (.tuple #[])) h6 fun a8 h7 =>
  Runs Tryz.prog (Instr.storeAt 68 (.pointer (some a8)) (.func (.func 34) #[] #[(.pointer (some a1))])) h7 fun _ h8 =>
  JoinM (σ := Option Addr) (fun s13 h11 =>
  CallM Tryz.prog 30 #[(.pointer s_0)] (.one (.sc .slc)) h11 fun r14 h12 =>
  CallM Tryz.prog 35 #[(.slice r14.ptr r14.len r14.cap), (.func (.func 36) #[] #[(.pointer (some a8))])] (.one (.sc .slc)) h12 fun r15 h13 =>
  ∃ a16 : Addr, (s13 = some a16) ∧
  Runs Tryz.prog (Instr.storeAt 22 (.pointer (some (a16.add 17))) (.slice r15.ptr r15.len r15.cap)) h13 fun _ h14 =>
  JoinM (σ := Unit) (fun _ h15 =>
  ∃ a21 : Addr, (s13 = some a21) ∧
  ∃ x22 : Int, cellOf h15 (a21.add 9) = some (.int .i64 x22) ∧
  ∃ a23 : Addr, (s13 = some a23) ∧
  Runs Tryz.prog (Instr.storeAt 3 (.pointer (some (a23.add 9))) (.int .i64 (IntKind.wrap .i64 (x22 + (1 : Int))))) h15 fun _ h16 =>
  ∃ a24 : Addr, (s13 = some a24) ∧
  ∃ x25 : Sl, cellOf h16 ((a24.add 9).add 6) = some (.slice x25.ptr x25.len x25.cap) ∧
  CallM Tryz.prog 35 #[(.slice x25.ptr x25.len x25.cap), (.func (.func 37) #[] #[(.pointer (some a8))])] (.one (.sc .slc)) h16 fun r26 h17 =>
  ∃ a27 : Addr, (s13 = some a27) ∧
  Runs Tryz.prog (Instr.storeAt 22 (.pointer (some ((a27.add 9).add 6))) (.slice r26.ptr r26.len r26.cap)) h17 fun _ h18 =>
  ∃ a28 : Addr, (s13 = some a28) ∧
  ∃ x29 : Int × Int × Int × Int × Int × Int × Sl × Sl, cellsAt h18 (a28.add 9) 0 [(.int .i64 x29.1), (.int .i64 x29.2.1), (.int .i64 x29.2.2.1), (.int .i64 x29.2.2.2.1), (.int .i64 x29.2.2.2.2.1), (.int .i64 x29.2.2.2.2.2.1), (.slice x29.2.2.2.2.2.2.1.ptr x29.2.2.2.2.2.2.1.len x29.2.2.2.2.2.2.1.cap), (.slice x29.2.2.2.2.2.2.2.ptr x29.2.2.2.2.2.2.2.len x29.2.2.2.2.2.2.2.cap)] ∧
  CallM Tryz.prog 31 #[(.agg #[(.int .i64 x29.1), (.int .i64 x29.2.1), (.int .i64 x29.2.2.1), (.int .i64 x29.2.2.2.1), (.int .i64 x29.2.2.2.2.1), (.int .i64 x29.2.2.2.2.2.1), (.slice x29.2.2.2.2.2.2.1.ptr x29.2.2.2.2.2.2.1.len x29.2.2.2.2.2.2.1.cap), (.slice x29.2.2.2.2.2.2.2.ptr x29.2.2.2.2.2.2.2.len x29.2.2.2.2.2.2.2.cap)])] (.one (.sc .slc)) h18 fun r30 h19 =>
  ∃ a31 : Addr, (s13 = some a31) ∧
  Runs Tryz.prog (Instr.storeAt 3 (.pointer (some (a31.add 18))) (.int .i64 ((r30.len : Nat) : Int))) h19 fun _ h20 =>
  ∃ x32 : Int, cellOf h20 a1 = some (.int .i64 x32) ∧
  CallM Tryz.prog 38 #[(.pointer s13), (.int .i64 x32)] (.one (.sc .bool)) h20 fun r33 h21 =>
  Br (!r33)
  (R (.int .i64 (7 : Int)) h21)
  (∃ a34 : Addr, (s13 = some a34) ∧
  ∃ x35 : Sl, cellOf h21 (a34.add 17) = some (.slice x35.ptr x35.len x35.cap) ∧
  LoopM (σ := Int) (fun s36 K3 h22 =>
  Br (decide (s36 < ((x35.len : Nat) : Int)))
  (∃ a37 : Addr, (x35.ptr = some a37 ∧ 0 ≤ s36 ∧ s36 < ((x35.len : Nat) : Int)) ∧
  ∃ x38 : Int, cellOf h22 (a37.add (s36.toNat * 1)) = some (.int .i64 x38) ∧
  JoinM (σ := Int) (fun s46 h25 =>
  Br (s46 != (0 : Int))
  (R (.int .i64 s46) h25)
  (K3 (IntKind.wrap .i64 (s36 + (1 : Int))) h25))
  (fun K4 =>
  ∃ x39 : Int × Int × Int × Int × Int × Int × Sl × Sl, cellsAt h22 a4 0 [(.int .i64 x39.1), (.int .i64 x39.2.1), (.int .i64 x39.2.2.1), (.int .i64 x39.2.2.2.1), (.int .i64 x39.2.2.2.2.1), (.int .i64 x39.2.2.2.2.2.1), (.slice x39.2.2.2.2.2.2.1.ptr x39.2.2.2.2.2.2.1.len x39.2.2.2.2.2.2.1.cap), (.slice x39.2.2.2.2.2.2.2.ptr x39.2.2.2.2.2.2.2.len x39.2.2.2.2.2.2.2.cap)] ∧
  ∃ a40 : Addr, (s13 = some a40) ∧
  ∃ x41 : Int, cellOf h22 (a40.add 18) = some (.int .i64 x41) ∧
  ∃ a42 : Addr, (s13 = some a42) ∧
  (0 ≤ x38 ∧ x38 < ((64 : Nat) : Int)) ∧
  ∃ x43 : Int, cellOf h22 ((a42.add 19).add (x38.toNat * 1)) = some (.int .i64 x43) ∧
  CallM Tryz.prog 12 #[(.pointer s_0), (.int .i64 x38)] (.one (.sc .ptr)) h22 fun r44 h23 =>
  (Held.ok [((a42.add 19).add (x38.toNat * 1), (.int .i64 x43)), (a40.add 18, (.int .i64 x41)), (a4, (.int .i64 x39.1)), (a4.add 1, (.int .i64 x39.2.1)), (a4.add 2, (.int .i64 x39.2.2.1)), (a4.add 3, (.int .i64 x39.2.2.2.1)), (a4.add 4, (.int .i64 x39.2.2.2.2.1)), (a4.add 5, (.int .i64 x39.2.2.2.2.2.1)), (a4.add 6, (.slice x39.2.2.2.2.2.2.1.ptr x39.2.2.2.2.2.2.1.len x39.2.2.2.2.2.2.1.cap)), (a4.add 7, (.slice x39.2.2.2.2.2.2.2.ptr x39.2.2.2.2.2.2.2.len x39.2.2.2.2.2.2.2.cap))] h23) ∧
  CallM Tryz.prog 39 #[(.pointer r44), (.agg #[(.int .i64 x39.1), (.int .i64 x39.2.1), (.int .i64 x39.2.2.1), (.int .i64 x39.2.2.2.1), (.int .i64 x39.2.2.2.2.1), (.int .i64 x39.2.2.2.2.2.1), (.slice x39.2.2.2.2.2.2.1.ptr x39.2.2.2.2.2.2.1.len x39.2.2.2.2.2.2.1.cap), (.slice x39.2.2.2.2.2.2.2.ptr x39.2.2.2.2.2.2.2.len x39.2.2.2.2.2.2.2.cap)]), (.int .i64 (IntKind.wrap .i64 (x41 + x43)))] (.one (.sc (.int .i64))) h23 fun r45 h24 =>
  (Held.ok [((a42.add 19).add (x38.toNat * 1), (.int .i64 x43)), (a40.add 18, (.int .i64 x41))] h24) ∧
  K4 r45 h24))
  (∃ a47 : Addr, (s13 = some a47) ∧
  ∃ x48 : Sl, cellOf h22 (a47.add 83) = some (.slice x48.ptr x48.len x48.cap) ∧
  CallM Tryz.prog 32 #[(.func (.func 12) #[(.pointer s_0)] #[]), (.slice x48.ptr x48.len x48.cap)] (.one (.sc (.int .i64))) h22 fun r49 h26 =>
  Br (r49 != (0 : Int))
  (R (.int .i64 r49) h26)
  (∃ a50 : Addr, (s13 = some a50) ∧
  ∃ x51 : Int × Int × Int × Int × Int × Int × Sl × Sl, cellsAt h26 (a50.add 9) 0 [(.int .i64 x51.1), (.int .i64 x51.2.1), (.int .i64 x51.2.2.1), (.int .i64 x51.2.2.2.1), (.int .i64 x51.2.2.2.2.1), (.int .i64 x51.2.2.2.2.2.1), (.slice x51.2.2.2.2.2.2.1.ptr x51.2.2.2.2.2.2.1.len x51.2.2.2.2.2.2.1.cap), (.slice x51.2.2.2.2.2.2.2.ptr x51.2.2.2.2.2.2.2.len x51.2.2.2.2.2.2.2.cap)] ∧
  CallM Tryz.prog 29 #[(.pointer s_0), (.agg #[(.int .i64 x51.1), (.int .i64 x51.2.1), (.int .i64 x51.2.2.1), (.int .i64 x51.2.2.2.1), (.int .i64 x51.2.2.2.2.1), (.int .i64 x51.2.2.2.2.2.1), (.slice x51.2.2.2.2.2.2.1.ptr x51.2.2.2.2.2.2.1.len x51.2.2.2.2.2.2.1.cap), (.slice x51.2.2.2.2.2.2.2.ptr x51.2.2.2.2.2.2.2.len x51.2.2.2.2.2.2.2.cap)])] (.one (.sc (.int .i64))) h26 fun r52 h27 =>
  Br (r52 != (0 : Int))
  (R (.int .i64 r52) h27)
  (∃ x53 : Int, cellOf h27 a1 = some (.int .i64 x53) ∧
  CallM Tryz.prog 26 #[(.pointer s_0), (.int .i64 x53), (.pointer none)] (.many []) h27 fun _ h28 =>
  R (.int .i64 (0 : Int)) h28)))) (0 : Int) h21))
  (fun K2 =>
  ∃ a17 : Addr, (s13 = some a17) ∧
  ∃ x18 : Sl, cellOf h14 (a17.add 17) = some (.slice x18.ptr x18.len x18.cap) ∧
  Br (((x18.len : Nat) : Int) == (0 : Int)) (R (.int .i64 (7 : Int)) h14) (∃ x19 : Int, cellOf h14 a4 = some (.int .i64 x19) ∧
  Br (decide (x19 ≥ (2147483647 : Int)))
  (R (.int .i64 (7 : Int)) h14)
  (K2 () h14))))
  (fun K1 =>
  ∃ x9 : Int × Int × Int × Int × Int × Int × Sl × Sl, cellsAt h8 a4 0 [(.int .i64 x9.1), (.int .i64 x9.2.1), (.int .i64 x9.2.2.1), (.int .i64 x9.2.2.2.1), (.int .i64 x9.2.2.2.2.1), (.int .i64 x9.2.2.2.2.2.1), (.slice x9.2.2.2.2.2.2.1.ptr x9.2.2.2.2.2.2.1.len x9.2.2.2.2.2.2.1.cap), (.slice x9.2.2.2.2.2.2.2.ptr x9.2.2.2.2.2.2.2.len x9.2.2.2.2.2.2.2.cap)] ∧
  CallM Tryz.prog 15 #[(.pointer s_0)] (.one (.agg [(.int .i64), (.int .i64), (.int .i64), (.int .i64), (.int .i64), (.int .i64), .slc, .slc])) h8 fun r10 h9 =>
  (Held.ok [(a4, (.int .i64 x9.1)), (a4.add 1, (.int .i64 x9.2.1)), (a4.add 2, (.int .i64 x9.2.2.1)), (a4.add 3, (.int .i64 x9.2.2.2.1)), (a4.add 4, (.int .i64 x9.2.2.2.2.1)), (a4.add 5, (.int .i64 x9.2.2.2.2.2.1)), (a4.add 6, (.slice x9.2.2.2.2.2.2.1.ptr x9.2.2.2.2.2.2.1.len x9.2.2.2.2.2.2.1.cap)), (a4.add 7, (.slice x9.2.2.2.2.2.2.2.ptr x9.2.2.2.2.2.2.2.len x9.2.2.2.2.2.2.2.cap))] h9) ∧
  ∃ v11 : Value, (AlwaysV Tryz.prog (Instr.build 72 #[(0, (.pointer s_0)), (1, (.agg #[(.int .i64 x9.1), (.int .i64 x9.2.1), (.int .i64 x9.2.2.1), (.int .i64 x9.2.2.2.1), (.int .i64 x9.2.2.2.2.1), (.int .i64 x9.2.2.2.2.2.1), (.slice x9.2.2.2.2.2.2.1.ptr x9.2.2.2.2.2.2.1.len x9.2.2.2.2.2.2.1.cap), (.slice x9.2.2.2.2.2.2.2.ptr x9.2.2.2.2.2.2.2.len x9.2.2.2.2.2.2.2.cap)])), (2, (.agg #[(.int .i64 r10.1), (.int .i64 r10.2.1), (.int .i64 r10.2.2.1), (.int .i64 r10.2.2.2.1), (.int .i64 r10.2.2.2.2.1), (.int .i64 r10.2.2.2.2.2.1), (.slice r10.2.2.2.2.2.2.1.ptr r10.2.2.2.2.2.2.1.len r10.2.2.2.2.2.2.1.cap), (.slice r10.2.2.2.2.2.2.2.ptr r10.2.2.2.2.2.2.2.len r10.2.2.2.2.2.2.2.cap)]))]) v11) ∧
  RunsA Tryz.prog (Instr.box 72 v11) h9 fun a12 h10 =>
  (Held.ok [(a4, (.int .i64 x9.1)), (a4.add 1, (.int .i64 x9.2.1)), (a4.add 2, (.int .i64 x9.2.2.1)), (a4.add 3, (.int .i64 x9.2.2.2.1)), (a4.add 4, (.int .i64 x9.2.2.2.2.1)), (a4.add 5, (.int .i64 x9.2.2.2.2.2.1)), (a4.add 6, (.slice x9.2.2.2.2.2.2.1.ptr x9.2.2.2.2.2.2.1.len x9.2.2.2.2.2.2.1.cap)), (a4.add 7, (.slice x9.2.2.2.2.2.2.2.ptr x9.2.2.2.2.2.2.2.len x9.2.2.2.2.2.2.2.cap))] h10) ∧
  K1 (some a12) h10)))
theorem fleet_Retire_run (s_0 : Option Addr) (slot_1 : Int) {R : Value → Heap → Prop} {h : Heap} (hm : fleet_Retire_m s_0 slot_1 R h) : Meets Tryz.prog 9 #[(.pointer s_0), (.int .i64 slot_1)] h R := fn_tie C_ok Tryz.func9 (.two .n (.two .n (.two .n (.two .n (.two .n (.two (.join [(7, (.sc .ptr))] [(7, 8), (23, 29)] .n) (.two .n (.two (.join [] [(4, 5), (36, 47)] .n) (.two .n (.two .n (.two .n (.two .n (.two (.two .n (.inn (.loop [(85, (.sc (.int .i64)))] [(4, 5), (9, 11), (85, 109)] (.two .n (.two .n (.two (.inn (.two .n (.two (.join [(10, (.sc (.int .i64)))] [(10, 11), (89, 105)] .n) .n))) .n)))))) .n))))))))))))) hm
abbrev fleet_Lose_id : FuncId := 10
noncomputable def fleet_Lose_m (s_0 : Option Addr) (slot_1 : Int) (R : Value → Heap → Prop) (h : Heap) : Prop :=
  CallM Tryz.prog 23 #[(.pointer s_0)] (.one (.sc .bool)) h fun r1 h1 =>
  Br r1
  (R (.int .i64 (14 : Int)) h1)
  (CallM Tryz.prog 30 #[(.pointer s_0)] (.one (.sc .slc)) h1 fun r2 h2 =>
  CallM Tryz.prog 25 #[(.slice r2.ptr r2.len r2.cap), (.int .i64 slot_1)] (.one (.sc .bool)) h2 fun r3 h3 =>
  Br (!r3)
  (R (.int .i64 (5 : Int)) h3)
  (CallM Tryz.prog 12 #[(.pointer s_0), (.int .i64 slot_1)] (.one (.sc .ptr)) h3 fun r4 h4 =>
  CallM Tryz.prog 40 #[(.pointer r4)] (.many []) h4 fun _ h5 =>
  R (.int .i64 (0 : Int)) h5))
theorem fleet_Lose_run (s_0 : Option Addr) (slot_1 : Int) {R : Value → Heap → Prop} {h : Heap} (hm : fleet_Lose_m s_0 slot_1 R h) : Meets Tryz.prog 10 #[(.pointer s_0), (.int .i64 slot_1)] h R := fn_tie C_ok Tryz.func10 .n hm
abbrev wellspringlaw29_Same_id : FuncId := 11
noncomputable def wellspringlaw29_Same_m (s_0 : Option Addr) (r_1 : Option Addr) (R : Value → Heap → Prop) (h : Heap) : Prop :=
  Br (!((!(Option.isNone s_0)) == (!(Option.isNone r_1))))
  (R (.bool false) h)
  (Br (Option.isNone s_0)
  (R (.bool true) h)
  (JoinM (σ := Unit) (fun _ h13 =>
  LoopM (σ := Int) (fun s24 K2 h14 =>
  Br (decide (s24 < (64 : Int)))
  (∃ a25 : Addr, (r_1 = some a25) ∧
  (0 ≤ s24 ∧ s24 < ((64 : Nat) : Int)) ∧
  ∃ x26 : Option Addr, cellOf h14 ((a25.add 10).add (s24.toNat * 1)) = some (.pointer x26) ∧
  CallM Tryz.prog 12 #[(.pointer s_0), (.int .i64 s24)] (.one (.sc .ptr)) h14 fun r27 h15 =>
  (Held.ok [((a25.add 10).add (s24.toNat * 1), (.pointer x26))] h15) ∧
  CallM Tryz.prog 48 #[(.pointer r27), (.pointer x26)] (.one (.sc .bool)) h15 fun r28 h16 =>
  (Held.ok [] h16) ∧
  Br (!r28)
  (R (.bool false) h16)
  (K2 (IntKind.wrap .i64 (s24 + (1 : Int))) h16))
  (CallM Tryz.prog 12 #[(.pointer s_0), (.int .i64 (-1 : Int))] (.one (.sc .ptr)) h14 fun r29 h17 =>
  Br (Option.isNone r29) (CallM Tryz.prog 12 #[(.pointer s_0), (.int .i64 (64 : Int))] (.one (.sc .ptr)) h17 fun r30 h18 =>
  R (.bool (Option.isNone r30)) h18) (R (.bool false) h17))) (0 : Int) h13)
  (fun K1 =>
  ∃ a1 : Addr, (r_1 = some a1) ∧
  ∃ x2 : Int × Int × Int × Int × Int × Int × Sl × Sl, cellsAt h a1 0 [(.int .i64 x2.1), (.int .i64 x2.2.1), (.int .i64 x2.2.2.1), (.int .i64 x2.2.2.2.1), (.int .i64 x2.2.2.2.2.1), (.int .i64 x2.2.2.2.2.2.1), (.slice x2.2.2.2.2.2.2.1.ptr x2.2.2.2.2.2.2.1.len x2.2.2.2.2.2.2.1.cap), (.slice x2.2.2.2.2.2.2.2.ptr x2.2.2.2.2.2.2.2.len x2.2.2.2.2.2.2.2.cap)] ∧
  CallM Tryz.prog 15 #[(.pointer s_0)] (.one (.agg [(.int .i64), (.int .i64), (.int .i64), (.int .i64), (.int .i64), (.int .i64), .slc, .slc])) h fun r3 h1 =>
  (Held.ok [(a1, (.int .i64 x2.1)), (a1.add 1, (.int .i64 x2.2.1)), (a1.add 2, (.int .i64 x2.2.2.1)), (a1.add 3, (.int .i64 x2.2.2.2.1)), (a1.add 4, (.int .i64 x2.2.2.2.2.1)), (a1.add 5, (.int .i64 x2.2.2.2.2.2.1)), (a1.add 6, (.slice x2.2.2.2.2.2.2.1.ptr x2.2.2.2.2.2.2.1.len x2.2.2.2.2.2.2.1.cap)), (a1.add 7, (.slice x2.2.2.2.2.2.2.2.ptr x2.2.2.2.2.2.2.2.len x2.2.2.2.2.2.2.2.cap))] h1) ∧
  CallM Tryz.prog 41 #[(.agg #[(.int .i64 r3.1), (.int .i64 r3.2.1), (.int .i64 r3.2.2.1), (.int .i64 r3.2.2.2.1), (.int .i64 r3.2.2.2.2.1), (.int .i64 r3.2.2.2.2.2.1), (.slice r3.2.2.2.2.2.2.1.ptr r3.2.2.2.2.2.2.1.len r3.2.2.2.2.2.2.1.cap), (.slice r3.2.2.2.2.2.2.2.ptr r3.2.2.2.2.2.2.2.len r3.2.2.2.2.2.2.2.cap)]), (.agg #[(.int .i64 x2.1), (.int .i64 x2.2.1), (.int .i64 x2.2.2.1), (.int .i64 x2.2.2.2.1), (.int .i64 x2.2.2.2.2.1), (.int .i64 x2.2.2.2.2.2.1), (.slice x2.2.2.2.2.2.2.1.ptr x2.2.2.2.2.2.2.1.len x2.2.2.2.2.2.2.1.cap), (.slice x2.2.2.2.2.2.2.2.ptr x2.2.2.2.2.2.2.2.len x2.2.2.2.2.2.2.2.cap)])] (.one (.sc .bool)) h1 fun r4 h2 =>
  (Held.ok [] h2) ∧
  Br (!r4) ((Held.ok [] h2) ∧
  (Held.ok [] h2) ∧
  (Held.ok [] h2) ∧
  (Held.ok [] h2) ∧
  (Held.ok [] h2) ∧
  (Held.ok [] h2) ∧
  (Held.ok [] h2) ∧
  (Held.ok [] h2) ∧
  (Held.ok [] h2) ∧
  (Held.ok [] h2) ∧
  R (.bool false) h2) (CallM Tryz.prog 30 #[(.pointer s_0)] (.one (.sc .slc)) h2 fun r5 h3 =>
  (Held.ok [] h3) ∧
  CallM Tryz.prog 43 #[(.pointer r_1)] (.one (.sc .slc)) h3 fun r6 h4 =>
  (Held.ok [] h4) ∧
  CallM Tryz.prog 42 #[(.slice r5.ptr r5.len r5.cap), (.slice r6.ptr r6.len r6.cap)] (.one (.sc .bool)) h4 fun r7 h5 =>
  (Held.ok [] h5) ∧
  Br (!r7) ((Held.ok [] h5) ∧
  (Held.ok [] h5) ∧
  (Held.ok [] h5) ∧
  (Held.ok [] h5) ∧
  (Held.ok [] h5) ∧
  (Held.ok [] h5) ∧
  (Held.ok [] h5) ∧
  R (.bool false) h5) (CallM Tryz.prog 44 #[(.pointer s_0)] (.one (.sc .bool)) h5 fun r8 h6 =>
  (Held.ok [] h6) ∧
  CallM Tryz.prog 45 #[(.pointer r_1)] (.one (.sc .bool)) h6 fun r9 h7 =>
  (Held.ok [] h7) ∧
  Br (!(r8 == r9)) ((Held.ok [] h7) ∧
  (Held.ok [] h7) ∧
  (Held.ok [] h7) ∧
  (Held.ok [] h7) ∧
  (Held.ok [] h7) ∧
  R (.bool false) h7) (CallM Tryz.prog 16 #[(.pointer s_0)] (.one (.sc .ptr)) h7 fun r10 h8 =>
  (Held.ok [] h8) ∧
  Br (Option.isNone r10) ((Held.ok [] h8) ∧
  (Held.ok [] h8) ∧
  (Held.ok [] h8) ∧
  (Held.ok [] h8) ∧
  R (.bool false) h8) (∃ a11 : Addr, (r_1 = some a11) ∧
  ∃ x12 : Option Addr, cellOf h8 (a11.add 8) = some (.pointer x12) ∧
  ∃ a13 : Addr, (x12 = some a13) ∧
  ∃ x14 : Bool, cellOf h8 a13 = some (.bool x14) ∧
  CallM Tryz.prog 16 #[(.pointer s_0)] (.one (.sc .ptr)) h8 fun r15 h9 =>
  (Held.ok [(a13, (.bool x14)), (a11.add 8, (.pointer x12))] h9) ∧
  CallM Tryz.prog 46 #[(.pointer r15)] (.one (.sc .bool)) h9 fun r16 h10 =>
  (Held.ok [(a13, (.bool x14)), (a11.add 8, (.pointer x12))] h10) ∧
  Br (r16 == x14) ((Held.ok [(a13, (.bool x14)), (a11.add 8, (.pointer x12))] h10) ∧
  (Held.ok [(a13, (.bool x14)), (a11.add 8, (.pointer x12))] h10) ∧
  R (.bool false) h10) (∃ a17 : Addr, (r_1 = some a17) ∧
  ∃ x18 : Option Addr, cellOf h10 (a17.add 8) = some (.pointer x18) ∧
  ∃ a19 : Addr, (x18 = some a19) ∧
  ∃ x20 : Int, cellOf h10 (a19.add 3) = some (.int .i64 x20) ∧
  CallM Tryz.prog 16 #[(.pointer s_0)] (.one (.sc .ptr)) h10 fun r21 h11 =>
  (Held.ok [(a19.add 3, (.int .i64 x20)), (a17.add 8, (.pointer x18)), (a13, (.bool x14)), (a11.add 8, (.pointer x12))] h11) ∧
  CallM Tryz.prog 47 #[(.pointer r21)] (.one (.sc (.int .i64))) h11 fun r22 h12 =>
  (Held.ok [(a19.add 3, (.int .i64 x20)), (a17.add 8, (.pointer x18)), (a13, (.bool x14)), (a11.add 8, (.pointer x12))] h12) ∧
  Br (r22 != x20)
  (R (.bool false) h12)
  (K1 () h12)))))))))
theorem wellspringlaw29_Same_run (s_0 : Option Addr) (r_1 : Option Addr) {R : Value → Heap → Prop} {h : Heap} (hm : wellspringlaw29_Same_m s_0 r_1 R h) : Meets Tryz.prog 11 #[(.pointer s_0), (.pointer r_1)] h R := fn_tie C_ok Tryz.func11 (.two .n (.two .n (.two .n (.two (.join [] [(4, 5), (13, 67)] .n) (.two (.two .n (.inn (.loop [(67, (.sc (.int .i64)))] [(4, 6), (67, 82)] .n))) .n))))) hm
abbrev store_Store_Drive_id : FuncId := 12
noncomputable def store_Store_Drive_m (s_0 : Option Addr) (slot_1 : Int) (R : Value → Heap → Prop) (h : Heap) : Prop :=
  JoinM (σ := Unit) (fun _ h1 =>
  ∃ a2 : Addr, (s_0 = some a2) ∧
  (0 ≤ slot_1 ∧ slot_1 < ((64 : Nat) : Int)) ∧
  ∃ x3 : Option Addr, cellOf h1 ((a2.add 10).add (slot_1.toNat * 1)) = some (.pointer x3) ∧
  R (.pointer x3) h1)
  (fun K1 =>
  Br (Option.isNone s_0) (R (.pointer none) h) (Br (decide (slot_1 < (0 : Int))) (R (.pointer none) h) (Br (decide (slot_1 ≥ (64 : Int)))
  (R (.pointer none) h)
  (K1 () h))))
theorem store_Store_Drive_run (s_0 : Option Addr) (slot_1 : Int) {R : Value → Heap → Prop} {h : Heap} (hm : store_Store_Drive_m s_0 slot_1 R h) : Meets Tryz.prog 12 #[(.pointer s_0), (.int .i64 slot_1)] h R := fn_tie C_ok Tryz.func12 (.two .n (.two (.join [] [(4, 15)] .n) .n)) hm
abbrev drive_Drive_Lost_id : FuncId := 13
noncomputable def drive_Drive_Lost_m (d_0 : Option Addr) (R : Value → Heap → Prop) (h : Heap) : Prop :=
  Br (!(Option.isNone d_0)) (∃ a1 : Addr, (d_0 = some a1) ∧
  ∃ x2 : Bool, cellOf h (a1.add 6) = some (.bool x2) ∧
  R (.bool x2) h) (R (.bool false) h)
theorem drive_Drive_Lost_run (d_0 : Option Addr) {R : Value → Heap → Prop} {h : Heap} (hm : drive_Drive_Lost_m d_0 R h) : Meets Tryz.prog 13 #[(.pointer d_0)] h R := fn_tie C_ok Tryz.func13 .n hm
abbrev scan_Whole_id : FuncId := 14
noncomputable def scan_Whole_m (d_0 : Option Addr) (m_1 : Int × Int × Int × Int × Int × Int × Sl × Sl) (R : Value → Heap → Prop) (h : Heap) : Prop :=
  RunsA Tryz.prog (Instr.box 40 (.agg #[(.int .i64 m_1.1), (.int .i64 m_1.2.1), (.int .i64 m_1.2.2.1), (.int .i64 m_1.2.2.2.1), (.int .i64 m_1.2.2.2.2.1), (.int .i64 m_1.2.2.2.2.2.1), (.slice m_1.2.2.2.2.2.2.1.ptr m_1.2.2.2.2.2.2.1.len m_1.2.2.2.2.2.2.1.cap), (.slice m_1.2.2.2.2.2.2.2.ptr m_1.2.2.2.2.2.2.2.len m_1.2.2.2.2.2.2.2.cap)])) h fun a1 h1 =>
  ∃ x2 : Int × Int × Int × Int × Int × Int × Sl × Sl, cellsAt h1 a1 0 [(.int .i64 x2.1), (.int .i64 x2.2.1), (.int .i64 x2.2.2.1), (.int .i64 x2.2.2.2.1), (.int .i64 x2.2.2.2.2.1), (.int .i64 x2.2.2.2.2.2.1), (.slice x2.2.2.2.2.2.2.1.ptr x2.2.2.2.2.2.2.1.len x2.2.2.2.2.2.2.1.cap), (.slice x2.2.2.2.2.2.2.2.ptr x2.2.2.2.2.2.2.2.len x2.2.2.2.2.2.2.2.cap)] ∧
  CallM Tryz.prog 49 #[(.agg #[(.int .i64 x2.1), (.int .i64 x2.2.1), (.int .i64 x2.2.2.1), (.int .i64 x2.2.2.2.1), (.int .i64 x2.2.2.2.2.1), (.int .i64 x2.2.2.2.2.2.1), (.slice x2.2.2.2.2.2.2.1.ptr x2.2.2.2.2.2.2.1.len x2.2.2.2.2.2.2.1.cap), (.slice x2.2.2.2.2.2.2.2.ptr x2.2.2.2.2.2.2.2.len x2.2.2.2.2.2.2.2.cap)])] (.one (.sc .bool)) h1 fun r3 h2 =>
  Br (!r3)
  (R (.bool false) h2)
  (CallM Tryz.prog 50 #[(.pointer d_0)] (.one (.sc .slc)) h2 fun r4 h3 =>
  ∃ x5 : Int × Int × Int × Int × Int × Int × Sl × Sl, cellsAt h3 a1 0 [(.int .i64 x5.1), (.int .i64 x5.2.1), (.int .i64 x5.2.2.1), (.int .i64 x5.2.2.2.1), (.int .i64 x5.2.2.2.2.1), (.int .i64 x5.2.2.2.2.2.1), (.slice x5.2.2.2.2.2.2.1.ptr x5.2.2.2.2.2.2.1.len x5.2.2.2.2.2.2.1.cap), (.slice x5.2.2.2.2.2.2.2.ptr x5.2.2.2.2.2.2.2.len x5.2.2.2.2.2.2.2.cap)] ∧
  CallM Tryz.prog 31 #[(.agg #[(.int .i64 x5.1), (.int .i64 x5.2.1), (.int .i64 x5.2.2.1), (.int .i64 x5.2.2.2.1), (.int .i64 x5.2.2.2.2.1), (.int .i64 x5.2.2.2.2.2.1), (.slice x5.2.2.2.2.2.2.1.ptr x5.2.2.2.2.2.2.1.len x5.2.2.2.2.2.2.1.cap), (.slice x5.2.2.2.2.2.2.2.ptr x5.2.2.2.2.2.2.2.len x5.2.2.2.2.2.2.2.cap)])] (.one (.sc .slc)) h3 fun r6 h4 =>
  LoopM (σ := Int) (fun s7 K1 h5 =>
  Br (decide (s7 < ((r6.len : Nat) : Int)))
  (∃ a8 : Addr, (r6.ptr = some a8 ∧ 0 ≤ s7 ∧ s7 < ((r6.len : Nat) : Int)) ∧
  ∃ x9 : Sl, cellOf h5 (a8.add (s7.toNat * 1)) = some (.slice x9.ptr x9.len x9.cap) ∧
  RunsA Tryz.prog (Instr.alloc 90 true (.tuple #[])) h5 fun a10 h6 =>
  Runs Tryz.prog (Instr.storeAt 90 (.pointer (some a10)) (.slice x9.ptr x9.len x9.cap)) h6 fun _ h7 =>
  CallM Tryz.prog 51 #[(.slice r4.ptr r4.len r4.cap), (.func (.func 52) #[] #[(.pointer (some a10))])] (.one (.sc .bool)) h7 fun r11 h8 =>
  Br (!r11)
  (R (.bool false) h8)
  (K1 (IntKind.wrap .i64 (s7 + (1 : Int))) h8))
  (R (.bool true) h5)) (0 : Int) h4)
theorem scan_Whole_run (d_0 : Option Addr) (m_1 : Int × Int × Int × Int × Int × Int × Sl × Sl) {R : Value → Heap → Prop} {h : Heap} (hm : scan_Whole_m d_0 m_1 R h) : Meets Tryz.prog 14 #[(.pointer d_0), (.agg #[(.int .i64 m_1.1), (.int .i64 m_1.2.1), (.int .i64 m_1.2.2.1), (.int .i64 m_1.2.2.2.1), (.int .i64 m_1.2.2.2.2.1), (.int .i64 m_1.2.2.2.2.2.1), (.slice m_1.2.2.2.2.2.2.1.ptr m_1.2.2.2.2.2.2.1.len m_1.2.2.2.2.2.2.1.cap), (.slice m_1.2.2.2.2.2.2.2.ptr m_1.2.2.2.2.2.2.2.len m_1.2.2.2.2.2.2.2.cap)])] h R := fn_tie C_ok Tryz.func14 (.two .n (.two .n (.two .n (.two (.two .n (.inn (.loop [(16, (.sc (.int .i64)))] [(4, 5), (7, 8), (16, 25)] .n))) .n)))) hm
abbrev store_Store_Manifest_id : FuncId := 15
noncomputable def store_Store_Manifest_m (s_0 : Option Addr) (R : Value → Heap → Prop) (h : Heap) : Prop :=
  RunsA Tryz.prog (Instr.alloc 40 true (.tuple #[])) h fun a1 h1 =>
  Br (Option.isNone s_0)
  (Runs Tryz.prog (Instr.storeAt 40 (.pointer (some a1)) (.agg #[(.int .i64 (0 : Int)), (.int .i64 (0 : Int)), (.int .i64 (0 : Int)), (.int .i64 (0 : Int)), (.int .i64 (0 : Int)), (.int .i64 (0 : Int)), (.slice none 0 0), (.slice none 0 0)])) h1 fun _ h2 =>
  ∃ res2 : Int × Int × Int × Int × Int × Int × Sl × Sl, cellsAt h2 a1 0 [(.int .i64 res2.1), (.int .i64 res2.2.1), (.int .i64 res2.2.2.1), (.int .i64 res2.2.2.2.1), (.int .i64 res2.2.2.2.2.1), (.int .i64 res2.2.2.2.2.2.1), (.slice res2.2.2.2.2.2.2.1.ptr res2.2.2.2.2.2.2.1.len res2.2.2.2.2.2.2.1.cap), (.slice res2.2.2.2.2.2.2.2.ptr res2.2.2.2.2.2.2.2.len res2.2.2.2.2.2.2.2.cap)] ∧
  R (.agg #[(.int .i64 res2.1), (.int .i64 res2.2.1), (.int .i64 res2.2.2.1), (.int .i64 res2.2.2.2.1), (.int .i64 res2.2.2.2.2.1), (.int .i64 res2.2.2.2.2.2.1), (.slice res2.2.2.2.2.2.2.1.ptr res2.2.2.2.2.2.2.1.len res2.2.2.2.2.2.2.1.cap), (.slice res2.2.2.2.2.2.2.2.ptr res2.2.2.2.2.2.2.2.len res2.2.2.2.2.2.2.2.cap)]) h2)
  (∃ a3 : Addr, (s_0 = some a3) ∧
  ∃ x4 : Int × Int × Int × Int × Int × Int × Sl × Sl, cellsAt h1 a3 0 [(.int .i64 x4.1), (.int .i64 x4.2.1), (.int .i64 x4.2.2.1), (.int .i64 x4.2.2.2.1), (.int .i64 x4.2.2.2.2.1), (.int .i64 x4.2.2.2.2.2.1), (.slice x4.2.2.2.2.2.2.1.ptr x4.2.2.2.2.2.2.1.len x4.2.2.2.2.2.2.1.cap), (.slice x4.2.2.2.2.2.2.2.ptr x4.2.2.2.2.2.2.2.len x4.2.2.2.2.2.2.2.cap)] ∧
  CallM Tryz.prog 54 #[(.agg #[(.int .i64 x4.1), (.int .i64 x4.2.1), (.int .i64 x4.2.2.1), (.int .i64 x4.2.2.2.1), (.int .i64 x4.2.2.2.2.1), (.int .i64 x4.2.2.2.2.2.1), (.slice x4.2.2.2.2.2.2.1.ptr x4.2.2.2.2.2.2.1.len x4.2.2.2.2.2.2.1.cap), (.slice x4.2.2.2.2.2.2.2.ptr x4.2.2.2.2.2.2.2.len x4.2.2.2.2.2.2.2.cap)])] (.one (.agg [(.int .i64), (.int .i64), (.int .i64), (.int .i64), (.int .i64), (.int .i64), .slc, .slc])) h1 fun r5 h3 =>
  Runs Tryz.prog (Instr.storeAt 40 (.pointer (some a1)) (.agg #[(.int .i64 r5.1), (.int .i64 r5.2.1), (.int .i64 r5.2.2.1), (.int .i64 r5.2.2.2.1), (.int .i64 r5.2.2.2.2.1), (.int .i64 r5.2.2.2.2.2.1), (.slice r5.2.2.2.2.2.2.1.ptr r5.2.2.2.2.2.2.1.len r5.2.2.2.2.2.2.1.cap), (.slice r5.2.2.2.2.2.2.2.ptr r5.2.2.2.2.2.2.2.len r5.2.2.2.2.2.2.2.cap)])) h3 fun _ h4 =>
  ∃ res6 : Int × Int × Int × Int × Int × Int × Sl × Sl, cellsAt h4 a1 0 [(.int .i64 res6.1), (.int .i64 res6.2.1), (.int .i64 res6.2.2.1), (.int .i64 res6.2.2.2.1), (.int .i64 res6.2.2.2.2.1), (.int .i64 res6.2.2.2.2.2.1), (.slice res6.2.2.2.2.2.2.1.ptr res6.2.2.2.2.2.2.1.len res6.2.2.2.2.2.2.1.cap), (.slice res6.2.2.2.2.2.2.2.ptr res6.2.2.2.2.2.2.2.len res6.2.2.2.2.2.2.2.cap)] ∧
  R (.agg #[(.int .i64 res6.1), (.int .i64 res6.2.1), (.int .i64 res6.2.2.1), (.int .i64 res6.2.2.2.1), (.int .i64 res6.2.2.2.2.1), (.int .i64 res6.2.2.2.2.2.1), (.slice res6.2.2.2.2.2.2.1.ptr res6.2.2.2.2.2.2.1.len res6.2.2.2.2.2.2.1.cap), (.slice res6.2.2.2.2.2.2.2.ptr res6.2.2.2.2.2.2.2.len res6.2.2.2.2.2.2.2.cap)]) h4)
theorem store_Store_Manifest_run (s_0 : Option Addr) {R : Value → Heap → Prop} {h : Heap} (hm : store_Store_Manifest_m s_0 R h) : Meets Tryz.prog 15 #[(.pointer s_0)] h R := fn_tie C_ok Tryz.func15 .n hm
abbrev store_Store_Power_id : FuncId := 16
noncomputable def store_Store_Power_m (s_0 : Option Addr) (R : Value → Heap → Prop) (h : Heap) : Prop :=
  Br (Option.isNone s_0)
  (R (.pointer none) h)
  (∃ a1 : Addr, (s_0 = some a1) ∧
  ∃ x2 : Option Addr, cellOf h (a1.add 8) = some (.pointer x2) ∧
  R (.pointer x2) h)
theorem store_Store_Power_run (s_0 : Option Addr) {R : Value → Heap → Prop} {h : Heap} (hm : store_Store_Power_m s_0 R h) : Meets Tryz.prog 16 #[(.pointer s_0)] h R := fn_tie C_ok Tryz.func16 .n hm
abbrev power_Power_Arm_id : FuncId := 17
noncomputable def power_Power_Arm_m (p_0 : Option Addr) (n_1 : Int) (R : Value → Heap → Prop) (h : Heap) : Prop :=
  CallM Tryz.prog 46 #[(.pointer p_0)] (.one (.sc .bool)) h fun r1 h1 =>
  Br (!r1)
  (R (.tuple #[]) h1)
  (∃ a2 : Addr, (p_0 = some a2) ∧
  Runs Tryz.prog (Instr.storeAt 4 (.pointer (some (a2.add 1))) (.bool (decide (n_1 ≥ (0 : Int))))) h1 fun _ h2 =>
  ∃ a3 : Addr, (p_0 = some a3) ∧
  Runs Tryz.prog (Instr.storeAt 3 (.pointer (some (a3.add 2))) (.int .i64 (if (0 : Int) > n_1 then (0 : Int) else n_1))) h2 fun _ h3 =>
  R (.tuple #[]) h3)
theorem power_Power_Arm_run (p_0 : Option Addr) (n_1 : Int) {R : Value → Heap → Prop} {h : Heap} (hm : power_Power_Arm_m p_0 n_1 R h) : Meets Tryz.prog 17 #[(.pointer p_0), (.int .i64 n_1)] h R := fn_tie C_ok Tryz.func17 .n hm
abbrev power_Power_Step_id : FuncId := 18
noncomputable def power_Power_Step_m (p_0 : Option Addr) (R : Value → Heap → Prop) (h : Heap) : Prop :=
  CallM Tryz.prog 46 #[(.pointer p_0)] (.one (.sc .bool)) h fun r1 h1 =>
  Br (!r1)
  (R (.bool false) h1)
  (∃ a2 : Addr, (p_0 = some a2) ∧
  ∃ x3 : Bool, cellOf h1 (a2.add 1) = some (.bool x3) ∧
  Br (!x3)
  (R (.bool true) h1)
  (∃ a4 : Addr, (p_0 = some a4) ∧
  ∃ x5 : Int, cellOf h1 (a4.add 2) = some (.int .i64 x5) ∧
  Br (x5 == (0 : Int))
  (∃ a6 : Addr, (p_0 = some a6) ∧
  Runs Tryz.prog (Instr.storeAt 4 (.pointer (some a6)) (.bool true)) h1 fun _ h2 =>
  ∃ a7 : Addr, (p_0 = some a7) ∧
  ∃ x8 : Int, cellOf h2 (a7.add 3) = some (.int .i64 x8) ∧
  ∃ a9 : Addr, (p_0 = some a9) ∧
  Runs Tryz.prog (Instr.storeAt 3 (.pointer (some (a9.add 3))) (.int .i64 (IntKind.wrap .i64 (x8 + (1 : Int))))) h2 fun _ h3 =>
  R (.bool false) h3)
  (∃ a10 : Addr, (p_0 = some a10) ∧
  ∃ x11 : Int, cellOf h1 (a10.add 2) = some (.int .i64 x11) ∧
  ∃ a12 : Addr, (p_0 = some a12) ∧
  Runs Tryz.prog (Instr.storeAt 3 (.pointer (some (a12.add 2))) (.int .i64 (IntKind.wrap .i64 (x11 - (1 : Int))))) h1 fun _ h4 =>
  R (.bool true) h4)))
theorem power_Power_Step_run (p_0 : Option Addr) {R : Value → Heap → Prop} {h : Heap} (hm : power_Power_Step_m p_0 R h) : Meets Tryz.prog 18 #[(.pointer p_0)] h R := fn_tie C_ok Tryz.func18 .n hm
abbrev wellspringplay_Config_id : FuncId := 19
noncomputable def wellspringplay_Config_m (l_0 : Sl) (R : Value → Heap → Prop) (h : Heap) : Prop :=
  RunsA Tryz.prog (Instr.alloc 37 true (.tuple #[])) h fun a1 h1 =>
  CallM Tryz.prog 56 #[(.slice l_0.ptr l_0.len l_0.cap), (.int .i64 (0 : Int))] (.one (.sc (.int .i64))) h1 fun r2 h2 =>
  CallM Tryz.prog 56 #[(.slice l_0.ptr l_0.len l_0.cap), (.int .i64 (1 : Int))] (.one (.sc (.int .i64))) h2 fun r3 h3 =>
  CallM Tryz.prog 56 #[(.slice l_0.ptr l_0.len l_0.cap), (.int .i64 (2 : Int))] (.one (.sc (.int .i64))) h3 fun r4 h4 =>
  CallM Tryz.prog 55 #[(.int .i64 r2), (.int .i64 r3), (.int .i64 r4)] (.one (.agg [(.int .i64), (.int .i64), (.int .i64)])) h4 fun r5 h5 =>
  RunsA Tryz.prog (Instr.alloc 37 true (.tuple #[])) h5 fun a6 h6 =>
  Runs Tryz.prog (Instr.storeAt 37 (.pointer (some a6)) (.agg #[(.int .i64 r5.1), (.int .i64 r5.2.1), (.int .i64 r5.2.2)])) h6 fun _ h7 =>
  LoopM (σ := Sl × Int) (fun s7 K1 h8 =>
  CallM Tryz.prog 56 #[(.slice l_0.ptr l_0.len l_0.cap), (.int .i64 (4 : Int))] (.one (.sc (.int .i64))) h8 fun r8 h9 =>
  CallM Tryz.prog 6 #[(.int .i64 r8), (.int .i64 (4 : Int))] (.one (.sc (.int .i64))) h9 fun r9 h10 =>
  Br (decide (s7.2 < (IntKind.wrap .i64 ((2 : Int) + r9))))
  (CallM Tryz.prog 56 #[(.slice l_0.ptr l_0.len l_0.cap), (.int .i64 (IntKind.wrap .i64 ((5 : Int) + s7.2)))] (.one (.sc (.int .i64))) h10 fun r10 h11 =>
  CallM Tryz.prog 6 #[(.int .i64 r10), (.int .i64 (50 : Int))] (.one (.sc (.int .i64))) h11 fun r11 h12 =>
  RunsR Tryz.prog (Instr.buildSlice 22 1 #[(0, (.int .i64 (IntKind.wrap .i64 ((8 : Int) + r11))))]) (.one (.sc .slc)) h12 fun v12 h13 =>
  RunsR Tryz.prog (Builtin.append_ #[22, 22] 22 #[(.slice s7.1.ptr s7.1.len s7.1.cap), (.slice v12.ptr v12.len v12.cap)]) (.one (.sc .slc)) h13 fun v13 h14 =>
  K1 ((⟨v13.ptr, v13.len, v13.cap⟩ : Sl), IntKind.wrap .i64 (s7.2 + (1 : Int))) h14)
  (∃ x14 : Int × Int × Int, cellsAt h10 a6 0 [(.int .i64 x14.1), (.int .i64 x14.2.1), (.int .i64 x14.2.2)] ∧
  CallM Tryz.prog 56 #[(.slice l_0.ptr l_0.len l_0.cap), (.int .i64 (3 : Int))] (.one (.sc (.int .i64))) h10 fun r15 h15 =>
  (Held.ok [(a6, (.int .i64 x14.1)), (a6.add 1, (.int .i64 x14.2.1)), (a6.add 2, (.int .i64 x14.2.2))] h15) ∧
  CallM Tryz.prog 6 #[(.int .i64 r15), (.int .i64 (7 : Int))] (.one (.sc (.int .i64))) h15 fun r16 h16 =>
  (Held.ok [(a6, (.int .i64 x14.1)), (a6.add 1, (.int .i64 x14.2.1)), (a6.add 2, (.int .i64 x14.2.2))] h16) ∧
  Runs Tryz.prog (Instr.storeAt 37 (.pointer (some a1)) (.agg #[(.int .i64 x14.1), (.int .i64 x14.2.1), (.int .i64 x14.2.2)])) h16 fun _ h17 =>
  (Held.ok [] h17) ∧
  ∃ res17 : Int × Int × Int, cellsAt h17 a1 0 [(.int .i64 res17.1), (.int .i64 res17.2.1), (.int .i64 res17.2.2)] ∧
  R (.tuple #[(.agg #[(.int .i64 res17.1), (.int .i64 res17.2.1), (.int .i64 res17.2.2)]), (.int .i64 r16), (.slice s7.1.ptr s7.1.len s7.1.cap)]) h17)) ((⟨none, 0, 0⟩ : Sl), (0 : Int)) h7
theorem wellspringplay_Config_run (l_0 : Sl) {R : Value → Heap → Prop} {h : Heap} (hm : wellspringplay_Config_m l_0 R h) : Meets Tryz.prog 19 #[(.slice l_0.ptr l_0.len l_0.cap)] h R := fn_tie C_ok Tryz.func19 (.two .n (.two .n (.two .n (.two .n (.two (.two .n (.inn (.loop [(7, (.sc .slc)), (8, (.sc (.int .i64)))] [(7, 9), (16, 35)] .n))) .n))))) hm
abbrev power_New_id : FuncId := 20
noncomputable def power_New_m  (R : Value → Heap → Prop) (h : Heap) : Prop :=
  RunsA Tryz.prog (Instr.box 96 (.agg #[(.bool false), (.bool false), (.int .i64 (0 : Int)), (.int .i64 (0 : Int))])) h fun a1 h1 =>
  R (.pointer (some a1)) h1
theorem power_New_run  {R : Value → Heap → Prop} {h : Heap} (hm : power_New_m  R h) : Meets Tryz.prog 20 #[] h R := fn_tie C_ok Tryz.func20 .n hm
abbrev store_Format_id : FuncId := 21
noncomputable def store_Format_m (p_0 : Int × Int × Int) (extra_1 : Int) (pw_2 : Option Addr) (cells_3 : Sl) (R : Value → Heap → Prop) (h : Heap) : Prop :=
  RunsA Tryz.prog (Instr.box 37 (.agg #[(.int .i64 p_0.1), (.int .i64 p_0.2.1), (.int .i64 p_0.2.2)])) h fun a1 h1 =>
  CallM Tryz.prog 57 #[(.slice cells_3.ptr cells_3.len cells_3.cap)] (.many [(.sc .slc), (.sc .bool)]) h1 fun r2 h2 =>
  JoinM (σ := Unit) (fun _ h4 =>
  JoinM (σ := Option Addr) (fun s10 h7 =>
  LoopM (σ := Int) (fun s11 K3 h8 =>
  Br (decide (s11 < ((r2.1.len : Nat) : Int)))
  (∃ a12 : Addr, (r2.1.ptr = some a12 ∧ 0 ≤ s11 ∧ s11 < ((r2.1.len : Nat) : Int)) ∧
  ∃ x13 : Int, cellOf h8 (a12.add (s11.toNat * 1)) = some (.int .i64 x13) ∧
  ∃ a14 : Addr, (cells_3.ptr = some a14 ∧ 0 ≤ x13 ∧ x13 < ((cells_3.len : Nat) : Int)) ∧
  ∃ x15 : Int, cellOf h8 (a14.add (x13.toNat * 1)) = some (.int .i64 x15) ∧
  ∃ a16 : Addr, (s10 = some a16) ∧
  ∃ x17 : Int × Int × Int × Int × Int × Int × Sl × Sl, cellsAt h8 a16 0 [(.int .i64 x17.1), (.int .i64 x17.2.1), (.int .i64 x17.2.2.1), (.int .i64 x17.2.2.2.1), (.int .i64 x17.2.2.2.2.1), (.int .i64 x17.2.2.2.2.2.1), (.slice x17.2.2.2.2.2.2.1.ptr x17.2.2.2.2.2.2.1.len x17.2.2.2.2.2.2.1.cap), (.slice x17.2.2.2.2.2.2.2.ptr x17.2.2.2.2.2.2.2.len x17.2.2.2.2.2.2.2.cap)] ∧
  CallM Tryz.prog 31 #[(.agg #[(.int .i64 x17.1), (.int .i64 x17.2.1), (.int .i64 x17.2.2.1), (.int .i64 x17.2.2.2.1), (.int .i64 x17.2.2.2.2.1), (.int .i64 x17.2.2.2.2.2.1), (.slice x17.2.2.2.2.2.2.1.ptr x17.2.2.2.2.2.2.1.len x17.2.2.2.2.2.2.1.cap), (.slice x17.2.2.2.2.2.2.2.ptr x17.2.2.2.2.2.2.2.len x17.2.2.2.2.2.2.2.cap)])] (.one (.sc .slc)) h8 fun r18 h9 =>
  (Held.ok [(a14.add (x13.toNat * 1), (.int .i64 x15))] h9) ∧
  Br (decide (x15 < ((r18.len : Nat) : Int)))
  (R (.tuple #[(.pointer none), (.int .i64 (7 : Int))]) h9)
  (K3 (IntKind.wrap .i64 (s11 + (1 : Int))) h9))
  (LoopM (σ := Int) (fun s19 K4 h10 =>
  Br (decide (s19 < ((r2.1.len : Nat) : Int)))
  (∃ a20 : Addr, (r2.1.ptr = some a20 ∧ 0 ≤ s19 ∧ s19 < ((r2.1.len : Nat) : Int)) ∧
  ∃ x21 : Int, cellOf h10 (a20.add (s19.toNat * 1)) = some (.int .i64 x21) ∧
  ∃ a22 : Addr, (cells_3.ptr = some a22 ∧ 0 ≤ x21 ∧ x21 < ((cells_3.len : Nat) : Int)) ∧
  ∃ x23 : Int, cellOf h10 (a22.add (x21.toNat * 1)) = some (.int .i64 x23) ∧
  ∃ a24 : Addr, (s10 = some a24) ∧
  CallM Tryz.prog 27 #[(.int .i64 x23), (.pointer pw_2)] (.one (.sc .ptr)) h10 fun r25 h11 =>
  (Held.ok [] h11) ∧
  (0 ≤ x21 ∧ x21 < ((64 : Nat) : Int)) ∧
  Runs Tryz.prog (Instr.storeAt 33 (.pointer (some ((a24.add 10).add (x21.toNat * 1)))) (.pointer r25)) h11 fun _ h12 =>
  (Held.ok [] h12) ∧
  K4 (IntKind.wrap .i64 (s19 + (1 : Int))) h12)
  (∃ a26 : Addr, (s10 = some a26) ∧
  ∃ x27 : Int × Int × Int × Int × Int × Int × Sl × Sl, cellsAt h10 a26 0 [(.int .i64 x27.1), (.int .i64 x27.2.1), (.int .i64 x27.2.2.1), (.int .i64 x27.2.2.2.1), (.int .i64 x27.2.2.2.2.1), (.int .i64 x27.2.2.2.2.2.1), (.slice x27.2.2.2.2.2.2.1.ptr x27.2.2.2.2.2.2.1.len x27.2.2.2.2.2.2.1.cap), (.slice x27.2.2.2.2.2.2.2.ptr x27.2.2.2.2.2.2.2.len x27.2.2.2.2.2.2.2.cap)] ∧
  CallM Tryz.prog 33 #[(.agg #[(.int .i64 x27.1), (.int .i64 x27.2.1), (.int .i64 x27.2.2.1), (.int .i64 x27.2.2.2.1), (.int .i64 x27.2.2.2.2.1), (.int .i64 x27.2.2.2.2.2.1), (.slice x27.2.2.2.2.2.2.1.ptr x27.2.2.2.2.2.2.1.len x27.2.2.2.2.2.2.1.cap), (.slice x27.2.2.2.2.2.2.2.ptr x27.2.2.2.2.2.2.2.len x27.2.2.2.2.2.2.2.cap)]), (.slice r2.1.ptr r2.1.len r2.1.cap)] (.one (.sc .slc)) h10 fun r28 h13 =>
  CallM Tryz.prog 32 #[(.func (.func 12) #[(.pointer s10)] #[]), (.slice r28.ptr r28.len r28.cap)] (.one (.sc (.int .i64))) h13 fun r29 h14 =>
  Br (r29 != (0 : Int))
  (R (.tuple #[(.pointer none), (.int .i64 r29)]) h14)
  (R (.tuple #[(.pointer s10), (.int .i64 (0 : Int))]) h14))) (0 : Int) h8)) (0 : Int) h7)
  (fun K2 =>
  ∃ x6 : Int × Int × Int, cellsAt h4 a1 0 [(.int .i64 x6.1), (.int .i64 x6.2.1), (.int .i64 x6.2.2)] ∧
  CallM Tryz.prog 47 #[(.pointer pw_2)] (.one (.sc (.int .i64))) h4 fun r7 h5 =>
  (Held.ok [(a1, (.int .i64 x6.1)), (a1.add 1, (.int .i64 x6.2.1)), (a1.add 2, (.int .i64 x6.2.2))] h5) ∧
  ∃ v8 : Value, (AlwaysV Tryz.prog (Instr.build 85 #[(0, (.agg #[(.int .i64 (1 : Int)), (.int .i64 (0 : Int)), (.int .i64 x6.1), (.int .i64 x6.2.1), (.int .i64 x6.2.2), (.int .i64 extra_1), (.slice r2.1.ptr r2.1.len r2.1.cap), (.slice none 0 0)])), (1, (.pointer pw_2)), (2, (.int .i64 r7))]) v8) ∧
  RunsA Tryz.prog (Instr.box 85 v8) h5 fun a9 h6 =>
  (Held.ok [(a1, (.int .i64 x6.1)), (a1.add 1, (.int .i64 x6.2.1)), (a1.add 2, (.int .i64 x6.2.2))] h6) ∧
  K2 (some a9) h6))
  (fun K1 =>
  Br (!r2.2) (R (.tuple #[(.pointer none), (.int .i64 (1 : Int))]) h2) (∃ x3 : Int × Int × Int, cellsAt h2 a1 0 [(.int .i64 x3.1), (.int .i64 x3.2.1), (.int .i64 x3.2.2)] ∧
  CallM Tryz.prog 58 #[(.agg #[(.int .i64 x3.1), (.int .i64 x3.2.1), (.int .i64 x3.2.2)])] (.one (.sc .bool)) h2 fun r4 h3 =>
  Br (!r4) (R (.tuple #[(.pointer none), (.int .i64 (1 : Int))]) h3) (Br (decide (extra_1 < (0 : Int))) (R (.tuple #[(.pointer none), (.int .i64 (1 : Int))]) h3) (Br (decide (extra_1 > (16 : Int))) (R (.tuple #[(.pointer none), (.int .i64 (1 : Int))]) h3) (Br (Option.isNone pw_2)
  (R (.tuple #[(.pointer none), (.int .i64 (1 : Int))]) h3)
  (K1 () h3))))))
theorem store_Format_run (p_0 : Int × Int × Int) (extra_1 : Int) (pw_2 : Option Addr) (cells_3 : Sl) {R : Value → Heap → Prop} {h : Heap} (hm : store_Format_m p_0 extra_1 pw_2 cells_3 R h) : Meets Tryz.prog 21 #[(.agg #[(.int .i64 p_0.1), (.int .i64 p_0.2.1), (.int .i64 p_0.2.2)]), (.int .i64 extra_1), (.pointer pw_2), (.slice cells_3.ptr cells_3.len cells_3.cap)] h R := fn_tie C_ok Tryz.func21 (.two .n (.two .n (.two (.join [] [(8, 10), (23, 42)] .n) (.two (.join [(12, (.sc .ptr))] [(12, 13), (42, 51)] .n) (.two (.two .n (.inn (.loop [(53, (.sc (.int .i64)))] [(8, 10), (14, 15), (53, 69)] .n))) (.two (.two .n (.inn (.loop [(71, (.sc (.int .i64)))] [(16, 17), (71, 87)] .n))) .n)))))) hm
abbrev wellspringref29_Format_id : FuncId := 22
noncomputable def wellspringref29_Format_m (p_0 : Int × Int × Int) (extra_1 : Int) (pw_2 : Option Addr) (cells_3 : Sl) (R : Value → Heap → Prop) (h : Heap) : Prop :=
  RunsA Tryz.prog (Instr.box 37 (.agg #[(.int .i64 p_0.1), (.int .i64 p_0.2.1), (.int .i64 p_0.2.2)])) h fun a1 h1 =>
  Br (Option.isNone pw_2)
  (R (.tuple #[(.pointer none), (.int .i64 (1 : Int))]) h1)
  (∃ x2 : Int × Int × Int, cellsAt h1 a1 0 [(.int .i64 x2.1), (.int .i64 x2.2.1), (.int .i64 x2.2.2)] ∧
  CallM Tryz.prog 59 #[(.agg #[(.int .i64 x2.1), (.int .i64 x2.2.1), (.int .i64 x2.2.2)]), (.int .i64 extra_1), (.slice cells_3.ptr cells_3.len cells_3.cap)] (.many [(.agg [(.int .i64), (.int .i64), (.int .i64), (.int .i64), (.int .i64), (.int .i64), .slc, .slc]), (.sc (.int .i64))]) h1 fun r3 h2 =>
  RunsA Tryz.prog (Instr.alloc 40 true (.tuple #[])) h2 fun a4 h3 =>
  Runs Tryz.prog (Instr.storeAt 40 (.pointer (some a4)) (.agg #[(.int .i64 r3.1.1), (.int .i64 r3.1.2.1), (.int .i64 r3.1.2.2.1), (.int .i64 r3.1.2.2.2.1), (.int .i64 r3.1.2.2.2.2.1), (.int .i64 r3.1.2.2.2.2.2.1), (.slice r3.1.2.2.2.2.2.2.1.ptr r3.1.2.2.2.2.2.2.1.len r3.1.2.2.2.2.2.2.1.cap), (.slice r3.1.2.2.2.2.2.2.2.ptr r3.1.2.2.2.2.2.2.2.len r3.1.2.2.2.2.2.2.2.cap)])) h3 fun _ h4 =>
  Br (r3.2 != (0 : Int))
  (R (.tuple #[(.pointer none), (.int .i64 r3.2)]) h4)
  (∃ x5 : Int × Int × Int × Int × Int × Int × Sl × Sl, cellsAt h4 a4 0 [(.int .i64 x5.1), (.int .i64 x5.2.1), (.int .i64 x5.2.2.1), (.int .i64 x5.2.2.2.1), (.int .i64 x5.2.2.2.2.1), (.int .i64 x5.2.2.2.2.2.1), (.slice x5.2.2.2.2.2.2.1.ptr x5.2.2.2.2.2.2.1.len x5.2.2.2.2.2.2.1.cap), (.slice x5.2.2.2.2.2.2.2.ptr x5.2.2.2.2.2.2.2.len x5.2.2.2.2.2.2.2.cap)] ∧
  ∃ a6 : Addr, (pw_2 = some a6) ∧
  ∃ x7 : Int, cellOf h4 (a6.add 3) = some (.int .i64 x7) ∧
  ∃ v8 : Value, (AlwaysV Tryz.prog (Instr.build 79 #[(0, (.agg #[(.int .i64 x5.1), (.int .i64 x5.2.1), (.int .i64 x5.2.2.1), (.int .i64 x5.2.2.2.1), (.int .i64 x5.2.2.2.2.1), (.int .i64 x5.2.2.2.2.2.1), (.slice x5.2.2.2.2.2.2.1.ptr x5.2.2.2.2.2.2.1.len x5.2.2.2.2.2.2.1.cap), (.slice x5.2.2.2.2.2.2.2.ptr x5.2.2.2.2.2.2.2.len x5.2.2.2.2.2.2.2.cap)])), (1, (.pointer pw_2)), (2, (.int .i64 x7))]) v8) ∧
  RunsA Tryz.prog (Instr.box 79 v8) h4 fun a9 h5 =>
  (Held.ok [(a6.add 3, (.int .i64 x7)), (a4, (.int .i64 x5.1)), (a4.add 1, (.int .i64 x5.2.1)), (a4.add 2, (.int .i64 x5.2.2.1)), (a4.add 3, (.int .i64 x5.2.2.2.1)), (a4.add 4, (.int .i64 x5.2.2.2.2.1)), (a4.add 5, (.int .i64 x5.2.2.2.2.2.1)), (a4.add 6, (.slice x5.2.2.2.2.2.2.1.ptr x5.2.2.2.2.2.2.1.len x5.2.2.2.2.2.2.1.cap)), (a4.add 7, (.slice x5.2.2.2.2.2.2.2.ptr x5.2.2.2.2.2.2.2.len x5.2.2.2.2.2.2.2.cap))] h5) ∧
  ∃ x10 : Sl, cellOf h5 (a4.add 6) = some (.slice x10.ptr x10.len x10.cap) ∧
  LoopM (σ := Int) (fun s11 K1 h6 =>
  Br (decide (s11 < ((x10.len : Nat) : Int)))
  (∃ a12 : Addr, (x10.ptr = some a12 ∧ 0 ≤ s11 ∧ s11 < ((x10.len : Nat) : Int)) ∧
  ∃ x13 : Int, cellOf h6 (a12.add (s11.toNat * 1)) = some (.int .i64 x13) ∧
  ∃ a14 : Addr, (cells_3.ptr = some a14 ∧ 0 ≤ x13 ∧ x13 < ((cells_3.len : Nat) : Int)) ∧
  ∃ x15 : Int, cellOf h6 (a14.add (x13.toNat * 1)) = some (.int .i64 x15) ∧
  ∃ a16 : Addr, (some a9 = some a16) ∧
  CallM Tryz.prog 60 #[(.int .i64 x15), (.pointer pw_2)] (.one (.sc .ptr)) h6 fun r17 h7 =>
  (Held.ok [] h7) ∧
  (0 ≤ x13 ∧ x13 < ((64 : Nat) : Int)) ∧
  Runs Tryz.prog (Instr.storeAt 76 (.pointer (some ((a16.add 10).add (x13.toNat * 1)))) (.pointer r17)) h7 fun _ h8 =>
  (Held.ok [] h8) ∧
  K1 (IntKind.wrap .i64 (s11 + (1 : Int))) h8)
  (∃ x18 : Int × Int × Int × Int × Int × Int × Sl × Sl, cellsAt h6 a4 0 [(.int .i64 x18.1), (.int .i64 x18.2.1), (.int .i64 x18.2.2.1), (.int .i64 x18.2.2.2.1), (.int .i64 x18.2.2.2.2.1), (.int .i64 x18.2.2.2.2.2.1), (.slice x18.2.2.2.2.2.2.1.ptr x18.2.2.2.2.2.2.1.len x18.2.2.2.2.2.2.1.cap), (.slice x18.2.2.2.2.2.2.2.ptr x18.2.2.2.2.2.2.2.len x18.2.2.2.2.2.2.2.cap)] ∧
  ∃ x19 : Sl, cellOf h6 (a4.add 6) = some (.slice x19.ptr x19.len x19.cap) ∧
  CallM Tryz.prog 61 #[(.pointer (some a9)), (.agg #[(.int .i64 x18.1), (.int .i64 x18.2.1), (.int .i64 x18.2.2.1), (.int .i64 x18.2.2.2.1), (.int .i64 x18.2.2.2.2.1), (.int .i64 x18.2.2.2.2.2.1), (.slice x18.2.2.2.2.2.2.1.ptr x18.2.2.2.2.2.2.1.len x18.2.2.2.2.2.2.1.cap), (.slice x18.2.2.2.2.2.2.2.ptr x18.2.2.2.2.2.2.2.len x18.2.2.2.2.2.2.2.cap)]), (.slice x19.ptr x19.len x19.cap)] (.one (.sc (.int .i64))) h6 fun r20 h9 =>
  Br (r20 != (0 : Int))
  (R (.tuple #[(.pointer none), (.int .i64 (14 : Int))]) h9)
  (R (.tuple #[(.pointer (some a9)), (.int .i64 (0 : Int))]) h9))) (0 : Int) h5))
theorem wellspringref29_Format_run (p_0 : Int × Int × Int) (extra_1 : Int) (pw_2 : Option Addr) (cells_3 : Sl) {R : Value → Heap → Prop} {h : Heap} (hm : wellspringref29_Format_m p_0 extra_1 pw_2 cells_3 R h) : Meets Tryz.prog 22 #[(.agg #[(.int .i64 p_0.1), (.int .i64 p_0.2.1), (.int .i64 p_0.2.2)]), (.int .i64 extra_1), (.pointer pw_2), (.slice cells_3.ptr cells_3.len cells_3.cap)] h R := fn_tie C_ok Tryz.func22 (.two .n (.two .n (.two .n (.two .n (.two .n (.two (.two .n (.inn (.loop [(38, (.sc (.int .i64)))] [(14, 15), (38, 54)] .n))) .n)))))) hm
abbrev fleet_out_id : FuncId := 23
noncomputable def fleet_out_m (s_0 : Option Addr) (R : Value → Heap → Prop) (h : Heap) : Prop :=
  Br (Option.isNone s_0) (R (.bool true) h) (CallM Tryz.prog 44 #[(.pointer s_0)] (.one (.sc .bool)) h fun r1 h1 =>
  R (.bool r1) h1)
theorem fleet_out_run (s_0 : Option Addr) {R : Value → Heap → Prop} {h : Heap} (hm : fleet_out_m s_0 R h) : Meets Tryz.prog 23 #[(.pointer s_0)] h R := fn_tie C_ok Tryz.func23 .n hm
abbrev fleet_right_id : FuncId := 24
noncomputable def fleet_right_m (slot_0 : Int) (cells_1 : Int) (R : Value → Heap → Prop) (h : Heap) : Prop :=
  Br (decide (slot_0 ≥ (0 : Int))) (Br (decide (slot_0 < (64 : Int))) (Br (decide (cells_1 ≥ (1 : Int))) (R (.bool (decide (cells_1 ≤ (512 : Int)))) h) (R (.bool false) h)) (R (.bool false) h)) (R (.bool false) h)
theorem fleet_right_run (slot_0 : Int) (cells_1 : Int) {R : Value → Heap → Prop} {h : Heap} (hm : fleet_right_m slot_0 cells_1 R h) : Meets Tryz.prog 24 #[(.int .i64 slot_0), (.int .i64 cells_1)] h R := fn_tie C_ok Tryz.func24 .n hm
abbrev slices_Contains_int_int_id : FuncId := 25
noncomputable def slices_Contains_int_int_m (s_0 : Sl) (v_1 : Int) (R : Value → Heap → Prop) (h : Heap) : Prop :=
  CallM Tryz.prog 62 #[(.slice s_0.ptr s_0.len s_0.cap), (.int .i64 v_1)] (.one (.sc (.int .i64))) h fun r1 h1 =>
  R (.bool (decide (r1 ≥ (0 : Int)))) h1
theorem slices_Contains_int_int_run (s_0 : Sl) (v_1 : Int) {R : Value → Heap → Prop} {h : Heap} (hm : slices_Contains_int_int_m s_0 v_1 R h) : Meets Tryz.prog 25 #[(.slice s_0.ptr s_0.len s_0.cap), (.int .i64 v_1)] h R := fn_tie C_ok Tryz.func25 .n hm
abbrev store_Store_Set_id : FuncId := 26
noncomputable def store_Store_Set_m (s_0 : Option Addr) (slot_1 : Int) (d_2 : Option Addr) (R : Value → Heap → Prop) (h : Heap) : Prop :=
  Br (!(Option.isNone s_0)) (Br (decide (slot_1 ≥ (0 : Int))) (Br (decide (slot_1 < (64 : Int)))
  (∃ a1 : Addr, (s_0 = some a1) ∧
  (0 ≤ slot_1 ∧ slot_1 < ((64 : Nat) : Int)) ∧
  Runs Tryz.prog (Instr.storeAt 33 (.pointer (some ((a1.add 10).add (slot_1.toNat * 1)))) (.pointer d_2)) h fun _ h1 =>
  R (.tuple #[]) h1)
  (R (.tuple #[]) h)) (R (.tuple #[]) h)) (R (.tuple #[]) h)
theorem store_Store_Set_run (s_0 : Option Addr) (slot_1 : Int) (d_2 : Option Addr) {R : Value → Heap → Prop} {h : Heap} (hm : store_Store_Set_m s_0 slot_1 d_2 R h) : Meets Tryz.prog 26 #[(.pointer s_0), (.int .i64 slot_1), (.pointer d_2)] h R := fn_tie C_ok Tryz.func26 .n hm
abbrev drive_New_id : FuncId := 27
noncomputable def drive_New_m (cells_0 : Int) (p_1 : Option Addr) (R : Value → Heap → Prop) (h : Heap) : Prop :=
  JoinM (σ := Unit) (fun _ h1 =>
  RunsA Tryz.prog (Instr.box 87 (.agg #[(.pointer p_1), (.int .i64 cells_0), (.slice none 0 0), (.int .i64 (0 : Int)), (.slice none 0 0), (.bool false), (.bool false)])) h1 fun a2 h2 =>
  R (.pointer (some a2)) h2)
  (fun K1 =>
  Br (decide (cells_0 < (1 : Int))) (R (.pointer none) h) (Br (decide (cells_0 > (512 : Int))) (R (.pointer none) h) (Br (Option.isNone p_1)
  (R (.pointer none) h)
  (K1 () h))))
theorem drive_New_run (cells_0 : Int) (p_1 : Option Addr) {R : Value → Heap → Prop} {h : Heap} (hm : drive_New_m cells_0 p_1 R h) : Meets Tryz.prog 27 #[(.int .i64 cells_0), (.pointer p_1)] h R := fn_tie C_ok Tryz.func27 (.two .n (.two (.join [] [(4, 15)] .n) .n)) hm
abbrev slices_Sort_int_int_id : FuncId := 28
abbrev store_Store_Live_id : FuncId := 30
noncomputable def store_Store_Live_m (s_0 : Option Addr) (R : Value → Heap → Prop) (h : Heap) : Prop :=
  Br (Option.isNone s_0)
  (R (.slice none 0 0) h)
  (∃ a1 : Addr, (s_0 = some a1) ∧
  ∃ x2 : Sl, cellOf h (a1.add 6) = some (.slice x2.ptr x2.len x2.cap) ∧
  CallM Tryz.prog 66 #[(.func (.func 12) #[(.pointer s_0)] #[]), (.slice x2.ptr x2.len x2.cap)] (.one (.sc .slc)) h fun r3 h1 =>
  R (.slice r3.ptr r3.len r3.cap) h1)
theorem store_Store_Live_run (s_0 : Option Addr) {R : Value → Heap → Prop} {h : Heap} (hm : store_Store_Live_m s_0 R h) : Meets Tryz.prog 30 #[(.pointer s_0)] h R := fn_tie C_ok Tryz.func30 .n hm
abbrev page_Split_id : FuncId := 31
noncomputable def page_Split_m (m_0 : Int × Int × Int × Int × Int × Int × Sl × Sl) (R : Value → Heap → Prop) (h : Heap) : Prop :=
  RunsA Tryz.prog (Instr.box 40 (.agg #[(.int .i64 m_0.1), (.int .i64 m_0.2.1), (.int .i64 m_0.2.2.1), (.int .i64 m_0.2.2.2.1), (.int .i64 m_0.2.2.2.2.1), (.int .i64 m_0.2.2.2.2.2.1), (.slice m_0.2.2.2.2.2.2.1.ptr m_0.2.2.2.2.2.2.1.len m_0.2.2.2.2.2.2.1.cap), (.slice m_0.2.2.2.2.2.2.2.ptr m_0.2.2.2.2.2.2.2.len m_0.2.2.2.2.2.2.2.cap)])) h fun a1 h1 =>
  ∃ x2 : Int × Int × Int × Int × Int × Int × Sl × Sl, cellsAt h1 a1 0 [(.int .i64 x2.1), (.int .i64 x2.2.1), (.int .i64 x2.2.2.1), (.int .i64 x2.2.2.2.1), (.int .i64 x2.2.2.2.2.1), (.int .i64 x2.2.2.2.2.2.1), (.slice x2.2.2.2.2.2.2.1.ptr x2.2.2.2.2.2.2.1.len x2.2.2.2.2.2.2.1.cap), (.slice x2.2.2.2.2.2.2.2.ptr x2.2.2.2.2.2.2.2.len x2.2.2.2.2.2.2.2.cap)] ∧
  CallM Tryz.prog 71 #[(.agg #[(.int .i64 x2.1), (.int .i64 x2.2.1), (.int .i64 x2.2.2.1), (.int .i64 x2.2.2.2.1), (.int .i64 x2.2.2.2.2.1), (.int .i64 x2.2.2.2.2.2.1), (.slice x2.2.2.2.2.2.2.1.ptr x2.2.2.2.2.2.2.1.len x2.2.2.2.2.2.2.1.cap), (.slice x2.2.2.2.2.2.2.2.ptr x2.2.2.2.2.2.2.2.len x2.2.2.2.2.2.2.2.cap)])] (.one (.sc .slc)) h1 fun r3 h2 =>
  ((48 : Int) ≠ 0) ∧
  LoopM (σ := Sl × Int) (fun s4 K1 h3 =>
  Br (decide (s4.2 < (IntKind.wrap .i64 (Int.tdiv (IntKind.wrap .i64 ((IntKind.wrap .i64 (((r3.len : Nat) : Int) + (48 : Int))) - (1 : Int))) (48 : Int)))))
  (∃ x5 : Int, cellOf h3 a1 = some (.int .i64 x5) ∧
  (0 ≤ (IntKind.wrap .i64 (s4.2 * (48 : Int))) ∧ (IntKind.wrap .i64 (s4.2 * (48 : Int))) ≤ (if (IntKind.wrap .i64 ((IntKind.wrap .i64 (s4.2 + (1 : Int))) * (48 : Int))) < ((r3.len : Nat) : Int) then IntKind.wrap .i64 ((IntKind.wrap .i64 (s4.2 + (1 : Int))) * (48 : Int)) else ((r3.len : Nat) : Int)) ∧ (if (IntKind.wrap .i64 ((IntKind.wrap .i64 (s4.2 + (1 : Int))) * (48 : Int))) < ((r3.len : Nat) : Int) then IntKind.wrap .i64 ((IntKind.wrap .i64 (s4.2 + (1 : Int))) * (48 : Int)) else ((r3.len : Nat) : Int)) ≤ ((r3.cap : Nat) : Int)) ∧
  CallM Tryz.prog 72 #[(.int .i64 x5), (.int .i64 s4.2), (.int .i64 (IntKind.wrap .i64 (Int.tdiv (IntKind.wrap .i64 ((IntKind.wrap .i64 (((r3.len : Nat) : Int) + (48 : Int))) - (1 : Int))) (48 : Int)))), (.slice (if r3.cap = (IntKind.wrap .i64 (s4.2 * (48 : Int))).toNat then r3.ptr else r3.ptr.map (·.add ((IntKind.wrap .i64 (s4.2 * (48 : Int))).toNat * 1))) ((if (IntKind.wrap .i64 ((IntKind.wrap .i64 (s4.2 + (1 : Int))) * (48 : Int))) < ((r3.len : Nat) : Int) then IntKind.wrap .i64 ((IntKind.wrap .i64 (s4.2 + (1 : Int))) * (48 : Int)) else ((r3.len : Nat) : Int)).toNat - (IntKind.wrap .i64 (s4.2 * (48 : Int))).toNat) (r3.cap - (IntKind.wrap .i64 (s4.2 * (48 : Int))).toNat))] (.one (.sc .slc)) h3 fun r6 h4 =>
  (Held.ok [] h4) ∧
  RunsR Tryz.prog (Instr.buildSlice 63 1 #[(0, (.slice r6.ptr r6.len r6.cap))]) (.one (.sc .slc)) h4 fun v7 h5 =>
  (Held.ok [] h5) ∧
  RunsR Tryz.prog (Builtin.append_ #[63, 63] 63 #[(.slice s4.1.ptr s4.1.len s4.1.cap), (.slice v7.ptr v7.len v7.cap)]) (.one (.sc .slc)) h5 fun v8 h6 =>
  (Held.ok [] h6) ∧
  K1 ((⟨v8.ptr, v8.len, v8.cap⟩ : Sl), IntKind.wrap .i64 (s4.2 + (1 : Int))) h6)
  (R (.slice s4.1.ptr s4.1.len s4.1.cap) h3)) ((⟨none, 0, 0⟩ : Sl), (0 : Int)) h2
theorem page_Split_run (m_0 : Int × Int × Int × Int × Int × Int × Sl × Sl) {R : Value → Heap → Prop} {h : Heap} (hm : page_Split_m m_0 R h) : Meets Tryz.prog 31 #[(.agg #[(.int .i64 m_0.1), (.int .i64 m_0.2.1), (.int .i64 m_0.2.2.1), (.int .i64 m_0.2.2.2.1), (.int .i64 m_0.2.2.2.2.1), (.int .i64 m_0.2.2.2.2.2.1), (.slice m_0.2.2.2.2.2.2.1.ptr m_0.2.2.2.2.2.2.1.len m_0.2.2.2.2.2.2.1.cap), (.slice m_0.2.2.2.2.2.2.2.ptr m_0.2.2.2.2.2.2.2.len m_0.2.2.2.2.2.2.2.cap)])] h R := fn_tie C_ok Tryz.func31 (.two .n (.two .n (.two .n (.two .n (.two (.two .n (.inn (.loop [(5, (.sc .slc)), (16, (.sc (.int .i64)))] [(5, 8), (16, 39)] .n))) .n))))) hm
abbrev lay_All_id : FuncId := 32
noncomputable def lay_All_m (at_0 : FuncId × Array Value × Array Value) (l_1 : Sl) (R : Value → Heap → Prop) (h : Heap) : Prop :=
  LoopM (σ := Sl × Int) (fun s1 K1 h1 =>
  Br (decide (s1.2 < ((l_1.len : Nat) : Int)))
  (∃ a2 : Addr, (l_1.ptr = some a2 ∧ 0 ≤ s1.2 ∧ s1.2 < ((l_1.len : Nat) : Int)) ∧
  ∃ x3 : Int × Sl, cellsAt h1 (a2.add (s1.2.toNat * 2)) 0 [(.int .i64 x3.1), (.slice x3.2.ptr x3.2.len x3.2.cap)] ∧
  RunsA Tryz.prog (Instr.alloc 117 true (.tuple #[])) h1 fun a4 h2 =>
  Runs Tryz.prog (Instr.storeAt 117 (.pointer (some a4)) (.agg #[(.int .i64 x3.1), (.slice x3.2.ptr x3.2.len x3.2.cap)])) h2 fun _ h3 =>
  JoinM (σ := Unit) (fun _ h7 =>
  ∃ x11 : Int, cellOf h7 a4 = some (.int .i64 x11) ∧
  RunsR Tryz.prog (Instr.buildSlice 22 1 #[(0, (.int .i64 x11))]) (.one (.sc .slc)) h7 fun v12 h8 =>
  RunsR Tryz.prog (Builtin.append_ #[22, 22] 22 #[(.slice s1.1.ptr s1.1.len s1.1.cap), (.slice v12.ptr v12.len v12.cap)]) (.one (.sc .slc)) h8 fun v13 h9 =>
  K1 ((⟨v13.ptr, v13.len, v13.cap⟩ : Sl), IntKind.wrap .i64 (s1.2 + (1 : Int))) h9)
  (fun K2 =>
  JoinM (σ := Int) (fun s9 h6 =>
  Br (s9 != (0 : Int))
  (R (.int .i64 s9) h6)
  (K2 () h6))
  (fun K3 =>
  ∃ x5 : Int, cellOf h3 a4 = some (.int .i64 x5) ∧
  ∃ x6 : Sl, cellOf h3 (a4.add 1) = some (.slice x6.ptr x6.len x6.cap) ∧
  DynM C at_0.1 (at_0.2.1.toList ++ [(.int .i64 x5)] ++ at_0.2.2.toList) (.one (.sc .ptr)) h3 fun r7 h4 =>
  (Held.ok [(a4.add 1, (.slice x6.ptr x6.len x6.cap))] h4) ∧
  CallM Tryz.prog 73 #[(.pointer r7), (.slice x6.ptr x6.len x6.cap)] (.one (.sc (.int .i64))) h4 fun r8 h5 =>
  (Held.ok [] h5) ∧
  K3 r8 h5)))
  (CallM Tryz.prog 74 #[(.func (.func at_0.1) at_0.2.1 at_0.2.2), (.slice s1.1.ptr s1.1.len s1.1.cap)] (.one (.sc (.int .i64))) h1 fun r14 h10 =>
  R (.int .i64 r14) h10)) ((⟨none, 0, 0⟩ : Sl), (0 : Int)) h
theorem lay_All_run (at_0 : FuncId × Array Value × Array Value) (l_1 : Sl) {R : Value → Heap → Prop} {h : Heap} (hm : lay_All_m at_0 l_1 R h) : Meets Tryz.prog 32 #[(.func (.func at_0.1) at_0.2.1 at_0.2.2), (.slice l_1.ptr l_1.len l_1.cap)] h R := fn_tie C_ok Tryz.func32 (.two .n (.two .n (.two (.two .n (.inn (.loop [(5, (.sc .slc)), (11, (.sc (.int .i64)))] [(4, 6), (7, 9), (11, 31)] (.two .n (.two .n (.two (.inn (.two .n (.two (.join [] [(4, 5), (8, 9), (15, 25)] (.two (.join [(8, (.sc (.int .i64)))] [(8, 9), (15, 22)] .n) .n)) .n))) .n)))))) .n))) hm
abbrev lay_Pages_id : FuncId := 33
noncomputable def lay_Pages_m (m_0 : Int × Int × Int × Int × Int × Int × Sl × Sl) (slots_1 : Sl) (R : Value → Heap → Prop) (h : Heap) : Prop :=
  RunsA Tryz.prog (Instr.box 40 (.agg #[(.int .i64 m_0.1), (.int .i64 m_0.2.1), (.int .i64 m_0.2.2.1), (.int .i64 m_0.2.2.2.1), (.int .i64 m_0.2.2.2.2.1), (.int .i64 m_0.2.2.2.2.2.1), (.slice m_0.2.2.2.2.2.2.1.ptr m_0.2.2.2.2.2.2.1.len m_0.2.2.2.2.2.2.1.cap), (.slice m_0.2.2.2.2.2.2.2.ptr m_0.2.2.2.2.2.2.2.len m_0.2.2.2.2.2.2.2.cap)])) h fun a1 h1 =>
  ∃ x2 : Int × Int × Int × Int × Int × Int × Sl × Sl, cellsAt h1 a1 0 [(.int .i64 x2.1), (.int .i64 x2.2.1), (.int .i64 x2.2.2.1), (.int .i64 x2.2.2.2.1), (.int .i64 x2.2.2.2.2.1), (.int .i64 x2.2.2.2.2.2.1), (.slice x2.2.2.2.2.2.2.1.ptr x2.2.2.2.2.2.2.1.len x2.2.2.2.2.2.2.1.cap), (.slice x2.2.2.2.2.2.2.2.ptr x2.2.2.2.2.2.2.2.len x2.2.2.2.2.2.2.2.cap)] ∧
  CallM Tryz.prog 31 #[(.agg #[(.int .i64 x2.1), (.int .i64 x2.2.1), (.int .i64 x2.2.2.1), (.int .i64 x2.2.2.2.1), (.int .i64 x2.2.2.2.2.1), (.int .i64 x2.2.2.2.2.2.1), (.slice x2.2.2.2.2.2.2.1.ptr x2.2.2.2.2.2.2.1.len x2.2.2.2.2.2.2.1.cap), (.slice x2.2.2.2.2.2.2.2.ptr x2.2.2.2.2.2.2.2.len x2.2.2.2.2.2.2.2.cap)])] (.one (.sc .slc)) h1 fun r3 h2 =>
  LoopM (σ := Sl × Int) (fun s4 K1 h3 =>
  Br (decide (s4.2 < ((slots_1.len : Nat) : Int)))
  (∃ a5 : Addr, (slots_1.ptr = some a5 ∧ 0 ≤ s4.2 ∧ s4.2 < ((slots_1.len : Nat) : Int)) ∧
  ∃ x6 : Int, cellOf h3 (a5.add (s4.2.toNat * 1)) = some (.int .i64 x6) ∧
  LoopM (σ := Sl × Int) (fun s7 K2 h4 =>
  Br (decide (s7.2 < ((r3.len : Nat) : Int)))
  (∃ a8 : Addr, (r3.ptr = some a8 ∧ 0 ≤ s7.2 ∧ s7.2 < ((r3.len : Nat) : Int)) ∧
  ∃ x9 : Sl, cellOf h4 (a8.add (s7.2.toNat * 1)) = some (.slice x9.ptr x9.len x9.cap) ∧
  RunsR Tryz.prog (Instr.buildSlice 66 1 #[(0, (.agg #[(.int .i64 x6), (.slice x9.ptr x9.len x9.cap)]))]) (.one (.sc .slc)) h4 fun v10 h5 =>
  RunsR Tryz.prog (Builtin.append_ #[66, 66] 66 #[(.slice s7.1.ptr s7.1.len s7.1.cap), (.slice v10.ptr v10.len v10.cap)]) (.one (.sc .slc)) h5 fun v11 h6 =>
  K2 ((⟨v11.ptr, v11.len, v11.cap⟩ : Sl), IntKind.wrap .i64 (s7.2 + (1 : Int))) h6)
  (K1 ((⟨s7.1.ptr, s7.1.len, s7.1.cap⟩ : Sl), IntKind.wrap .i64 (s4.2 + (1 : Int))) h4)) ((⟨s4.1.ptr, s4.1.len, s4.1.cap⟩ : Sl), (0 : Int)) h3)
  (R (.slice s4.1.ptr s4.1.len s4.1.cap) h3)) ((⟨none, 0, 0⟩ : Sl), (0 : Int)) h2
theorem lay_Pages_run (m_0 : Int × Int × Int × Int × Int × Int × Sl × Sl) (slots_1 : Sl) {R : Value → Heap → Prop} {h : Heap} (hm : lay_Pages_m m_0 slots_1 R h) : Meets Tryz.prog 33 #[(.agg #[(.int .i64 m_0.1), (.int .i64 m_0.2.1), (.int .i64 m_0.2.2.1), (.int .i64 m_0.2.2.2.1), (.int .i64 m_0.2.2.2.2.1), (.int .i64 m_0.2.2.2.2.2.1), (.slice m_0.2.2.2.2.2.2.1.ptr m_0.2.2.2.2.2.2.1.len m_0.2.2.2.2.2.2.1.cap), (.slice m_0.2.2.2.2.2.2.2.ptr m_0.2.2.2.2.2.2.2.len m_0.2.2.2.2.2.2.2.cap)]), (.slice slots_1.ptr slots_1.len slots_1.cap)] h R := fn_tie C_ok Tryz.func33 (.two .n (.two .n (.two .n (.two (.two .n (.inn (.loop [(6, (.sc .slc)), (15, (.sc (.int .i64)))] [(6, 7), (8, 9), (10, 11), (15, 33)] (.two .n (.two .n (.two (.inn (.two .n (.two .n (.inn (.loop [(6, (.sc .slc)), (21, (.sc (.int .i64)))] [(6, 7), (10, 11), (21, 32)] .n))))) .n)))))) .n)))) hm
abbrev drive_Drive_Lose_id : FuncId := 40
noncomputable def drive_Drive_Lose_m (d_0 : Option Addr) (R : Value → Heap → Prop) (h : Heap) : Prop :=
  Br (!(Option.isNone d_0))
  (∃ a1 : Addr, (d_0 = some a1) ∧
  Runs Tryz.prog (Instr.storeAt 4 (.pointer (some (a1.add 6))) (.bool true)) h fun _ h1 =>
  ∃ a2 : Addr, (d_0 = some a2) ∧
  Runs Tryz.prog (Instr.storeAt 63 (.pointer (some (a2.add 2))) (.slice none 0 0)) h1 fun _ h2 =>
  ∃ a3 : Addr, (d_0 = some a3) ∧
  Runs Tryz.prog (Instr.storeAt 3 (.pointer (some (a3.add 3))) (.int .i64 (0 : Int))) h2 fun _ h3 =>
  ∃ a4 : Addr, (d_0 = some a4) ∧
  Runs Tryz.prog (Instr.storeAt 63 (.pointer (some (a4.add 4))) (.slice none 0 0)) h3 fun _ h4 =>
  ∃ a5 : Addr, (d_0 = some a5) ∧
  Runs Tryz.prog (Instr.storeAt 4 (.pointer (some (a5.add 5))) (.bool false)) h4 fun _ h5 =>
  R (.tuple #[]) h5)
  (R (.tuple #[]) h)
theorem drive_Drive_Lose_run (d_0 : Option Addr) {R : Value → Heap → Prop} {h : Heap} (hm : drive_Drive_Lose_m d_0 R h) : Meets Tryz.prog 40 #[(.pointer d_0)] h R := fn_tie C_ok Tryz.func40 .n hm
end Go.Proofs.YtmaknfkhibljfaaGreat
