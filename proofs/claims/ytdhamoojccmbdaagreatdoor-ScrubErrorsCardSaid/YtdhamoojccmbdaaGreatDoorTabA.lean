/- Part of the proofs that the laws of this seat answer true whatever the input reads, and leave it as it was; no condition. -/
import Derived.Test.YtdhamoojccmbdaaGreatDoorPlA
import Derived.Test.YtdhamoojccmbdaaGreatDoorProg
set_option linter.unusedVariables false
set_option linter.unusedSimpArgs false
namespace Go.Proofs.YtdhamoojccmbdaaGreatDoor
open Go Go.Vc Go.Proofs
set_option maxRecDepth 1000000
abbrev bf:Nat:=3
abbrev aH:Nat:=5
abbrev yU:Nat:=22
abbrev bL:Nat:=24
abbrev nW:Nat:=34
abbrev cr:Nat:=38
abbrev qM:Nat:=45
abbrev aO:Nat:=47
abbrev sf:Nat:=59
abbrev aN:Nat:=80
abbrev fi:Nat:=87
abbrev qN:Nat:=90
abbrev bE:Nat:=93
abbrev cm:Nat:=96
abbrev dD:Nat:=102
abbrev pO:Nat:=131
abbrev au:Nat:=134
abbrev dN:Nat:=138
abbrev qO:Nat:=211
abbrev ai:TI:=⟨.fn,(.sc .fn),1,8,[.nilFunc]⟩
abbrev zL:TI:=⟨.int .i64,(.sc (.int .i64)),1,8,[(.int .i64 0)]⟩
abbrev zM:TI:=⟨.int .u8,(.sc (.int .u8)),1,1,[(.int .u8 0)]⟩
abbrev A0:TI:=⟨.str,(.sc .str),1,16,[(.string ⟨#[]⟩)]⟩
abbrev zN:TI:=⟨.int .u64,(.sc (.int .u64)),1,8,[(.int .u64 0)]⟩
abbrev A5:TI:=⟨.int .i32,(.sc (.int .i32)),1,4,[(.int .i32 0)]⟩
abbrev A6:TI:=⟨.other,(.sc .any),1,0,[(.tuple #[(.pointer none),(.int .i64 0)])]⟩
abbrev A7:TI:=⟨.other,(.sc .any),1,0,[(.tuple #[(.slice none 0 0),(.int .i64 0)])]⟩
abbrev zO:TI:=⟨.other,(.sc .any),1,0,[(.tuple #[(.slice none 0 0),(.bool .false)])]⟩
abbrev A8:TI:=⟨.other,(.sc .any),1,0,[(.tuple #[(.int .i64 0),(.int .i64 0)])]⟩
abbrev wy:TI:=⟨.struct [(0,3),(1,38)],(.agg [(.int .i64),.slc]),2,32,[(.int .i64 0),(.slice none 0 0)]⟩
noncomputable def zP:fu:=[⟨.other,(.sc .any),1,0,[(.tuple #[])]⟩,ai,zL,zL,⟨.bool,(.sc .bool),1,1,[(.bool .false)]⟩,zM,zM,⟨.struct [(0,2),(1,3),(2,4),(3,6)],(.agg [(.int .i64),(.int .i64),.bool,(.int .u8)]),4,24,[(.int .i64 0),(.int .i64 0),(.bool .false),(.int .u8 0)]⟩,⟨.struct [(0,2),(1,3),(2,4),(3,6)],(.agg [(.int .i64),(.int .i64),.bool,(.int .u8)]),4,24,[(.int .i64 0),(.int .i64 0),(.bool .false),(.int .u8 0)]⟩,A0,A0,A0,zN,⟨.struct [(0,9),(1,12)],(.agg [.str,(.int .u64)]),2,24,[(.string ⟨#[]⟩),(.int .u64 0)]⟩,⟨.struct [(0,9),(1,12)],(.agg [.str,(.int .u64)]),2,24,[(.string ⟨#[]⟩),(.int .u64 0)]⟩,⟨.ptr 412,(.sc .ptr),1,8,[(.pointer none)]⟩,⟨.ptr 415,(.sc .ptr),1,8,[(.pointer none)]⟩,⟨.ptr 422,(.sc .ptr),1,8,[(.pointer none)]⟩,⟨.struct [(0,17)],(.agg [.ptr]),1,8,[(.pointer none)]⟩,⟨.struct [(0,17)],(.agg [.ptr]),1,8,[(.pointer none)]⟩,⟨.other,(.sc .any),1,16,[.nilIface]⟩,A5,⟨.slice 3,(.sc .slc),1,24,[(.slice none 0 0)]⟩,⟨.struct [(0,3),(1,3),(2,3)],(.agg [(.int .i64),(.int .i64),(.int .i64)]),3,24,[(.int .i64 0),(.int .i64 0),(.int .i64 0)]⟩,⟨.struct [(0,3),(1,3),(2,3)],(.agg [(.int .i64),(.int .i64),(.int .i64)]),3,24,[(.int .i64 0),(.int .i64 0),(.int .i64 0)]⟩,⟨.other,(.sc .any),1,0,[(.tuple #[(.agg #[(.int .i64 0),(.int .i64 0),(.int .i64 0)]),(.int .i64 0),(.slice none 0 0)])]⟩,ai,⟨.ptr 80,(.sc .ptr),1,8,[(.pointer none)]⟩,ai,⟨.ptr 87,(.sc .ptr),1,8,[(.pointer none)]⟩,zL,A6,ai,ai,⟨.ptr 93,(.sc .ptr),1,8,[(.pointer none)]⟩,ai,ai,ai,⟨.slice 5,(.sc .slc),1,24,[(.slice none 0 0)]⟩,ai,⟨.slice 34,(.sc .slc),1,24,[(.slice none 0 0)]⟩,ai,ai,ai,ai,⟨.slice 96,(.sc .slc),1,24,[(.slice none 0 0)]⟩,⟨.struct [(0,3),(1,3),(2,24),(5,3),(6,22),(7,45)],(.agg [(.int .i64),(.int .i64),(.int .i64),(.int .i64),(.int .i64),(.int .i64),.slc,.slc]),8,96,[(.int .i64 0),(.int .i64 0),(.int .i64 0),(.int .i64 0),(.int .i64 0),(.int .i64 0),(.slice none 0 0),(.slice none 0 0)]⟩,⟨.struct [(0,3),(1,3),(2,24),(5,3),(6,22),(7,45)],(.agg [(.int .i64),(.int .i64),(.int .i64),(.int .i64),(.int .i64),(.int .i64),.slc,.slc]),8,96,[(.int .i64 0),(.int .i64 0),(.int .i64 0),(.int .i64 0),(.int .i64 0),(.int .i64 0),(.slice none 0 0),(.slice none 0 0)]⟩,ai,ai,ai,ai,ai,⟨.slice 57,(.sc .slc),1,24,[(.slice none 0 0)]⟩,ai,⟨.int .u32,(.sc (.int .u32)),1,4,[(.int .u32 0)]⟩,⟨.struct [(0,3),(1,9),(2,38),(3,3),(4,3),(5,3),(6,55),(7,22),(8,22)],(.agg [(.int .i64),.str,.slc,(.int .i64),(.int .i64),(.int .i64),(.int .u32),.slc,.slc]),9,128,[(.int .i64 0),(.string ⟨#[]⟩),(.slice none 0 0),(.int .i64 0),(.int .i64 0),(.int .i64 0),(.int .u32 0),(.slice none 0 0),(.slice none 0 0)]⟩,⟨.struct [(0,3),(1,9),(2,38),(3,3),(4,3),(5,3),(6,55),(7,22),(8,22)],(.agg [(.int .i64),.str,.slc,(.int .i64),(.int .i64),(.int .i64),(.int .u32),.slc,.slc]),9,128,[(.int .i64 0),(.string ⟨#[]⟩),(.slice none 0 0),(.int .i64 0),(.int .i64 0),(.int .i64 0),(.int .u32 0),(.slice none 0 0),(.slice none 0 0)]⟩,ai,⟨.slice 38,(.sc .slc),1,24,[(.slice none 0 0)]⟩,⟨.slice 9,(.sc .slc),1,24,[(.slice none 0 0)]⟩,ai,A7,ai,ai,ai,⟨.mp,(.sc .mp),1,8,[(.map none)]⟩,zO,⟨.struct [(0,3),(1,3),(2,3),(3,22)],(.agg [(.int .i64),(.int .i64),(.int .i64),.slc]),4,48,[(.int .i64 0),(.int .i64 0),(.int .i64 0),(.slice none 0 0)]⟩,⟨.struct [(0,3),(1,3),(2,3),(3,22)],(.agg [(.int .i64),(.int .i64),(.int .i64),.slc]),4,48,[(.int .i64 0),(.int .i64 0),(.int .i64 0),(.slice none 0 0)]⟩,⟨.other,(.sc .any),1,0,[(.tuple #[(.agg #[(.int .i64 0),(.int .i64 0),(.int .i64 0),(.slice none 0 0)]),(.int .i64 0)])]⟩,ai,ai,ai,A8,ai,ai,ai,ai,⟨.struct [(0,4),(1,4),(2,3),(3,3)],(.agg [.bool,.bool,(.int .i64),(.int .i64)]),4,24,[(.bool .false),(.bool .false),(.int .i64 0),(.int .i64 0)]⟩,⟨.struct [(0,4),(1,4),(2,3),(3,3)],(.agg [.bool,.bool,(.int .i64),(.int .i64)]),4,24,[(.bool .false),(.bool .false),(.int .i64 0),(.int .i64 0)]⟩,zO,ai,ai,ai,⟨.array 64 34,(.arr .ptr),64,512,List.replicate 64 (.pointer none)⟩,⟨.struct [(0,47),(8,27),(9,3),(10,85)],(.arr .any),74,624,[(.int .i64 0),(.int .i64 0),(.int .i64 0),(.int .i64 0),(.int .i64 0),(.int .i64 0),(.slice none 0 0),(.slice none 0 0),(.pointer none),(.int .i64 0)]++List.replicate 64 (.pointer none)⟩,⟨.struct [(0,47),(8,27),(9,3),(10,85)],(.arr .any),74,624,[(.int .i64 0),(.int .i64 0),(.int .i64 0),(.int .i64 0),(.int .i64 0),(.int .i64 0),(.slice none 0 0),(.slice none 0 0),(.pointer none),(.int .i64 0)]++List.replicate 64 (.pointer none)⟩,ai,ai,⟨.slice 102,(.sc .slc),1,24,[(.slice none 0 0)]⟩,ai,⟨.struct [(0,27),(1,3),(2,59),(3,3),(4,59),(5,4),(6,4)],(.agg [.ptr,(.int .i64),.slc,(.int .i64),.slc,.bool,.bool]),7,80,[(.pointer none),(.int .i64 0),(.slice none 0 0),(.int .i64 0),(.slice none 0 0),(.bool .false),(.bool .false)]⟩,⟨.struct [(0,27),(1,3),(2,59),(3,3),(4,59),(5,4),(6,4)],(.agg [.ptr,(.int .i64),.slc,(.int .i64),.slc,.bool,.bool]),7,80,[(.pointer none),(.int .i64 0),(.slice none 0 0),(.int .i64 0),(.slice none 0 0),(.bool .false),(.bool .false)]⟩,ai,⟨.struct [(0,9),(1,3),(2,3),(3,22)],(.agg [.str,(.int .i64),(.int .i64),.slc]),4,56,[(.string ⟨#[]⟩),(.int .i64 0),(.int .i64 0),(.slice none 0 0)]⟩,⟨.struct [(0,9),(1,3),(2,3),(3,22)],(.agg [.str,(.int .i64),(.int .i64),.slc]),4,56,[(.string ⟨#[]⟩),(.int .i64 0),(.int .i64 0),(.slice none 0 0)]⟩,ai,zO,ai,ai,wy,wy,ai,ai,ai,ai,⟨.other,(.sc .any),1,0,[(.tuple #[(.agg #[(.int .i64 0),(.int .i64 0),(.int .i64 0),(.int .i64 0),(.int .i64 0),(.int .i64 0),(.slice none 0 0),(.slice none 0 0)]),(.bool .false)])]⟩,ai,ai,ai,ai,ai,ai,ai,ai,ai,ai,ai,ai,ai,ai,ai,ai,ai,⟨.slice 176,(.sc .slc),1,24,[(.slice none 0 0)]⟩,ai,ai,ai,ai,ai,⟨.slice 134,(.sc .slc),1,24,[(.slice none 0 0)]⟩,ai,⟨.struct [(0,3),(1,3),(2,3),(3,24),(6,55),(7,38)],(.agg [(.int .i64),(.int .i64),(.int .i64),(.int .i64),(.int .i64),(.int .i64),(.int .u32),.slc]),8,80,[(.int .i64 0),(.int .i64 0),(.int .i64 0),(.int .i64 0),(.int .i64 0),(.int .i64 0),(.int .u32 0),(.slice none 0 0)]⟩,⟨.struct [(0,3),(1,3),(2,3),(3,24),(6,55),(7,38)],(.agg [(.int .i64),(.int .i64),(.int .i64),(.int .i64),(.int .i64),(.int .i64),(.int .u32),.slc]),8,80,[(.int .i64 0),(.int .i64 0),(.int .i64 0),(.int .i64 0),(.int .i64 0),(.int .i64 0),(.int .u32 0),(.slice none 0 0)]⟩,ai,⟨.ptr 138,(.sc .ptr),1,8,[(.pointer none)]⟩,⟨.struct [(0,29),(1,47),(9,22),(10,3),(11,3),(12,3)],(.agg [.ptr,(.int .i64),(.int .i64),(.int .i64),(.int .i64),(.int .i64),(.int .i64),.slc,.slc,.slc,(.int .i64),(.int .i64),(.int .i64)]),13,152,[(.pointer none),(.int .i64 0),(.int .i64 0),(.int .i64 0),(.int .i64 0),(.int .i64 0),(.int .i64 0),(.slice none 0 0),(.slice none 0 0),(.slice none 0 0),(.int .i64 0),(.int .i64 0),(.int .i64 0)]⟩,⟨.struct [(0,29),(1,47),(9,22),(10,3),(11,3),(12,3)],(.agg [.ptr,(.int .i64),(.int .i64),(.int .i64),(.int .i64),(.int .i64),(.int .i64),.slc,.slc,.slc,(.int .i64),(.int .i64),(.int .i64)]),13,152,[(.pointer none),(.int .i64 0),(.int .i64 0),(.int .i64 0),(.int .i64 0),(.int .i64 0),(.int .i64 0),(.slice none 0 0),(.slice none 0 0),(.slice none 0 0),(.int .i64 0),(.int .i64 0),(.int .i64 0)]⟩,ai,ai,ai,ai,ai,ai,ai,ai,ai,⟨.other,(.sc .any),1,0,[(.tuple #[(.int .i64 0),(.bool .false)])]⟩,ai,ai,⟨.ptr 211,(.sc .ptr),1,8,[(.pointer none)]⟩,A6,ai,ai,ai,ai,ai,ai,ai,ai,ai,ai,ai,⟨.slice 47,(.sc .slc),1,24,[(.slice none 0 0)]⟩,ai,ai,ai,ai,ai,ai,ai,ai,ai,ai,wy,wy,ai,ai,ai,ai,ai,A7,ai,ai,⟨.other,(.sc .any),1,0,[(.tuple #[(.agg #[(.int .i64 0),(.int .i64 0),(.int .i64 0),(.int .i64 0),(.int .i64 0),(.int .i64 0),(.int .u32 0),(.slice none 0 0)]),(.bool .false)])]⟩,ai,ai,ai,ai,ai,ai,ai,⟨.ptr 199,(.sc .ptr),1,8,[(.pointer none)]⟩,A6,ai,ai,⟨.slice 22,(.sc .slc),1,24,[(.slice none 0 0)]⟩,⟨.struct [(0,3),(1,3),(2,55),(3,151),(4,197),(5,22)],(.agg [(.int .i64),(.int .i64),(.int .u32),.ptr,.slc,.slc]),6,80,[(.int .i64 0),(.int .i64 0),(.int .u32 0),(.pointer none),(.slice none 0 0),(.slice none 0 0)]⟩,⟨.struct [(0,3),(1,3),(2,55),(3,151),(4,197),(5,22)],(.agg [(.int .i64),(.int .i64),(.int .u32),.ptr,.slc,.slc]),6,80,[(.int .i64 0),(.int .i64 0),(.int .u32 0),(.pointer none),(.slice none 0 0),(.slice none 0 0)]⟩,ai,zN,ai,ai,ai,ai,⟨.ptr 275,(.sc .ptr),1,8,[(.pointer none)]⟩,ai,ai,ai,⟨.struct [(0,24),(3,55),(4,59)],(.agg [(.int .i64),(.int .i64),(.int .i64),(.int .u32),.slc]),5,56,[(.int .i64 0),(.int .i64 0),(.int .i64 0),(.int .u32 0),(.slice none 0 0)]⟩,⟨.struct [(0,24),(3,55),(4,59)],(.agg [(.int .i64),(.int .i64),(.int .i64),(.int .u32),.slc]),5,56,[(.int .i64 0),(.int .i64 0),(.int .i64 0),(.int .u32 0),(.slice none 0 0)]⟩,⟨.cpx,(.sc (.cpx .f64)),1,16,[(.complex Go.FloatKind.f64 0 0)]⟩,ai,⟨.slice 219,(.sc .slc),1,24,[(.slice none 0 0)]⟩,⟨.array 64 4,(.arr .bool),64,64,List.replicate 64 (.bool .false)⟩,⟨.flt,(.sc (.flt .f64)),1,8,[(.float Go.FloatKind.f64 0)]⟩,ai,⟨.struct [(0,3),(1,216)],(.agg [(.int .i64),(.flt .f64)]),2,16,[(.int .i64 0),(.float Go.FloatKind.f64 0)]⟩,⟨.struct [(0,3),(1,216)],(.agg [(.int .i64),(.flt .f64)]),2,16,[(.int .i64 0),(.float Go.FloatKind.f64 0)]⟩,ai,ai,ai,ai,ai,ai,ai,ai,ai,ai,⟨.ptr 5,(.sc .ptr),1,8,[(.pointer none)]⟩,ai,ai,⟨.slice 235,(.sc .slc),1,24,[(.slice none 0 0)]⟩,⟨.struct [(0,22),(1,38)],(.agg [.slc,.slc]),2,48,[(.slice none 0 0),(.slice none 0 0)]⟩,⟨.struct [(0,22),(1,38)],(.agg [.slc,.slc]),2,48,[(.slice none 0 0),(.slice none 0 0)]⟩,⟨.ptr 241,(.sc .ptr),1,8,[(.pointer none)]⟩,⟨.slice 315,(.sc .slc),1,24,[(.slice none 0 0)]⟩,⟨.struct [(0,237),(1,22),(2,22)],(.agg [.slc,.slc,.slc]),3,72,[(.slice none 0 0),(.slice none 0 0),(.slice none 0 0)]⟩,⟨.struct [(0,237),(1,22),(2,22)],(.agg [.slc,.slc,.slc]),3,72,[(.slice none 0 0),(.slice none 0 0),(.slice none 0 0)]⟩,⟨.struct [(0,206),(1,24),(4,59),(5,233),(6,239),(9,59),(10,59)],(.agg [.ptr,(.int .i64),(.int .i64),(.int .i64),.slc,.slc,.slc,.slc,.slc,.slc,.slc]),11,200,[(.pointer none),(.int .i64 0),(.int .i64 0),(.int .i64 0),(.slice none 0 0),(.slice none 0 0),(.slice none 0 0),(.slice none 0 0),(.slice none 0 0),(.slice none 0 0),(.slice none 0 0)]⟩,⟨.struct [(0,206),(1,24),(4,59),(5,233),(6,239),(9,59),(10,59)],(.agg [.ptr,(.int .i64),(.int .i64),(.int .i64),.slc,.slc,.slc,.slc,.slc,.slc,.slc]),11,200,[(.pointer none),(.int .i64 0),(.int .i64 0),(.int .i64 0),(.slice none 0 0),(.slice none 0 0),(.slice none 0 0),(.slice none 0 0),(.slice none 0 0),(.slice none 0 0),(.slice none 0 0)]⟩,⟨.slice 4,(.sc .slc),1,24,[(.slice none 0 0)]⟩,⟨.other,(.sc .any),1,0,[(.tuple #[(.slice none 0 0),(.slice none 0 0),(.slice none 0 0),(.int .i64 0)])]⟩,ai,ai,⟨.other,(.sc .any),1,0,[(.tuple #[(.slice none 0 0),(.slice none 0 0)])]⟩,ai,ai,ai,⟨.ptr 328,(.sc .ptr),1,8,[(.pointer none)]⟩,ai,ai,ai,ai,ai,⟨.other,(.sc .any),1,0,[(.tuple #[(.int .i64 0),(.slice none 0 0),(.bool .false)])]⟩,ai,ai,ai,ai,⟨.other,(.sc .any),1,0,[(.tuple #[(.slice none 0 0),(.bool .false),(.int .i64 0)])]⟩,ai,ai,ai,ai,ai,ai,ai,ai,⟨.array 255 5,(.arr (.int .u8)),255,255,List.replicate 255 (.int .u8 0)⟩,ai,⟨.array 256 3,(.arr (.int .i64)),256,2048,List.replicate 256 (.int .i64 0)⟩,ai,⟨.struct [(0,270),(255,272)],(.arr .any),511,2304,List.replicate 255 (.int .u8 0)++List.replicate 256 (.int .i64 0)⟩,⟨.struct [(0,270),(255,272)],(.arr .any),511,2304,List.replicate 255 (.int .u8 0)++List.replicate 256 (.int .i64 0)⟩,ai,ai,⟨.ptr 281,(.sc .ptr),1,8,[(.pointer none)]⟩,ai,⟨.struct [(0,212),(1,212),(2,3),(3,3),(4,4)],(.agg [(.cpx .f64),(.cpx .f64),(.int .i64),(.int .i64),.bool]),5,56,[(.complex Go.FloatKind.f64 0 0),(.complex Go.FloatKind.f64 0 0),(.int .i64 0),(.int .i64 0),(.bool .false)]⟩,⟨.struct [(0,212),(1,212),(2,3),(3,3),(4,4)],(.agg [(.cpx .f64),(.cpx .f64),(.int .i64),(.int .i64),.bool]),5,56,[(.complex Go.FloatKind.f64 0 0),(.complex Go.FloatKind.f64 0 0),(.int .i64 0),(.int .i64 0),(.bool .false)]⟩,ai,ai,ai,zL,A8,ai,ai,ai,ai,ai,ai,zN,⟨.slice 296,(.sc .slc),1,24,[(.slice none 0 0)]⟩,⟨.struct [(0,3),(1,3),(2,3),(3,38),(4,38)],(.agg [(.int .i64),(.int .i64),(.int .i64),.slc,.slc]),5,72,[(.int .i64 0),(.int .i64 0),(.int .i64 0),(.slice none 0 0),(.slice none 0 0)]⟩,⟨.struct [(0,3),(1,3),(2,3),(3,38),(4,38)],(.agg [(.int .i64),(.int .i64),(.int .i64),.slc,.slc]),5,72,[(.int .i64 0),(.int .i64 0),(.int .i64 0),(.slice none 0 0),(.slice none 0 0)]⟩,⟨.other,(.sc .any),1,0,[(.tuple #[(.agg #[(.int .i64 0),(.int .i64 0),(.int .i64 0),(.slice none 0 0),(.slice none 0 0)]),(.bool .false)])]⟩,ai,⟨.mp,(.sc .mp),1,8,[(.map none)]⟩,zO,ai,ai,ai,ai,ai,ai,⟨.ptr 309,(.sc .ptr),1,8,[(.pointer none)]⟩,⟨.struct [(0,233),(1,242),(2,59)],(.agg [.slc,.slc,.slc]),3,72,[(.slice none 0 0),(.slice none 0 0),(.slice none 0 0)]⟩,⟨.struct [(0,233),(1,242),(2,59)],(.agg [.slc,.slc,.slc]),3,72,[(.slice none 0 0),(.slice none 0 0),(.slice none 0 0)]⟩,ai,⟨.other,(.sc .any),1,0,[(.tuple #[(.agg #[(.slice none 0 0),(.slice none 0 0),(.slice none 0 0)]),(.bool .false)])]⟩,ai,ai,⟨.struct [(0,3),(1,3)],(.agg [(.int .i64),(.int .i64)]),2,16,[(.int .i64 0),(.int .i64 0)]⟩,⟨.struct [(0,3),(1,3)],(.agg [(.int .i64),(.int .i64)]),2,16,[(.int .i64 0),(.int .i64 0)]⟩,ai,ai,ai,ai,⟨.array 256 4,(.arr .bool),256,256,List.replicate 256 (.bool .false)⟩,⟨.array 256 4,(.arr .bool),256,256,List.replicate 256 (.bool .false)⟩,⟨.other,(.sc .any),1,0,[(.tuple #[(.agg #[(.bool .false),(.bool .false),(.bool .false),(.bool .false),(.bool .false),(.bool .false),(.bool .false),(.bool .false),(.bool .false),(.bool .false),(.bool .false),(.bool .false),(.bool .false),(.bool .false),(.bool .false),(.bool .false),(.bool .false),(.bool .false),(.bool .false),(.bool .false),(.bool .false),(.bool .false),(.bool .false),(.bool .false),(.bool .false),(.bool .false),(.bool .false),(.bool .false),(.bool .false),(.bool .false),(.bool .false),(.bool .false),(.bool .false),(.bool .false),(.bool .false),(.bool .false),(.bool .false),(.bool .false),(.bool .false),(.bool .false),(.bool .false),(.bool .false),(.bool .false),(.bool .false),(.bool .false),(.bool .false),(.bool .false),(.bool .false),(.bool .false),(.bool .false),(.bool .false),(.bool .false),(.bool .false),(.bool .false),(.bool .false),(.bool .false),(.bool .false),(.bool .false),(.bool .false),(.bool .false),(.bool .false),(.bool .false),(.bool .false),(.bool .false),(.bool .false),(.bool .false),(.bool .false),(.bool .false),(.bool .false),(.bool .false),(.bool .false),(.bool .false),(.bool .false),(.bool .false),(.bool .false),(.bool .false),(.bool .false),(.bool .false),(.bool .false),(.bool .false),(.bool .false),(.bool .false),(.bool .false),(.bool .false),(.bool .false),(.bool .false),(.bool .false),(.bool .false),(.bool .false),(.bool .false),(.bool .false),(.bool .false),(.bool .false),(.bool .false),(.bool .false),(.bool .false),(.bool .false),(.bool .false),(.bool .false),(.bool .false),(.bool .false),(.bool .false),(.bool .false),(.bool .false),(.bool .false),(.bool .false),(.bool .false),(.bool .false),(.bool .false),(.bool .false),(.bool .false),(.bool .false),(.bool .false),(.bool .false),(.bool .false),(.bool .false),(.bool .false),(.bool .false),(.bool .false),(.bool .false),(.bool .false),(.bool .false),(.bool .false),(.bool .false),(.bool .false),(.bool .false),(.bool .false),(.bool .false),(.bool .false),(.bool .false),(.bool .false),(.bool .false),(.bool .false),(.bool .false),(.bool .false),(.bool .false),(.bool .false),(.bool .false),(.bool .false),(.bool .false),(.bool .false),(.bool .false),(.bool .false),(.bool .false),(.bool .false),(.bool .false),(.bool .false),(.bool .false),(.bool .false),(.bool .false),(.bool .false),(.bool .false),(.bool .false),(.bool .false),(.bool .false),(.bool .false),(.bool .false),(.bool .false),(.bool .false),(.bool .false),(.bool .false),(.bool .false),(.bool .false),(.bool .false),(.bool .false),(.bool .false),(.bool .false),(.bool .false),(.bool .false),(.bool .false),(.bool .false),(.bool .false),(.bool .false),(.bool .false),(.bool .false),(.bool .false),(.bool .false),(.bool .false),(.bool .false),(.bool .false),(.bool .false),(.bool .false),(.bool .false),(.bool .false),(.bool .false),(.bool .false),(.bool .false),(.bool .false),(.bool .false),(.bool .false),(.bool .false),(.bool .false),(.bool .false),(.bool .false),(.bool .false),(.bool .false),(.bool .false),(.bool .false),(.bool .false),(.bool .false),(.bool .false),(.bool .false),(.bool .false),(.bool .false),(.bool .false),(.bool .false),(.bool .false),(.bool .false),(.bool .false),(.bool .false),(.bool .false),(.bool .false),(.bool .false),(.bool .false),(.bool .false),(.bool .false),(.bool .false),(.bool .false),(.bool .false),(.bool .false),(.bool .false),(.bool .false),(.bool .false),(.bool .false),(.bool .false),(.bool .false),(.bool .false),(.bool .false),(.bool .false),(.bool .false),(.bool .false),(.bool .false),(.bool .false),(.bool .false),(.bool .false),(.bool .false),(.bool .false),(.bool .false),(.bool .false),(.bool .false),(.bool .false),(.bool .false),(.bool .false),(.bool .false),(.bool .false),(.bool .false),(.bool .false),(.bool .false),(.bool .false),(.bool .false),(.bool .false),(.bool .false),(.bool .false),(.bool .false),(.bool .false),(.bool .false)]),(.bool .false)])]⟩,ai,ai,⟨.ptr 321,(.sc .ptr),1,8,[(.pointer none)]⟩,ai,⟨.struct [(0,293)],(.agg [(.int .u64)]),1,8,[(.int .u64 0)]⟩,⟨.struct [(0,293)],(.agg [(.int .u64)]),1,8,[(.int .u64 0)]⟩,ai,ai,A7,ai,⟨.ptr 381,(.sc .ptr),1,8,[(.pointer none)]⟩,ai,⟨.slice 59,(.sc .slc),1,24,[(.slice none 0 0)]⟩,ai,ai,ai,ai,ai,ai,ai,ai,ai,ai,ai,ai,ai,ai,ai,ai,ai,ai,ai,ai,zN,ai,ai,ai,⟨.ptr 3,(.sc .ptr),1,8,[(.pointer none)]⟩,ai,ai,ai,ai,ai,ai,ai,ai,ai,⟨.ptr 372,(.sc .ptr),1,8,[(.pointer none)]⟩,⟨.struct [(0,197),(1,242),(2,242)],(.agg [.slc,.slc,.slc]),3,72,[(.slice none 0 0),(.slice none 0 0),(.slice none 0 0)]⟩,⟨.struct [(0,197),(1,242),(2,242)],(.agg [.slc,.slc,.slc]),3,72,[(.slice none 0 0),(.slice none 0 0),(.slice none 0 0)]⟩,ai,⟨.other,(.sc .any),1,0,[(.tuple #[(.agg #[(.int .i64 0),(.int .i64 0)]),(.bool .false)])]⟩,ai,ai,⟨.other,(.sc .any),1,0,[(.tuple #[(.int .i32 0),(.int .i64 0)])]⟩,ai,ai,⟨.struct [(0,206),(1,3),(2,59)],(.agg [.ptr,(.int .i64),.slc]),3,40,[(.pointer none),(.int .i64 0),(.slice none 0 0)]⟩,⟨.struct [(0,206),(1,3),(2,59)],(.agg [.ptr,(.int .i64),.slc]),3,40,[(.pointer none),(.int .i64 0),(.slice none 0 0)]⟩,ai,ai,ai,ai,ai,ai,ai,ai,⟨.ptr 356,(.sc .ptr),1,8,[(.pointer none)]⟩,A8,ai,⟨.ptr 395,(.sc .ptr),1,8,[(.pointer none)]⟩,⟨.struct [(0,38),(1,4)],(.agg [.slc,.bool]),2,32,[(.slice none 0 0),(.bool .false)]⟩,⟨.struct [(0,38),(1,4)],(.agg [.slc,.bool]),2,32,[(.slice none 0 0),(.bool .false)]⟩,ai,ai,ai,ai,ai,ai,ai,ai,ai,⟨.array 256 5,(.arr (.int .u8)),256,256,List.replicate 256 (.int .u8 0)⟩,⟨.struct [(0,5),(1,5)],(.agg [(.int .u8),(.int .u8)]),2,2,[(.int .u8 0),(.int .u8 0)]⟩,⟨.struct [(0,5),(1,5)],(.agg [(.int .u8),(.int .u8)]),2,2,[(.int .u8 0),(.int .u8 0)]⟩,⟨.array 16 407,(.arr (.int .u8)),32,32,List.replicate 32 (.int .u8 0)⟩,ai,ai,⟨.struct [(0,17),(1,17),(2,17),(3,9)],(.agg [.ptr,.ptr,.ptr,.str]),4,40,[(.pointer none),(.pointer none),(.pointer none),(.string ⟨#[]⟩)]⟩,⟨.struct [(0,17),(1,17),(2,17),(3,9)],(.agg [.ptr,.ptr,.ptr,.str]),4,40,[(.pointer none),(.pointer none),(.pointer none),(.string ⟨#[]⟩)]⟩,⟨.array 0 16,(.arr .ptr),0,0,[]⟩,⟨.struct [(0,413)],(.agg []),0,0,[]⟩,⟨.struct [(0,413)],(.agg []),0,0,[]⟩,zM,zM,ai,A5,A5,⟨.struct [(0,12),(1,12),(2,55),(3,416),(4,5),(5,5),(6,417),(7,418),(8,230),(9,419),(10,420)],(.agg [(.int .u64),(.int .u64),(.int .u32),(.int .u8),(.int .u8),(.int .u8),(.int .u8),.fn,.ptr,(.int .i32),(.int .i32)]),11,48,[(.int .u64 0),(.int .u64 0),(.int .u32 0),(.int .u8 0),(.int .u8 0),(.int .u8 0),(.int .u8 0),.nilFunc,(.pointer none),(.int .i32 0),(.int .i32 0)]⟩,⟨.struct [(0,12),(1,12),(2,55),(3,416),(4,5),(5,5),(6,417),(7,418),(8,230),(9,419),(10,420)],(.agg [(.int .u64),(.int .u64),(.int .u32),(.int .u8),(.int .u8),(.int .u8),(.int .u8),.fn,.ptr,(.int .i32),(.int .i32)]),11,48,[(.int .u64 0),(.int .u64 0),(.int .u32 0),(.int .u8 0),(.int .u8 0),(.int .u8 0),(.int .u8 0),.nilFunc,(.pointer none),(.int .i32 0),(.int .i32 0)]⟩,⟨.other,(.sc .any),1,8,[(.pointer none)]⟩]
noncomputable def C:Ctx:={P:=Tryz.prog,T:=zP,tup:=[(0,[]),(25,[(.agg [(.int .i64),(.int .i64),(.int .i64)]),(.sc (.int .i64)),(.sc .slc)]),(31,[(.sc .ptr),(.sc (.int .i64))]),(62,[(.sc .slc),(.sc (.int .i64))]),(67,[(.sc .slc),(.sc .bool)]),(70,[(.agg [(.int .i64),(.int .i64),(.int .i64),.slc]),(.sc (.int .i64))]),(74,[(.sc (.int .i64)),(.sc (.int .i64))]),(81,[(.sc .slc),(.sc .bool)]),(98,[(.sc .slc),(.sc .bool)]),(107,[(.agg [(.int .i64),(.int .i64),(.int .i64),(.int .i64),(.int .i64),(.int .i64),.slc,.slc]),(.sc .bool)]),(148,[(.sc (.int .i64)),(.sc .bool)]),(152,[(.sc .ptr),(.sc (.int .i64))]),(182,[(.sc .slc),(.sc (.int .i64))]),(185,[(.agg [(.int .i64),(.int .i64),(.int .i64),(.int .i64),(.int .i64),(.int .i64),(.int .u32),.slc]),(.sc .bool)]),(194,[(.sc .ptr),(.sc (.int .i64))]),(243,[(.sc .slc),(.sc .slc),(.sc .slc),(.sc (.int .i64))]),(246,[(.sc .slc),(.sc .slc)]),(256,[(.sc (.int .i64)),(.sc .slc),(.sc .bool)]),(261,[(.sc .slc),(.sc .bool),(.sc (.int .i64))]),(286,[(.sc (.int .i64)),(.sc (.int .i64))]),(297,[(.agg [(.int .i64),(.int .i64),(.int .i64),.slc,.slc]),(.sc .bool)]),(300,[(.sc .slc),(.sc .bool)]),(311,[(.agg [.slc,.slc,.slc]),(.sc .bool)]),(322,[(.arr .bool),(.sc .bool)]),(331,[(.sc .slc),(.sc (.int .i64))]),(374,[(.agg [(.int .i64),(.int .i64)]),(.sc .bool)]),(377,[(.sc (.int .i32)),(.sc (.int .i64))]),(391,[(.sc (.int .i64)),(.sc (.int .i64))])],fns:=[false,false]++List.replicate 336 true++List.replicate 23 false++[true]}
theorem BH:(List.range C.T.length).map (fu.seen C.P)=C.T.map fu.told:=by kernel_rfl
theorem Ak:C.P.follows .mixedOrders=true:=by kernel_rfl
theorem BI:(C.P.funcs.toList.map fun f=>!(f.name== "runtime.NumGoroutine")&&f.body.isSome)=C.fns:=by kernel_rfl
theorem ah:C.Ok:={zP:=BH,mixed:=Ak,fns:=BI}
abbrev dX:FuncId:=6
noncomputable def ez (c_0:Sl) (t_1:Int) (most_2:Int) (n_3:Int) (R:Value→Heap→Prop) (h:Heap):Prop:=
 af Tryz.prog 7 #[(.slice c_0.ptr c_0.len c_0.cap)] (.many [(.agg [(.int .i64),(.int .i64),(.int .i64)]),(.sc (.int .i64)),(.sc .slc)]) h fun r1 h1=>
 aW Tryz.prog (Instr.alloc 24 true (.tuple #[])) h1 fun a2 h2=>
 ab Tryz.prog (Instr.storeAt 24 (.pointer (some a2)) (.agg #[(.int .i64 r1.1.1),(.int .i64 r1.1.2.1),(.int .i64 r1.1.2.2)])) h2 fun _ h3=>
 aR (σ:=Sl×Int) (fun s3 K1 h4=>
 af Tryz.prog 10 #[(.int .i64 n_3),(.int .i64 (25:Int))] (.one (.sc (.int .i64))) h4 fun r4 h5=>
 Br (decide (s3.2<(IntKind.wrap .i64 ((40:Int)+r4))))
 (av Tryz.prog (Instr.buildSlice 22 1 #[(0,(.int .i64 (9:Int)))]) (.one (.sc .slc)) h5 fun v5 h6=>
 av Tryz.prog (Builtin.append_ #[22,22] 22 #[(.slice s3.1.ptr s3.1.len s3.1.cap),(.slice v5.ptr v5.len v5.cap)]) (.one (.sc .slc)) h6 fun v6 h7=>
 K1 ((⟨v6.ptr,v6.len,v6.cap⟩:Sl),IntKind.wrap .i64 (s3.2+(1:Int))) h7)
 (bn (σ:=Option Addr×Int) (fun s10 h10=>
 bn (σ:=Unit) (fun _ h11=>
 af Tryz.prog 10 #[(.int .i64 t_1),(.int .i64 (IntKind.wrap .i64 (((s3.1.len:Nat):Int)-(6:Int))))] (.one (.sc (.int .i64))) h11 fun r12 h12=>
 af Tryz.prog 31 #[(.pointer s10.1),(.int .i64 (IntKind.wrap .i64 ((3:Int)+r12))),(.int .i64 (5:Int))] (.many [(.sc (.int .i64)),(.sc (.int .i64))]) h12 fun r13 h13=>
 af Tryz.prog 10 #[(.int .i64 most_2),(.int .i64 (100:Int))] (.one (.sc (.int .i64))) h13 fun r14 h14=>
 af Tryz.prog 31 #[(.pointer s10.1),(.int .i64 (3:Int)),(.int .i64 (IntKind.wrap .i64 ((65:Int)+r14)))] (.many [(.sc (.int .i64)),(.sc (.int .i64))]) h14 fun r15 h15=>
 af Tryz.prog 10 #[(.int .i64 t_1),(.int .i64 (100:Int))] (.one (.sc (.int .i64))) h15 fun r16 h16=>
 af Tryz.prog 31 #[(.pointer s10.1),(.int .i64 (IntKind.wrap .i64 (((s3.1.len:Nat):Int)+r16))),(.int .i64 (5:Int))] (.many [(.sc (.int .i64)),(.sc (.int .i64))]) h16 fun r17 h17=>
 af Tryz.prog 10 #[(.int .i64 t_1),(.int .i64 (100:Int))] (.one (.sc (.int .i64))) h17 fun r18 h18=>
 af Tryz.prog 31 #[(.pointer s10.1),(.int .i64 (IntKind.wrap .i64 ((-1:Int)-r18))),(.int .i64 (5:Int))] (.many [(.sc (.int .i64)),(.sc (.int .i64))]) h18 fun r19 h19=>
 af Tryz.prog 10 #[(.int .i64 most_2),(.int .i64 (100:Int))] (.one (.sc (.int .i64))) h19 fun r20 h20=>
 af Tryz.prog 31 #[(.pointer s10.1),(.int .i64 (1:Int)),(.int .i64 (IntKind.wrap .i64 ((-1:Int)-r20)))] (.many [(.sc (.int .i64)),(.sc (.int .i64))]) h20 fun r21 h21=>
 af Tryz.prog 31 #[(.pointer none),(.int .i64 (0:Int)),(.int .i64 (0:Int))] (.many [(.sc (.int .i64)),(.sc (.int .i64))]) h21 fun r22 h22=>
 af Tryz.prog 31 #[(.pointer s10.1),(.int .i64 (2:Int)),(.int .i64 (0:Int))] (.many [(.sc (.int .i64)),(.sc (.int .i64))]) h22 fun r23 h23=>
 af Tryz.prog 32 #[(.pointer s10.1)] (.one (.sc .ptr)) h23 fun r24 h24=>
 af Tryz.prog 33 #[(.pointer r24),(.int .i64 (0:Int))] (.many []) h24 fun _ h25=>
 af Tryz.prog 32 #[(.pointer s10.1)] (.one (.sc .ptr)) h25 fun r26 h26=>
 af Tryz.prog 34 #[(.pointer r26)] (.one (.sc .bool)) h26 fun _ h27=>
 af Tryz.prog 31 #[(.pointer s10.1),(.int .i64 (0:Int)),(.int .i64 (0:Int))] (.many [(.sc (.int .i64)),(.sc (.int .i64))]) h27 fun r28 h28=>
 Br (r13.2==(13:Int)) (Br (r15.2==(1:Int)) (Br (r17.2==(1:Int)) (Br (r19.2==(1:Int)) (Br (r21.2==(1:Int)) (Br (r22.2==(14:Int)) (Br (r23.1==(0:Int)) (Br (r23.2==(0:Int)) (Br (r28.2==(14:Int)) (af Tryz.prog 35 #[] (.one (.sc .bool)) h28 fun r29 h29=>
 R (.bool r29) h29) (R (.bool false) h28)) (R (.bool false) h28)) (R (.bool false) h28)) (R (.bool false) h28)) (R (.bool false) h28)) (R (.bool false) h28)) (R (.bool false) h28)) (R (.bool false) h28)) (R (.bool false) h28))
 (fun K3=>
 Br (s10.2 !=(0:Int)) (R (.bool false) h10) (Br (Option.isNone s10.1)
 (R (.bool false) h10)
 (K3 () h10))))
 (fun K2=>
 ∃x7:Int×Int×Int,aj h5 a2 0 [(.int .i64 x7.1),(.int .i64 x7.2.1),(.int .i64 x7.2.2)]∧
 af Tryz.prog 8 #[] (.one (.sc .ptr)) h5 fun r8 h8=>
 (aC.ok [(a2,(.int .i64 x7.1)),(a2.add 1,(.int .i64 x7.2.1)),(a2.add 2,(.int .i64 x7.2.2))] h8)∧
 af Tryz.prog 9 #[(.agg #[(.int .i64 x7.1),(.int .i64 x7.2.1),(.int .i64 x7.2.2)]),(.int .i64 r1.2.1),(.pointer r8),(.slice s3.1.ptr s3.1.len s3.1.cap)] (.many [(.sc .ptr),(.sc (.int .i64))]) h8 fun r9 h9=>
 (aC.ok [] h9)∧
 K2 (r9.1,r9.2) h9))) ((⟨none,0,0⟩:Sl),(0:Int)) h3
theorem gD (c_0:Sl) (t_1:Int) (most_2:Int) (n_3:Int) {R:Value→Heap→Prop} {h:Heap} (hm:ez c_0 t_1 most_2 n_3 R h):ae Tryz.prog 6 #[(.slice c_0.ptr c_0.len c_0.cap),(.int .i64 t_1),(.int .i64 most_2),(.int .i64 n_3)] h R:=aw ah Tryz.func6 (.two .n (.two .n (.two .n (.two (.two .n (.inn (.loop [(12,(.sc .slc)),(13,(.sc (.int .i64)))] [(12,14),(39,49)] .n))) (.two (.join [(14,(.sc .ptr)),(15,(.sc (.int .i64)))] [(14,16),(49,57)] .n) (.two (.join [] [(8,9),(57,63)] .n) .n)))))) hm
abbrev jY:FuncId:=7
noncomputable def fW (l_0:Sl) (R:Value→Heap→Prop) (h:Heap):Prop:=
 aW Tryz.prog (Instr.alloc 24 true (.tuple #[])) h fun a1 h1=>
 af Tryz.prog 37 #[(.slice l_0.ptr l_0.len l_0.cap),(.int .i64 (0:Int))] (.one (.sc (.int .i64))) h1 fun r2 h2=>
 af Tryz.prog 37 #[(.slice l_0.ptr l_0.len l_0.cap),(.int .i64 (1:Int))] (.one (.sc (.int .i64))) h2 fun r3 h3=>
 af Tryz.prog 37 #[(.slice l_0.ptr l_0.len l_0.cap),(.int .i64 (2:Int))] (.one (.sc (.int .i64))) h3 fun r4 h4=>
 af Tryz.prog 36 #[(.int .i64 r2),(.int .i64 r3),(.int .i64 r4)] (.one (.agg [(.int .i64),(.int .i64),(.int .i64)])) h4 fun r5 h5=>
 aW Tryz.prog (Instr.alloc 24 true (.tuple #[])) h5 fun a6 h6=>
 ab Tryz.prog (Instr.storeAt 24 (.pointer (some a6)) (.agg #[(.int .i64 r5.1),(.int .i64 r5.2.1),(.int .i64 r5.2.2)])) h6 fun _ h7=>
 aR (σ:=Sl×Int) (fun s7 K1 h8=>
 af Tryz.prog 37 #[(.slice l_0.ptr l_0.len l_0.cap),(.int .i64 (4:Int))] (.one (.sc (.int .i64))) h8 fun r8 h9=>
 af Tryz.prog 10 #[(.int .i64 r8),(.int .i64 (4:Int))] (.one (.sc (.int .i64))) h9 fun r9 h10=>
 Br (decide (s7.2<(IntKind.wrap .i64 ((2:Int)+r9))))
 (af Tryz.prog 37 #[(.slice l_0.ptr l_0.len l_0.cap),(.int .i64 (IntKind.wrap .i64 ((5:Int)+s7.2)))] (.one (.sc (.int .i64))) h10 fun r10 h11=>
 af Tryz.prog 10 #[(.int .i64 r10),(.int .i64 (50:Int))] (.one (.sc (.int .i64))) h11 fun r11 h12=>
 av Tryz.prog (Instr.buildSlice 22 1 #[(0,(.int .i64 (IntKind.wrap .i64 ((8:Int)+r11))))]) (.one (.sc .slc)) h12 fun v12 h13=>
 av Tryz.prog (Builtin.append_ #[22,22] 22 #[(.slice s7.1.ptr s7.1.len s7.1.cap),(.slice v12.ptr v12.len v12.cap)]) (.one (.sc .slc)) h13 fun v13 h14=>
 K1 ((⟨v13.ptr,v13.len,v13.cap⟩:Sl),IntKind.wrap .i64 (s7.2+(1:Int))) h14)
 (∃x14:Int×Int×Int,aj h10 a6 0 [(.int .i64 x14.1),(.int .i64 x14.2.1),(.int .i64 x14.2.2)]∧
 af Tryz.prog 37 #[(.slice l_0.ptr l_0.len l_0.cap),(.int .i64 (3:Int))] (.one (.sc (.int .i64))) h10 fun r15 h15=>
 (aC.ok [(a6,(.int .i64 x14.1)),(a6.add 1,(.int .i64 x14.2.1)),(a6.add 2,(.int .i64 x14.2.2))] h15)∧
 af Tryz.prog 10 #[(.int .i64 r15),(.int .i64 (7:Int))] (.one (.sc (.int .i64))) h15 fun r16 h16=>
 (aC.ok [(a6,(.int .i64 x14.1)),(a6.add 1,(.int .i64 x14.2.1)),(a6.add 2,(.int .i64 x14.2.2))] h16)∧
 ab Tryz.prog (Instr.storeAt 24 (.pointer (some a1)) (.agg #[(.int .i64 x14.1),(.int .i64 x14.2.1),(.int .i64 x14.2.2)])) h16 fun _ h17=>
 (aC.ok [] h17)∧
 ∃res17:Int×Int×Int,aj h17 a1 0 [(.int .i64 res17.1),(.int .i64 res17.2.1),(.int .i64 res17.2.2)]∧
 R (.tuple #[(.agg #[(.int .i64 res17.1),(.int .i64 res17.2.1),(.int .i64 res17.2.2)]),(.int .i64 r16),(.slice s7.1.ptr s7.1.len s7.1.cap)]) h17)) ((⟨none,0,0⟩:Sl),(0:Int)) h7
theorem jx (l_0:Sl) {R:Value→Heap→Prop} {h:Heap} (hm:fW l_0 R h):ae Tryz.prog 7 #[(.slice l_0.ptr l_0.len l_0.cap)] h R:=aw ah Tryz.func7 (.two .n (.two .n (.two .n (.two .n (.two (.two .n (.inn (.loop [(7,(.sc .slc)),(8,(.sc (.int .i64)))] [(7,9),(16,35)] .n))) .n))))) hm
abbrev tV:FuncId:=8
noncomputable def oq (R:Value→Heap→Prop) (h:Heap):Prop:=
 aW Tryz.prog (Instr.box 80 (.agg #[(.bool false),(.bool false),(.int .i64 (0:Int)),(.int .i64 (0:Int))])) h fun a1 h1=>
 R (.pointer (some a1)) h1
theorem sg {R:Value→Heap→Prop} {h:Heap} (hm:oq R h):ae Tryz.prog 8 #[] h R:=aw ah Tryz.func8 .n hm
abbrev kv:FuncId:=9
noncomputable def k7 (p_0:Int×Int×Int) (extra_1:Int) (pw_2:Option Addr) (cells_3:Sl) (R:Value→Heap→Prop) (h:Heap):Prop:=
 aW Tryz.prog (Instr.box 24 (.agg #[(.int .i64 p_0.1),(.int .i64 p_0.2.1),(.int .i64 p_0.2.2)])) h fun a1 h1=>
 af Tryz.prog 38 #[(.slice cells_3.ptr cells_3.len cells_3.cap)] (.many [(.sc .slc),(.sc .bool)]) h1 fun r2 h2=>
 bn (σ:=Unit) (fun _ h4=>
 bn (σ:=Option Addr) (fun s10 h7=>
 aR (σ:=Int) (fun s11 K3 h8=>
 Br (decide (s11<((r2.1.len:Nat):Int)))
 (∃a12:Addr,(r2.1.ptr=some a12∧0≤s11∧s11<((r2.1.len:Nat):Int))∧
 ∃x13:Int,cellOf h8 (a12.add (s11.toNat*1))=some (.int .i64 x13)∧
 ∃a14:Addr,(cells_3.ptr=some a14∧0≤x13∧x13<((cells_3.len:Nat):Int))∧
 ∃x15:Int,cellOf h8 (a14.add (x13.toNat*1))=some (.int .i64 x15)∧
 ∃a16:Addr,(s10=some a16)∧
 ∃x17:Int×Int×Int×Int×Int×Int×Sl×Sl,aj h8 a16 0 [(.int .i64 x17.1),(.int .i64 x17.2.1),(.int .i64 x17.2.2.1),(.int .i64 x17.2.2.2.1),(.int .i64 x17.2.2.2.2.1),(.int .i64 x17.2.2.2.2.2.1),(.slice x17.2.2.2.2.2.2.1.ptr x17.2.2.2.2.2.2.1.len x17.2.2.2.2.2.2.1.cap),(.slice x17.2.2.2.2.2.2.2.ptr x17.2.2.2.2.2.2.2.len x17.2.2.2.2.2.2.2.cap)]∧
 af Tryz.prog 41 #[(.agg #[(.int .i64 x17.1),(.int .i64 x17.2.1),(.int .i64 x17.2.2.1),(.int .i64 x17.2.2.2.1),(.int .i64 x17.2.2.2.2.1),(.int .i64 x17.2.2.2.2.2.1),(.slice x17.2.2.2.2.2.2.1.ptr x17.2.2.2.2.2.2.1.len x17.2.2.2.2.2.2.1.cap),(.slice x17.2.2.2.2.2.2.2.ptr x17.2.2.2.2.2.2.2.len x17.2.2.2.2.2.2.2.cap)])] (.one (.sc .slc)) h8 fun r18 h9=>
 (aC.ok [(a14.add (x13.toNat*1),(.int .i64 x15))] h9)∧
 Br (decide (x15<((r18.len:Nat):Int)))
 (R (.tuple #[(.pointer none),(.int .i64 (7:Int))]) h9)
 (K3 (IntKind.wrap .i64 (s11+(1:Int))) h9))
 (aR (σ:=Int) (fun s19 K4 h10=>
 Br (decide (s19<((r2.1.len:Nat):Int)))
 (∃a20:Addr,(r2.1.ptr=some a20∧0≤s19∧s19<((r2.1.len:Nat):Int))∧
 ∃x21:Int,cellOf h10 (a20.add (s19.toNat*1))=some (.int .i64 x21)∧
 ∃a22:Addr,(cells_3.ptr=some a22∧0≤x21∧x21<((cells_3.len:Nat):Int))∧
 ∃x23:Int,cellOf h10 (a22.add (x21.toNat*1))=some (.int .i64 x23)∧
 ∃a24:Addr,(s10=some a24)∧
 af Tryz.prog 16 #[(.int .i64 x23),(.pointer pw_2)] (.one (.sc .ptr)) h10 fun r25 h11=>
 (aC.ok [] h11)∧
 (0≤x21∧x21<((64:Nat):Int))∧
 ab Tryz.prog (Instr.storeAt 34 (.pointer (some ((a24.add 10).add (x21.toNat*1)))) (.pointer r25)) h11 fun _ h12=>
 (aC.ok [] h12)∧
 K4 (IntKind.wrap .i64 (s19+(1:Int))) h12)
 (∃a26:Addr,(s10=some a26)∧
 ∃x27:Int×Int×Int×Int×Int×Int×Sl×Sl,aj h10 a26 0 [(.int .i64 x27.1),(.int .i64 x27.2.1),(.int .i64 x27.2.2.1),(.int .i64 x27.2.2.2.1),(.int .i64 x27.2.2.2.2.1),(.int .i64 x27.2.2.2.2.2.1),(.slice x27.2.2.2.2.2.2.1.ptr x27.2.2.2.2.2.2.1.len x27.2.2.2.2.2.2.1.cap),(.slice x27.2.2.2.2.2.2.2.ptr x27.2.2.2.2.2.2.2.len x27.2.2.2.2.2.2.2.cap)]∧
 af Tryz.prog 43 #[(.agg #[(.int .i64 x27.1),(.int .i64 x27.2.1),(.int .i64 x27.2.2.1),(.int .i64 x27.2.2.2.1),(.int .i64 x27.2.2.2.2.1),(.int .i64 x27.2.2.2.2.2.1),(.slice x27.2.2.2.2.2.2.1.ptr x27.2.2.2.2.2.2.1.len x27.2.2.2.2.2.2.1.cap),(.slice x27.2.2.2.2.2.2.2.ptr x27.2.2.2.2.2.2.2.len x27.2.2.2.2.2.2.2.cap)]),(.slice r2.1.ptr r2.1.len r2.1.cap)] (.one (.sc .slc)) h10 fun r28 h13=>
 af Tryz.prog 42 #[(.func (.func 11) #[(.pointer s10)] #[]),(.slice r28.ptr r28.len r28.cap)] (.one (.sc (.int .i64))) h13 fun r29 h14=>
 Br (r29 !=(0:Int))
 (R (.tuple #[(.pointer none),(.int .i64 r29)]) h14)
 (R (.tuple #[(.pointer s10),(.int .i64 (0:Int))]) h14))) (0:Int) h8)) (0:Int) h7)
 (fun K2=>
 ∃x6:Int×Int×Int,aj h4 a1 0 [(.int .i64 x6.1),(.int .i64 x6.2.1),(.int .i64 x6.2.2)]∧
 af Tryz.prog 40 #[(.pointer pw_2)] (.one (.sc (.int .i64))) h4 fun r7 h5=>
 (aC.ok [(a1,(.int .i64 x6.1)),(a1.add 1,(.int .i64 x6.2.1)),(a1.add 2,(.int .i64 x6.2.2))] h5)∧
 ∃v8:Value,(ak Tryz.prog (Instr.build 87 #[(0,(.agg #[(.int .i64 (1:Int)),(.int .i64 (0:Int)),(.int .i64 x6.1),(.int .i64 x6.2.1),(.int .i64 x6.2.2),(.int .i64 extra_1),(.slice r2.1.ptr r2.1.len r2.1.cap),(.slice none 0 0)])),(1,(.pointer pw_2)),(2,(.int .i64 r7))]) v8)∧
 aW Tryz.prog (Instr.box 87 v8) h5 fun a9 h6=>
 (aC.ok [(a1,(.int .i64 x6.1)),(a1.add 1,(.int .i64 x6.2.1)),(a1.add 2,(.int .i64 x6.2.2))] h6)∧
 K2 (some a9) h6))
 (fun K1=>
 Br (!r2.2) (R (.tuple #[(.pointer none),(.int .i64 (1:Int))]) h2) (∃x3:Int×Int×Int,aj h2 a1 0 [(.int .i64 x3.1),(.int .i64 x3.2.1),(.int .i64 x3.2.2)]∧
 af Tryz.prog 39 #[(.agg #[(.int .i64 x3.1),(.int .i64 x3.2.1),(.int .i64 x3.2.2)])] (.one (.sc .bool)) h2 fun r4 h3=>
 Br (!r4) (R (.tuple #[(.pointer none),(.int .i64 (1:Int))]) h3) (Br (decide (extra_1<(0:Int))) (R (.tuple #[(.pointer none),(.int .i64 (1:Int))]) h3) (Br (decide (extra_1>(16:Int))) (R (.tuple #[(.pointer none),(.int .i64 (1:Int))]) h3) (Br (Option.isNone pw_2)
 (R (.tuple #[(.pointer none),(.int .i64 (1:Int))]) h3)
 (K1 () h3))))))
theorem oW (p_0:Int×Int×Int) (extra_1:Int) (pw_2:Option Addr) (cells_3:Sl) {R:Value→Heap→Prop} {h:Heap} (hm:k7 p_0 extra_1 pw_2 cells_3 R h):ae Tryz.prog 9 #[(.agg #[(.int .i64 p_0.1),(.int .i64 p_0.2.1),(.int .i64 p_0.2.2)]),(.int .i64 extra_1),(.pointer pw_2),(.slice cells_3.ptr cells_3.len cells_3.cap)] h R:=aw ah Tryz.func9 (.two .n (.two .n (.two (.join [] [(8,10),(23,42)] .n) (.two (.join [(12,(.sc .ptr))] [(12,13),(42,51)] .n) (.two (.two .n (.inn (.loop [(53,(.sc (.int .i64)))] [(8,10),(14,15),(53,69)] .n))) (.two (.two .n (.inn (.loop [(71,(.sc (.int .i64)))] [(16,17),(71,87)] .n))) .n)))))) hm
abbrev jZ:FuncId:=10
noncomputable def fX (x_0:Int) (n_1:Int) (R:Value→Heap→Prop) (h:Heap):Prop:=
 (n_1≠0)∧
 bn (σ:=Int) (fun s1 h1=>
 R (.int .i64 s1) h1)
 (fun K1=>
 Br (decide ((Int.tmod x_0 n_1)<(0:Int)))
 (K1 (IntKind.wrap .i64 ((Int.tmod x_0 n_1)+n_1)) h)
 (K1 (Int.tmod x_0 n_1) h))
theorem jy (x_0:Int) (n_1:Int) {R:Value→Heap→Prop} {h:Heap} (hm:fX x_0 n_1 R h):ae Tryz.prog 10 #[(.int .i64 x_0),(.int .i64 n_1)] h R:=aw ah Tryz.func10 (.two .n (.two .n (.two (.join [(0,(.sc (.int .i64)))] [(0,1),(8,13)] .n) .n))) hm
abbrev bw:FuncId:=11
noncomputable def hY (s_0:Option Addr) (slot_1:Int) (R:Value→Heap→Prop) (h:Heap):Prop:=
 bn (σ:=Unit) (fun _ h1=>
 ∃a2:Addr,(s_0=some a2)∧
 (0≤slot_1∧slot_1<((64:Nat):Int))∧
 ∃x3:Option Addr,cellOf h1 ((a2.add 10).add (slot_1.toNat*1))=some (.pointer x3)∧
 R (.pointer x3) h1)
 (fun K1=>
 Br (Option.isNone s_0) (R (.pointer none) h) (Br (decide (slot_1<(0:Int))) (R (.pointer none) h) (Br (decide (slot_1≥(64:Int)))
 (R (.pointer none) h)
 (K1 () h))))
theorem k8 (s_0:Option Addr) (slot_1:Int) {R:Value→Heap→Prop} {h:Heap} (hm:hY s_0 slot_1 R h):ae Tryz.prog 11 #[(.pointer s_0),(.int .i64 slot_1)] h R:=aw ah Tryz.func11 (.two .n (.two (.join [] [(4,15)] .n) .n)) hm
abbrev tW:FuncId:=16
noncomputable def ot (cells_0:Int) (p_1:Option Addr) (R:Value→Heap→Prop) (h:Heap):Prop:=
 bn (σ:=Unit) (fun _ h1=>
 aW Tryz.prog (Instr.box 93 (.agg #[(.pointer p_1),(.int .i64 cells_0),(.slice none 0 0),(.int .i64 (0:Int)),(.slice none 0 0),(.bool false),(.bool false)])) h1 fun a2 h2=>
 R (.pointer (some a2)) h2)
 (fun K1=>
 Br (decide (cells_0<(1:Int))) (R (.pointer none) h) (Br (decide (cells_0>(512:Int))) (R (.pointer none) h) (Br (Option.isNone p_1)
 (R (.pointer none) h)
 (K1 () h))))
theorem sh (cells_0:Int) (p_1:Option Addr) {R:Value→Heap→Prop} {h:Heap} (hm:ot cells_0 p_1 R h):ae Tryz.prog 16 #[(.int .i64 cells_0),(.pointer p_1)] h R:=aw ah Tryz.func16 (.two .n (.two (.join [] [(4,15)] .n) .n)) hm
abbrev fY:FuncId:=19
noncomputable def gj (s_0:Option Addr) (R:Value→Heap→Prop) (h:Heap):Prop:=
 aW Tryz.prog (Instr.alloc 47 true (.tuple #[])) h fun a1 h1=>
 Br (Option.isNone s_0)
 (ab Tryz.prog (Instr.storeAt 47 (.pointer (some a1)) (.agg #[(.int .i64 (0:Int)),(.int .i64 (0:Int)),(.int .i64 (0:Int)),(.int .i64 (0:Int)),(.int .i64 (0:Int)),(.int .i64 (0:Int)),(.slice none 0 0),(.slice none 0 0)])) h1 fun _ h2=>
 ∃res2:Int×Int×Int×Int×Int×Int×Sl×Sl,aj h2 a1 0 [(.int .i64 res2.1),(.int .i64 res2.2.1),(.int .i64 res2.2.2.1),(.int .i64 res2.2.2.2.1),(.int .i64 res2.2.2.2.2.1),(.int .i64 res2.2.2.2.2.2.1),(.slice res2.2.2.2.2.2.2.1.ptr res2.2.2.2.2.2.2.1.len res2.2.2.2.2.2.2.1.cap),(.slice res2.2.2.2.2.2.2.2.ptr res2.2.2.2.2.2.2.2.len res2.2.2.2.2.2.2.2.cap)]∧
 R (.agg #[(.int .i64 res2.1),(.int .i64 res2.2.1),(.int .i64 res2.2.2.1),(.int .i64 res2.2.2.2.1),(.int .i64 res2.2.2.2.2.1),(.int .i64 res2.2.2.2.2.2.1),(.slice res2.2.2.2.2.2.2.1.ptr res2.2.2.2.2.2.2.1.len res2.2.2.2.2.2.2.1.cap),(.slice res2.2.2.2.2.2.2.2.ptr res2.2.2.2.2.2.2.2.len res2.2.2.2.2.2.2.2.cap)]) h2)
 (∃a3:Addr,(s_0=some a3)∧
 ∃x4:Int×Int×Int×Int×Int×Int×Sl×Sl,aj h1 a3 0 [(.int .i64 x4.1),(.int .i64 x4.2.1),(.int .i64 x4.2.2.1),(.int .i64 x4.2.2.2.1),(.int .i64 x4.2.2.2.2.1),(.int .i64 x4.2.2.2.2.2.1),(.slice x4.2.2.2.2.2.2.1.ptr x4.2.2.2.2.2.2.1.len x4.2.2.2.2.2.2.1.cap),(.slice x4.2.2.2.2.2.2.2.ptr x4.2.2.2.2.2.2.2.len x4.2.2.2.2.2.2.2.cap)]∧
 af Tryz.prog 62 #[(.agg #[(.int .i64 x4.1),(.int .i64 x4.2.1),(.int .i64 x4.2.2.1),(.int .i64 x4.2.2.2.1),(.int .i64 x4.2.2.2.2.1),(.int .i64 x4.2.2.2.2.2.1),(.slice x4.2.2.2.2.2.2.1.ptr x4.2.2.2.2.2.2.1.len x4.2.2.2.2.2.2.1.cap),(.slice x4.2.2.2.2.2.2.2.ptr x4.2.2.2.2.2.2.2.len x4.2.2.2.2.2.2.2.cap)])] (.one (.agg [(.int .i64),(.int .i64),(.int .i64),(.int .i64),(.int .i64),(.int .i64),.slc,.slc])) h1 fun r5 h3=>
 ab Tryz.prog (Instr.storeAt 47 (.pointer (some a1)) (.agg #[(.int .i64 r5.1),(.int .i64 r5.2.1),(.int .i64 r5.2.2.1),(.int .i64 r5.2.2.2.1),(.int .i64 r5.2.2.2.2.1),(.int .i64 r5.2.2.2.2.2.1),(.slice r5.2.2.2.2.2.2.1.ptr r5.2.2.2.2.2.2.1.len r5.2.2.2.2.2.2.1.cap),(.slice r5.2.2.2.2.2.2.2.ptr r5.2.2.2.2.2.2.2.len r5.2.2.2.2.2.2.2.cap)])) h3 fun _ h4=>
 ∃res6:Int×Int×Int×Int×Int×Int×Sl×Sl,aj h4 a1 0 [(.int .i64 res6.1),(.int .i64 res6.2.1),(.int .i64 res6.2.2.1),(.int .i64 res6.2.2.2.1),(.int .i64 res6.2.2.2.2.1),(.int .i64 res6.2.2.2.2.2.1),(.slice res6.2.2.2.2.2.2.1.ptr res6.2.2.2.2.2.2.1.len res6.2.2.2.2.2.2.1.cap),(.slice res6.2.2.2.2.2.2.2.ptr res6.2.2.2.2.2.2.2.len res6.2.2.2.2.2.2.2.cap)]∧
 R (.agg #[(.int .i64 res6.1),(.int .i64 res6.2.1),(.int .i64 res6.2.2.1),(.int .i64 res6.2.2.2.1),(.int .i64 res6.2.2.2.2.1),(.int .i64 res6.2.2.2.2.2.1),(.slice res6.2.2.2.2.2.2.1.ptr res6.2.2.2.2.2.2.1.len res6.2.2.2.2.2.2.1.cap),(.slice res6.2.2.2.2.2.2.2.ptr res6.2.2.2.2.2.2.2.len res6.2.2.2.2.2.2.2.cap)]) h4)
theorem j0 (s_0:Option Addr) {R:Value→Heap→Prop} {h:Heap} (hm:gj s_0 R h):ae Tryz.prog 19 #[(.pointer s_0)] h R:=aw ah Tryz.func19 .n hm
end Go.Proofs.YtdhamoojccmbdaaGreatDoor
