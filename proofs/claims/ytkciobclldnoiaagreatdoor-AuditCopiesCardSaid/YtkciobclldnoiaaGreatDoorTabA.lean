/- Part of the proofs that the laws of this seat answer true whatever the input reads, and leave it as it was; no condition. -/
import Derived.Test.YtkciobclldnoiaaGreatDoorPlA
import Derived.Test.YtkciobclldnoiaaGreatDoorProg
set_option linter.unusedVariables false
set_option linter.unusedSimpArgs false
namespace Go.Proofs.YtkciobclldnoiaaGreatDoor
open Go Go.Vc Go.Proofs
set_option maxRecDepth 1000000
abbrev aO:Nat:=3
abbrev aB:Nat:=5
abbrev bQ:Nat:=22
abbrev bj:Nat:=24
abbrev rz:Nat:=37
abbrev vR:Nat:=39
abbrev aG:Nat:=41
abbrev aM:Nat:=53
abbrev gq:Nat:=69
abbrev ea:Nat:=70
abbrev vS:Nat:=73
abbrev bo:Nat:=76
abbrev bN:Nat:=85
abbrev cb:Nat:=87
abbrev mM:Nat:=91
abbrev eK:Nat:=106
abbrev sX:Nat:=141
abbrev uk:Nat:=144
abbrev dQ:Nat:=147
abbrev aF:Nat:=164
abbrev cC:Nat:=182
abbrev AY:Nat:=183
abbrev D8:Nat:=185
abbrev fv:Nat:=188
abbrev um:Nat:=195
abbrev vT:Nat:=210
abbrev cP:Nat:=334
abbrev av:TI:=⟨.fn,(.sc .fn),1,8,[.nilFunc]⟩
abbrev Gn:TI:=⟨.int .i64,(.sc (.int .i64)),1,8,[(.int .i64 0)]⟩
abbrev Gp:TI:=⟨.int .u8,(.sc (.int .u8)),1,1,[(.int .u8 0)]⟩
abbrev Hz:TI:=⟨.str,(.sc .str),1,16,[(.string ⟨#[]⟩)]⟩
abbrev Gq:TI:=⟨.int .u64,(.sc (.int .u64)),1,8,[(.int .u64 0)]⟩
abbrev HA:TI:=⟨.int .i32,(.sc (.int .i32)),1,4,[(.int .i32 0)]⟩
abbrev HB:TI:=⟨.other,(.sc .any),1,0,[(.tuple #[(.int .i64 0),(.int .i64 0)])]⟩
abbrev Gr:TI:=⟨.other,(.sc .any),1,0,[(.tuple #[(.slice none 0 0),(.bool .false)])]⟩
abbrev HC:TI:=⟨.other,(.sc .any),1,0,[(.tuple #[(.slice none 0 0),(.int .i64 0)])]⟩
abbrev Gs:TI:=⟨.struct [(0,3),(1,53)],(.agg [(.int .i64),.slc]),2,32,[(.int .i64 0),(.slice none 0 0)]⟩
noncomputable def Gt:gB:=[⟨.other,(.sc .any),1,0,[(.tuple #[])]⟩,av,Gn,Gn,⟨.bool,(.sc .bool),1,1,[(.bool .false)]⟩,Gp,Gp,⟨.struct [(0,2),(1,3),(2,4),(3,6)],(.agg [(.int .i64),(.int .i64),.bool,(.int .u8)]),4,24,[(.int .i64 0),(.int .i64 0),(.bool .false),(.int .u8 0)]⟩,⟨.struct [(0,2),(1,3),(2,4),(3,6)],(.agg [(.int .i64),(.int .i64),.bool,(.int .u8)]),4,24,[(.int .i64 0),(.int .i64 0),(.bool .false),(.int .u8 0)]⟩,Hz,Hz,Hz,Gq,⟨.struct [(0,9),(1,12)],(.agg [.str,(.int .u64)]),2,24,[(.string ⟨#[]⟩),(.int .u64 0)]⟩,⟨.struct [(0,9),(1,12)],(.agg [.str,(.int .u64)]),2,24,[(.string ⟨#[]⟩),(.int .u64 0)]⟩,⟨.ptr 389,(.sc .ptr),1,8,[(.pointer none)]⟩,⟨.ptr 392,(.sc .ptr),1,8,[(.pointer none)]⟩,⟨.ptr 399,(.sc .ptr),1,8,[(.pointer none)]⟩,⟨.struct [(0,17)],(.agg [.ptr]),1,8,[(.pointer none)]⟩,⟨.struct [(0,17)],(.agg [.ptr]),1,8,[(.pointer none)]⟩,⟨.other,(.sc .any),1,16,[.nilIface]⟩,HA,⟨.slice 3,(.sc .slc),1,24,[(.slice none 0 0)]⟩,⟨.struct [(0,3),(1,3),(2,3)],(.agg [(.int .i64),(.int .i64),(.int .i64)]),3,24,[(.int .i64 0),(.int .i64 0),(.int .i64 0)]⟩,⟨.struct [(0,3),(1,3),(2,3)],(.agg [(.int .i64),(.int .i64),(.int .i64)]),3,24,[(.int .i64 0),(.int .i64 0),(.int .i64 0)]⟩,⟨.other,(.sc .any),1,0,[(.tuple #[(.agg #[(.int .i64 0),(.int .i64 0),(.int .i64 0)]),(.int .i64 0),(.slice none 0 0)])]⟩,av,av,⟨.ptr 69,(.sc .ptr),1,8,[(.pointer none)]⟩,Gn,⟨.other,(.sc .any),1,0,[(.tuple #[(.pointer none),(.int .i64 0)])]⟩,av,⟨.ptr 76,(.sc .ptr),1,8,[(.pointer none)]⟩,av,HB,av,av,⟨.ptr 85,(.sc .ptr),1,8,[(.pointer none)]⟩,av,⟨.slice 87,(.sc .slc),1,24,[(.slice none 0 0)]⟩,⟨.struct [(0,3),(1,3),(2,24),(5,3),(6,22),(7,39)],(.agg [(.int .i64),(.int .i64),(.int .i64),(.int .i64),(.int .i64),(.int .i64),.slc,.slc]),8,96,[(.int .i64 0),(.int .i64 0),(.int .i64 0),(.int .i64 0),(.int .i64 0),(.int .i64 0),(.slice none 0 0),(.slice none 0 0)]⟩,⟨.struct [(0,3),(1,3),(2,24),(5,3),(6,22),(7,39)],(.agg [(.int .i64),(.int .i64),(.int .i64),(.int .i64),(.int .i64),(.int .i64),.slc,.slc]),8,96,[(.int .i64 0),(.int .i64 0),(.int .i64 0),(.int .i64 0),(.int .i64 0),(.int .i64 0),(.slice none 0 0),(.slice none 0 0)]⟩,av,av,⟨.int .u32,(.sc (.int .u32)),1,4,[(.int .u32 0)]⟩,⟨.other,(.sc .any),1,0,[(.tuple #[(.bool .false),(.int .i64 0)])]⟩,av,⟨.slice 9,(.sc .slc),1,24,[(.slice none 0 0)]⟩,av,av,av,av,av,⟨.slice 5,(.sc .slc),1,24,[(.slice none 0 0)]⟩,av,⟨.slice 37,(.sc .slc),1,24,[(.slice none 0 0)]⟩,av,av,av,av,av,av,av,Gr,av,av,av,⟨.array 64 37,(.arr .ptr),64,512,List.replicate 64 (.pointer none)⟩,⟨.struct [(0,41),(8,32),(9,3),(10,67)],(.arr .any),74,624,[(.int .i64 0),(.int .i64 0),(.int .i64 0),(.int .i64 0),(.int .i64 0),(.int .i64 0),(.slice none 0 0),(.slice none 0 0),(.pointer none),(.int .i64 0)]++List.replicate 64 (.pointer none)⟩,⟨.struct [(0,41),(8,32),(9,3),(10,67)],(.arr .any),74,624,[(.int .i64 0),(.int .i64 0),(.int .i64 0),(.int .i64 0),(.int .i64 0),(.int .i64 0),(.slice none 0 0),(.slice none 0 0),(.pointer none),(.int .i64 0)]++List.replicate 64 (.pointer none)⟩,⟨.slice 53,(.sc .slc),1,24,[(.slice none 0 0)]⟩,av,av,⟨.slice 106,(.sc .slc),1,24,[(.slice none 0 0)]⟩,av,⟨.struct [(0,4),(1,4),(2,3),(3,3)],(.agg [.bool,.bool,(.int .i64),(.int .i64)]),4,24,[(.bool .false),(.bool .false),(.int .i64 0),(.int .i64 0)]⟩,⟨.struct [(0,4),(1,4),(2,3),(3,3)],(.agg [.bool,.bool,(.int .i64),(.int .i64)]),4,24,[(.bool .false),(.bool .false),(.int .i64 0),(.int .i64 0)]⟩,av,av,av,av,av,av,av,⟨.struct [(0,32),(1,3),(2,70),(3,3),(4,70),(5,4),(6,4)],(.agg [.ptr,(.int .i64),.slc,(.int .i64),.slc,.bool,.bool]),7,80,[(.pointer none),(.int .i64 0),(.slice none 0 0),(.int .i64 0),(.slice none 0 0),(.bool .false),(.bool .false)]⟩,⟨.struct [(0,32),(1,3),(2,70),(3,3),(4,70),(5,4),(6,4)],(.agg [.ptr,(.int .i64),.slc,(.int .i64),.slc,.bool,.bool]),7,80,[(.pointer none),(.int .i64 0),(.slice none 0 0),(.int .i64 0),(.slice none 0 0),(.bool .false),(.bool .false)]⟩,⟨.struct [(0,9),(1,3),(2,3),(3,22)],(.agg [.str,(.int .i64),(.int .i64),.slc]),4,56,[(.string ⟨#[]⟩),(.int .i64 0),(.int .i64 0),(.slice none 0 0)]⟩,⟨.struct [(0,9),(1,3),(2,3),(3,22)],(.agg [.str,(.int .i64),(.int .i64),.slc]),4,56,[(.string ⟨#[]⟩),(.int .i64 0),(.int .i64 0),(.slice none 0 0)]⟩,⟨.other,(.sc .any),1,0,[(.tuple #[(.slice none 0 0),(.bool .false),(.int .i64 0)])]⟩,av,av,⟨.slice 22,(.sc .slc),1,24,[(.slice none 0 0)]⟩,av,av,av,av,HC,av,av,av,av,av,Gr,av,av,Gs,Gs,av,av,av,av,⟨.other,(.sc .any),1,0,[(.tuple #[(.agg #[(.int .i64 0),(.int .i64 0),(.int .i64 0),(.int .i64 0),(.int .i64 0),(.int .i64 0),(.slice none 0 0),(.slice none 0 0)]),(.bool .false)])]⟩,av,av,av,av,av,av,av,av,av,av,av,av,av,av,av,av,av,av,av,av,av,HC,av,av,⟨.ptr 182,(.sc .ptr),1,8,[(.pointer none)]⟩,av,⟨.ptr 188,(.sc .ptr),1,8,[(.pointer none)]⟩,av,av,⟨.slice 70,(.sc .slc),1,24,[(.slice none 0 0)]⟩,av,av,⟨.slice 147,(.sc .slc),1,24,[(.slice none 0 0)]⟩,av,Gs,Gs,av,av,av,av,Gr,av,av,⟨.other,(.sc .any),1,0,[(.tuple #[(.int .i64 0),(.bool .false)])]⟩,av,av,⟨.ptr 210,(.sc .ptr),1,8,[(.pointer none)]⟩,⟨.other,(.sc .any),1,0,[(.tuple #[(.pointer none),(.int .i64 0)])]⟩,av,av,av,⟨.struct [(0,3),(1,3),(2,3),(3,24),(6,44),(7,53)],(.agg [(.int .i64),(.int .i64),(.int .i64),(.int .i64),(.int .i64),(.int .i64),(.int .u32),.slc]),8,80,[(.int .i64 0),(.int .i64 0),(.int .i64 0),(.int .i64 0),(.int .i64 0),(.int .i64 0),(.int .u32 0),(.slice none 0 0)]⟩,⟨.struct [(0,3),(1,3),(2,3),(3,24),(6,44),(7,53)],(.agg [(.int .i64),(.int .i64),(.int .i64),(.int .i64),(.int .i64),(.int .i64),(.int .u32),.slc]),8,80,[(.int .i64 0),(.int .i64 0),(.int .i64 0),(.int .i64 0),(.int .i64 0),(.int .i64 0),(.int .u32 0),(.slice none 0 0)]⟩,av,av,av,av,av,av,av,av,⟨.slice 41,(.sc .slc),1,24,[(.slice none 0 0)]⟩,av,av,av,Gq,av,av,av,⟨.struct [(0,138),(1,3),(2,70)],(.agg [.ptr,(.int .i64),.slc]),3,40,[(.pointer none),(.int .i64 0),(.slice none 0 0)]⟩,⟨.struct [(0,138),(1,3),(2,70)],(.agg [.ptr,(.int .i64),.slc]),3,40,[(.pointer none),(.int .i64 0),(.slice none 0 0)]⟩,⟨.array 255 5,(.arr (.int .u8)),255,255,List.replicate 255 (.int .u8 0)⟩,av,⟨.array 256 3,(.arr (.int .i64)),256,2048,List.replicate 256 (.int .i64 0)⟩,av,⟨.struct [(0,183),(255,185)],(.arr .any),511,2304,List.replicate 255 (.int .u8 0)++List.replicate 256 (.int .i64 0)⟩,⟨.struct [(0,183),(255,185)],(.arr .any),511,2304,List.replicate 255 (.int .u8 0)++List.replicate 256 (.int .i64 0)⟩,av,av,av,av,av,av,⟨.slice 164,(.sc .slc),1,24,[(.slice none 0 0)]⟩,av,av,av,av,av,av,HC,av,av,av,av,av,av,⟨.struct [(0,24),(3,44),(4,70)],(.agg [(.int .i64),(.int .i64),(.int .i64),(.int .u32),.slc]),5,56,[(.int .i64 0),(.int .i64 0),(.int .i64 0),(.int .u32 0),(.slice none 0 0)]⟩,⟨.struct [(0,24),(3,44),(4,70)],(.agg [(.int .i64),(.int .i64),(.int .i64),(.int .u32),.slc]),5,56,[(.int .i64 0),(.int .i64 0),(.int .i64 0),(.int .u32 0),(.slice none 0 0)]⟩,⟨.cpx,(.sc (.cpx .f64)),1,16,[(.complex Go.FloatKind.f64 0 0)]⟩,av,⟨.slice 218,(.sc .slc),1,24,[(.slice none 0 0)]⟩,⟨.array 64 4,(.arr .bool),64,64,List.replicate 64 (.bool .false)⟩,⟨.flt,(.sc (.flt .f64)),1,8,[(.float Go.FloatKind.f64 0)]⟩,av,⟨.struct [(0,3),(1,215)],(.agg [(.int .i64),(.flt .f64)]),2,16,[(.int .i64 0),(.float Go.FloatKind.f64 0)]⟩,⟨.struct [(0,3),(1,215)],(.agg [(.int .i64),(.flt .f64)]),2,16,[(.int .i64 0),(.float Go.FloatKind.f64 0)]⟩,av,av,av,av,av,av,av,av,av,av,av,av,av,av,av,av,av,av,av,av,⟨.other,(.sc .any),1,0,[(.tuple #[(.agg #[(.int .i64 0),(.int .i64 0),(.int .i64 0),(.int .i64 0),(.int .i64 0),(.int .i64 0),(.int .u32 0),(.slice none 0 0)]),(.bool .false)])]⟩,av,av,av,av,av,av,⟨.ptr 5,(.sc .ptr),1,8,[(.pointer none)]⟩,av,av,⟨.slice 251,(.sc .slc),1,24,[(.slice none 0 0)]⟩,⟨.struct [(0,22),(1,53)],(.agg [.slc,.slc]),2,48,[(.slice none 0 0),(.slice none 0 0)]⟩,⟨.struct [(0,22),(1,53)],(.agg [.slc,.slc]),2,48,[(.slice none 0 0),(.slice none 0 0)]⟩,⟨.ptr 257,(.sc .ptr),1,8,[(.pointer none)]⟩,⟨.slice 322,(.sc .slc),1,24,[(.slice none 0 0)]⟩,⟨.struct [(0,253),(1,22),(2,22)],(.agg [.slc,.slc,.slc]),3,72,[(.slice none 0 0),(.slice none 0 0),(.slice none 0 0)]⟩,⟨.struct [(0,253),(1,22),(2,22)],(.agg [.slc,.slc,.slc]),3,72,[(.slice none 0 0),(.slice none 0 0),(.slice none 0 0)]⟩,⟨.struct [(0,138),(1,24),(4,70),(5,249),(6,255),(9,70),(10,70)],(.agg [.ptr,(.int .i64),(.int .i64),(.int .i64),.slc,.slc,.slc,.slc,.slc,.slc,.slc]),11,200,[(.pointer none),(.int .i64 0),(.int .i64 0),(.int .i64 0),(.slice none 0 0),(.slice none 0 0),(.slice none 0 0),(.slice none 0 0),(.slice none 0 0),(.slice none 0 0),(.slice none 0 0)]⟩,⟨.struct [(0,138),(1,24),(4,70),(5,249),(6,255),(9,70),(10,70)],(.agg [.ptr,(.int .i64),(.int .i64),(.int .i64),.slc,.slc,.slc,.slc,.slc,.slc,.slc]),11,200,[(.pointer none),(.int .i64 0),(.int .i64 0),(.int .i64 0),(.slice none 0 0),(.slice none 0 0),(.slice none 0 0),(.slice none 0 0),(.slice none 0 0),(.slice none 0 0),(.slice none 0 0)]⟩,⟨.slice 4,(.sc .slc),1,24,[(.slice none 0 0)]⟩,⟨.other,(.sc .any),1,0,[(.tuple #[(.slice none 0 0),(.slice none 0 0),(.slice none 0 0),(.int .i64 0)])]⟩,av,av,⟨.other,(.sc .any),1,0,[(.tuple #[(.slice none 0 0),(.slice none 0 0)])]⟩,av,av,av,⟨.ptr 334,(.sc .ptr),1,8,[(.pointer none)]⟩,av,av,av,av,av,⟨.ptr 275,(.sc .ptr),1,8,[(.pointer none)]⟩,av,⟨.struct [(0,211),(1,211),(2,3),(3,3),(4,4)],(.agg [(.cpx .f64),(.cpx .f64),(.int .i64),(.int .i64),.bool]),5,56,[(.complex Go.FloatKind.f64 0 0),(.complex Go.FloatKind.f64 0 0),(.int .i64 0),(.int .i64 0),(.bool .false)]⟩,⟨.struct [(0,211),(1,211),(2,3),(3,3),(4,4)],(.agg [(.cpx .f64),(.cpx .f64),(.int .i64),(.int .i64),.bool]),5,56,[(.complex Go.FloatKind.f64 0 0),(.complex Go.FloatKind.f64 0 0),(.int .i64 0),(.int .i64 0),(.bool .false)]⟩,av,av,av,Gn,HB,av,av,av,av,av,av,Gq,⟨.slice 290,(.sc .slc),1,24,[(.slice none 0 0)]⟩,⟨.struct [(0,3),(1,3),(2,3),(3,53),(4,53)],(.agg [(.int .i64),(.int .i64),(.int .i64),.slc,.slc]),5,72,[(.int .i64 0),(.int .i64 0),(.int .i64 0),(.slice none 0 0),(.slice none 0 0)]⟩,⟨.struct [(0,3),(1,3),(2,3),(3,53),(4,53)],(.agg [(.int .i64),(.int .i64),(.int .i64),.slc,.slc]),5,72,[(.int .i64 0),(.int .i64 0),(.int .i64 0),(.slice none 0 0),(.slice none 0 0)]⟩,⟨.other,(.sc .any),1,0,[(.tuple #[(.agg #[(.int .i64 0),(.int .i64 0),(.int .i64 0),(.slice none 0 0),(.slice none 0 0)]),(.bool .false)])]⟩,av,⟨.mp,(.sc .mp),1,8,[(.map none)]⟩,Gr,av,av,av,av,av,av,av,av,av,av,av,av,av,av,⟨.other,(.sc .any),1,0,[(.tuple #[(.int .i64 0),(.slice none 0 0),(.bool .false)])]⟩,av,av,av,av,⟨.ptr 316,(.sc .ptr),1,8,[(.pointer none)]⟩,⟨.struct [(0,249),(1,258),(2,70)],(.agg [.slc,.slc,.slc]),3,72,[(.slice none 0 0),(.slice none 0 0),(.slice none 0 0)]⟩,⟨.struct [(0,249),(1,258),(2,70)],(.agg [.slc,.slc,.slc]),3,72,[(.slice none 0 0),(.slice none 0 0),(.slice none 0 0)]⟩,av,⟨.other,(.sc .any),1,0,[(.tuple #[(.agg #[(.slice none 0 0),(.slice none 0 0),(.slice none 0 0)]),(.bool .false)])]⟩,av,av,⟨.struct [(0,3),(1,3)],(.agg [(.int .i64),(.int .i64)]),2,16,[(.int .i64 0),(.int .i64 0)]⟩,⟨.struct [(0,3),(1,3)],(.agg [(.int .i64),(.int .i64)]),2,16,[(.int .i64 0),(.int .i64 0)]⟩,av,av,av,av,⟨.array 256 4,(.arr .bool),256,256,List.replicate 256 (.bool .false)⟩,⟨.array 256 4,(.arr .bool),256,256,List.replicate 256 (.bool .false)⟩,⟨.other,(.sc .any),1,0,[(.tuple #[(.agg #[(.bool .false),(.bool .false),(.bool .false),(.bool .false),(.bool .false),(.bool .false),(.bool .false),(.bool .false),(.bool .false),(.bool .false),(.bool .false),(.bool .false),(.bool .false),(.bool .false),(.bool .false),(.bool .false),(.bool .false),(.bool .false),(.bool .false),(.bool .false),(.bool .false),(.bool .false),(.bool .false),(.bool .false),(.bool .false),(.bool .false),(.bool .false),(.bool .false),(.bool .false),(.bool .false),(.bool .false),(.bool .false),(.bool .false),(.bool .false),(.bool .false),(.bool .false),(.bool .false),(.bool .false),(.bool .false),(.bool .false),(.bool .false),(.bool .false),(.bool .false),(.bool .false),(.bool .false),(.bool .false),(.bool .false),(.bool .false),(.bool .false),(.bool .false),(.bool .false),(.bool .false),(.bool .false),(.bool .false),(.bool .false),(.bool .false),(.bool .false),(.bool .false),(.bool .false),(.bool .false),(.bool .false),(.bool .false),(.bool .false),(.bool .false),(.bool .false),(.bool .false),(.bool .false),(.bool .false),(.bool .false),(.bool .false),(.bool .false),(.bool .false),(.bool .false),(.bool .false),(.bool .false),(.bool .false),(.bool .false),(.bool .false),(.bool .false),(.bool .false),(.bool .false),(.bool .false),(.bool .false),(.bool .false),(.bool .false),(.bool .false),(.bool .false),(.bool .false),(.bool .false),(.bool .false),(.bool .false),(.bool .false),(.bool .false),(.bool .false),(.bool .false),(.bool .false),(.bool .false),(.bool .false),(.bool .false),(.bool .false),(.bool .false),(.bool .false),(.bool .false),(.bool .false),(.bool .false),(.bool .false),(.bool .false),(.bool .false),(.bool .false),(.bool .false),(.bool .false),(.bool .false),(.bool .false),(.bool .false),(.bool .false),(.bool .false),(.bool .false),(.bool .false),(.bool .false),(.bool .false),(.bool .false),(.bool .false),(.bool .false),(.bool .false),(.bool .false),(.bool .false),(.bool .false),(.bool .false),(.bool .false),(.bool .false),(.bool .false),(.bool .false),(.bool .false),(.bool .false),(.bool .false),(.bool .false),(.bool .false),(.bool .false),(.bool .false),(.bool .false),(.bool .false),(.bool .false),(.bool .false),(.bool .false),(.bool .false),(.bool .false),(.bool .false),(.bool .false),(.bool .false),(.bool .false),(.bool .false),(.bool .false),(.bool .false),(.bool .false),(.bool .false),(.bool .false),(.bool .false),(.bool .false),(.bool .false),(.bool .false),(.bool .false),(.bool .false),(.bool .false),(.bool .false),(.bool .false),(.bool .false),(.bool .false),(.bool .false),(.bool .false),(.bool .false),(.bool .false),(.bool .false),(.bool .false),(.bool .false),(.bool .false),(.bool .false),(.bool .false),(.bool .false),(.bool .false),(.bool .false),(.bool .false),(.bool .false),(.bool .false),(.bool .false),(.bool .false),(.bool .false),(.bool .false),(.bool .false),(.bool .false),(.bool .false),(.bool .false),(.bool .false),(.bool .false),(.bool .false),(.bool .false),(.bool .false),(.bool .false),(.bool .false),(.bool .false),(.bool .false),(.bool .false),(.bool .false),(.bool .false),(.bool .false),(.bool .false),(.bool .false),(.bool .false),(.bool .false),(.bool .false),(.bool .false),(.bool .false),(.bool .false),(.bool .false),(.bool .false),(.bool .false),(.bool .false),(.bool .false),(.bool .false),(.bool .false),(.bool .false),(.bool .false),(.bool .false),(.bool .false),(.bool .false),(.bool .false),(.bool .false),(.bool .false),(.bool .false),(.bool .false),(.bool .false),(.bool .false),(.bool .false),(.bool .false),(.bool .false),(.bool .false),(.bool .false),(.bool .false),(.bool .false),(.bool .false),(.bool .false),(.bool .false),(.bool .false),(.bool .false),(.bool .false),(.bool .false),(.bool .false),(.bool .false),(.bool .false),(.bool .false),(.bool .false),(.bool .false),(.bool .false),(.bool .false),(.bool .false),(.bool .false),(.bool .false)]),(.bool .false)])]⟩,av,av,⟨.ptr 328,(.sc .ptr),1,8,[(.pointer none)]⟩,⟨.struct [(0,287)],(.agg [(.int .u64)]),1,8,[(.int .u64 0)]⟩,⟨.struct [(0,287)],(.agg [(.int .u64)]),1,8,[(.int .u64 0)]⟩,av,av,av,av,av,av,Gq,av,av,av,⟨.ptr 3,(.sc .ptr),1,8,[(.pointer none)]⟩,av,av,av,av,av,av,av,av,av,av,av,av,⟨.ptr 360,(.sc .ptr),1,8,[(.pointer none)]⟩,⟨.struct [(0,91),(1,258),(2,258)],(.agg [.slc,.slc,.slc]),3,72,[(.slice none 0 0),(.slice none 0 0),(.slice none 0 0)]⟩,⟨.struct [(0,91),(1,258),(2,258)],(.agg [.slc,.slc,.slc]),3,72,[(.slice none 0 0),(.slice none 0 0),(.slice none 0 0)]⟩,av,⟨.other,(.sc .any),1,0,[(.tuple #[(.agg #[(.int .i64 0),(.int .i64 0)]),(.bool .false)])]⟩,av,av,⟨.other,(.sc .any),1,0,[(.tuple #[(.int .i32 0),(.int .i64 0)])]⟩,av,av,av,av,⟨.ptr 341,(.sc .ptr),1,8,[(.pointer none)]⟩,HB,av,⟨.ptr 375,(.sc .ptr),1,8,[(.pointer none)]⟩,⟨.struct [(0,53),(1,4)],(.agg [.slc,.bool]),2,32,[(.slice none 0 0),(.bool .false)]⟩,⟨.struct [(0,53),(1,4)],(.agg [.slc,.bool]),2,32,[(.slice none 0 0),(.bool .false)]⟩,av,av,av,av,av,av,av,⟨.array 256 5,(.arr (.int .u8)),256,256,List.replicate 256 (.int .u8 0)⟩,⟨.struct [(0,5),(1,5)],(.agg [(.int .u8),(.int .u8)]),2,2,[(.int .u8 0),(.int .u8 0)]⟩,⟨.struct [(0,5),(1,5)],(.agg [(.int .u8),(.int .u8)]),2,2,[(.int .u8 0),(.int .u8 0)]⟩,⟨.array 16 385,(.arr (.int .u8)),32,32,List.replicate 32 (.int .u8 0)⟩,av,⟨.struct [(0,17),(1,17),(2,17),(3,9)],(.agg [.ptr,.ptr,.ptr,.str]),4,40,[(.pointer none),(.pointer none),(.pointer none),(.string ⟨#[]⟩)]⟩,⟨.struct [(0,17),(1,17),(2,17),(3,9)],(.agg [.ptr,.ptr,.ptr,.str]),4,40,[(.pointer none),(.pointer none),(.pointer none),(.string ⟨#[]⟩)]⟩,⟨.array 0 16,(.arr .ptr),0,0,[]⟩,⟨.struct [(0,390)],(.agg []),0,0,[]⟩,⟨.struct [(0,390)],(.agg []),0,0,[]⟩,Gp,Gp,av,HA,HA,⟨.struct [(0,12),(1,12),(2,44),(3,393),(4,5),(5,5),(6,394),(7,395),(8,246),(9,396),(10,397)],(.agg [(.int .u64),(.int .u64),(.int .u32),(.int .u8),(.int .u8),(.int .u8),(.int .u8),.fn,.ptr,(.int .i32),(.int .i32)]),11,48,[(.int .u64 0),(.int .u64 0),(.int .u32 0),(.int .u8 0),(.int .u8 0),(.int .u8 0),(.int .u8 0),.nilFunc,(.pointer none),(.int .i32 0),(.int .i32 0)]⟩,⟨.struct [(0,12),(1,12),(2,44),(3,393),(4,5),(5,5),(6,394),(7,395),(8,246),(9,396),(10,397)],(.agg [(.int .u64),(.int .u64),(.int .u32),(.int .u8),(.int .u8),(.int .u8),(.int .u8),.fn,.ptr,(.int .i32),(.int .i32)]),11,48,[(.int .u64 0),(.int .u64 0),(.int .u32 0),(.int .u8 0),(.int .u8 0),(.int .u8 0),(.int .u8 0),.nilFunc,(.pointer none),(.int .i32 0),(.int .i32 0)]⟩,⟨.other,(.sc .any),1,8,[(.pointer none)]⟩]
noncomputable def C:Ctx:={P:=Tryz.prog,T:=Gt,tup:=[(0,[]),(25,[(.agg [(.int .i64),(.int .i64),(.int .i64)]),(.sc (.int .i64)),(.sc .slc)]),(30,[(.sc .ptr),(.sc (.int .i64))]),(34,[(.sc (.int .i64)),(.sc (.int .i64))]),(45,[(.sc .bool),(.sc (.int .i64))]),(63,[(.sc .slc),(.sc .bool)]),(88,[(.sc .slc),(.sc .bool),(.sc (.int .i64))]),(96,[(.sc .slc),(.sc (.int .i64))]),(102,[(.sc .slc),(.sc .bool)]),(111,[(.agg [(.int .i64),(.int .i64),(.int .i64),(.int .i64),(.int .i64),(.int .i64),.slc,.slc]),(.sc .bool)]),(133,[(.sc .slc),(.sc (.int .i64))]),(152,[(.sc .slc),(.sc .bool)]),(155,[(.sc (.int .i64)),(.sc .bool)]),(159,[(.sc .ptr),(.sc (.int .i64))]),(202,[(.sc .slc),(.sc (.int .i64))]),(239,[(.agg [(.int .i64),(.int .i64),(.int .i64),(.int .i64),(.int .i64),(.int .i64),(.int .u32),.slc]),(.sc .bool)]),(259,[(.sc .slc),(.sc .slc),(.sc .slc),(.sc (.int .i64))]),(262,[(.sc .slc),(.sc .slc)]),(280,[(.sc (.int .i64)),(.sc (.int .i64))]),(291,[(.agg [(.int .i64),(.int .i64),(.int .i64),.slc,.slc]),(.sc .bool)]),(294,[(.sc .slc),(.sc .bool)]),(309,[(.sc (.int .i64)),(.sc .slc),(.sc .bool)]),(318,[(.agg [.slc,.slc,.slc]),(.sc .bool)]),(329,[(.arr .bool),(.sc .bool)]),(362,[(.agg [(.int .i64),(.int .i64)]),(.sc .bool)]),(365,[(.sc (.int .i32)),(.sc (.int .i64))]),(371,[(.sc (.int .i64)),(.sc (.int .i64))])],fns:=[false,false]++List.replicate 320 true++List.replicate 23 false++[true]}
theorem Ig:(List.range C.T.length).map (gB.seen C.P)=C.T.map gB.told:=by kernel_rfl
theorem GU:C.P.follows .mixedOrders=true:=by kernel_rfl
theorem Ih:(C.P.funcs.toList.map fun f=>!(f.name== "runtime.NumGoroutine")&&f.body.isSome)=C.fns:=by kernel_rfl
theorem ag:C.Ok:={Gt:=Ig,mixed:=GU,fns:=Ih}
abbrev fw:FuncId:=3
noncomputable def fK (c_0:Sl) (n_1:Int) (at_2:Int) (mask_3:Int) (R:Value→Heap→Prop) (h:Heap):Prop:=
 af Tryz.prog 5 #[(.slice c_0.ptr c_0.len c_0.cap)] (.many [(.agg [(.int .i64),(.int .i64),(.int .i64)]),(.sc (.int .i64)),(.sc .slc)]) h fun r1 h1=>
 aU Tryz.prog (Instr.alloc 24 true (.tuple #[])) h1 fun a2 h2=>
 ab Tryz.prog (Instr.storeAt 24 (.pointer (some a2)) (.agg #[(.int .i64 r1.1.1),(.int .i64 r1.1.2.1),(.int .i64 r1.1.2.2)])) h2 fun _ h3=>
 aH (σ:=Sl×Int) (fun s3 K1 h4=>
 af Tryz.prog 6 #[(.int .i64 n_1),(.int .i64 (4:Int))] (.one (.sc (.int .i64))) h4 fun r4 h5=>
 Br (decide (s3.2<(IntKind.wrap .i64 ((2:Int)+r4))))
 (aw Tryz.prog (Instr.buildSlice 22 1 #[(0,(.int .i64 (20:Int)))]) (.one (.sc .slc)) h5 fun v5 h6=>
 aw Tryz.prog (Builtin.append_ #[22,22] 22 #[(.slice s3.1.ptr s3.1.len s3.1.cap),(.slice v5.ptr v5.len v5.cap)]) (.one (.sc .slc)) h6 fun v6 h7=>
 K1 ((⟨v6.ptr,v6.len,v6.cap⟩:Sl),IntKind.wrap .i64 (s3.2+(1:Int))) h7)
 (ba (σ:=Option Addr×Int) (fun s10 h10=>
 ba (σ:=Unit) (fun _ h11=>
 aH (σ:=Int) (fun s12 K4 h12=>
 Br (decide (s12<((s3.1.len:Nat):Int)))
 (af Tryz.prog 9 #[(.pointer s10.1)] (.many [(.sc (.int .i64)),(.sc (.int .i64))]) h12 fun r13 h13=>
 ba (σ:=Unit) (fun _ h17=>
 af Tryz.prog 11 #[(.pointer s10.1),(.int .i64 s12)] (.one (.sc .ptr)) h17 fun r18 h18=>
 af Tryz.prog 6 #[(.int .i64 at_2),(.int .i64 (61:Int))] (.one (.sc (.int .i64))) h18 fun r19 h19=>
 af Tryz.prog 13 #[(.pointer r18),(.int .i64 (0:Int)),(.int .i64 r19),(.int .u32 (IntKind.wrap .u32 ((BitVec.ofInt (IntKind.bits .u32) (IntKind.wrap .u32 mask_3)|||(BitVec.ofInt (IntKind.bits .u32) (1:Int))).toNat:Nat)))] (.one (.sc .bool)) h19 fun r20 h20=>
 Br (!r20)
 (R (.bool false) h20)
 (K4 (IntKind.wrap .i64 (s12+(1:Int))) h20))
 (fun K5=>
 Br (r13.2 !=(0:Int)) (R (.bool false) h13) (Br (r13.1 !=(IntKind.wrap .i64 ((IntKind.wrap .i64 (((s3.1.len:Nat):Int)-(1:Int)))-s12))) (R (.bool false) h13) (af Tryz.prog 11 #[(.pointer s10.1),(.int .i64 s12)] (.one (.sc .ptr)) h13 fun r14 h14=>
 af Tryz.prog 12 #[(.pointer s10.1)] (.one (.agg [(.int .i64),(.int .i64),(.int .i64),(.int .i64),(.int .i64),(.int .i64),.slc,.slc])) h14 fun r15 h15=>
 af Tryz.prog 10 #[(.pointer r14),(.agg #[(.int .i64 r15.1),(.int .i64 r15.2.1),(.int .i64 r15.2.2.1),(.int .i64 r15.2.2.2.1),(.int .i64 r15.2.2.2.2.1),(.int .i64 r15.2.2.2.2.2.1),(.slice r15.2.2.2.2.2.2.1.ptr r15.2.2.2.2.2.2.1.len r15.2.2.2.2.2.2.1.cap),(.slice r15.2.2.2.2.2.2.2.ptr r15.2.2.2.2.2.2.2.len r15.2.2.2.2.2.2.2.cap)])] (.one (.sc .bool)) h15 fun r16 h16=>
 Br (!(r16==true))
 (R (.bool false) h16)
 (K5 () h16)))))
 (af Tryz.prog 9 #[(.pointer s10.1)] (.many [(.sc (.int .i64)),(.sc (.int .i64))]) h12 fun r21 h21=>
 af Tryz.prog 14 #[(.pointer s10.1),(.int .i64 (0:Int))] (.many [(.sc .bool),(.sc (.int .i64))]) h21 fun r22 h22=>
 af Tryz.prog 14 #[(.pointer none),(.int .i64 (0:Int))] (.many [(.sc .bool),(.sc (.int .i64))]) h22 fun r23 h23=>
 af Tryz.prog 9 #[(.pointer none)] (.many [(.sc (.int .i64)),(.sc (.int .i64))]) h23 fun r24 h24=>
 Br (r21.2==(5:Int)) (Br (!r22.1) (Br (r22.2==(0:Int)) (Br (r23.2==(14:Int)) (Br (r24.2==(14:Int)) (af Tryz.prog 15 #[(.pointer none)] (.one (.sc .slc)) h24 fun r25 h25=>
 Br (((r25.len:Nat):Int)==(0:Int)) (af Tryz.prog 16 #[] (.one (.sc .bool)) h25 fun r26 h26=>
 R (.bool r26) h26) (R (.bool false) h25)) (R (.bool false) h24)) (R (.bool false) h24)) (R (.bool false) h24)) (R (.bool false) h24)) (R (.bool false) h24))) (0:Int) h11)
 (fun K3=>
 Br (s10.2 !=(0:Int)) (R (.bool false) h10) (Br (Option.isNone s10.1)
 (R (.bool false) h10)
 (K3 () h10))))
 (fun K2=>
 ∃x7:Int×Int×Int,ak h5 a2 0 [(.int .i64 x7.1),(.int .i64 x7.2.1),(.int .i64 x7.2.2)]∧
 af Tryz.prog 8 #[] (.one (.sc .ptr)) h5 fun r8 h8=>
 (aE.ok [(a2,(.int .i64 x7.1)),(a2.add 1,(.int .i64 x7.2.1)),(a2.add 2,(.int .i64 x7.2.2))] h8)∧
 af Tryz.prog 7 #[(.agg #[(.int .i64 x7.1),(.int .i64 x7.2.1),(.int .i64 x7.2.2)]),(.int .i64 r1.2.1),(.pointer r8),(.slice s3.1.ptr s3.1.len s3.1.cap)] (.many [(.sc .ptr),(.sc (.int .i64))]) h8 fun r9 h9=>
 (aE.ok [] h9)∧
 K2 (r9.1,r9.2) h9))) ((⟨none,0,0⟩:Sl),(0:Int)) h3
theorem jc (c_0:Sl) (n_1:Int) (at_2:Int) (mask_3:Int) {R:Value→Heap→Prop} {h:Heap} (hm:fK c_0 n_1 at_2 mask_3 R h):ae Tryz.prog 3 #[(.slice c_0.ptr c_0.len c_0.cap),(.int .i64 n_1),(.int .i64 at_2),(.int .i64 mask_3)] h R:=al ag Tryz.func3 (.two .n (.two .n (.two .n (.two (.two .n (.inn (.loop [(12,(.sc .slc)),(13,(.sc (.int .i64)))] [(12,14),(34,44)] .n))) (.two (.join [(14,(.sc .ptr)),(15,(.sc (.int .i64)))] [(14,16),(44,52)] .n) (.two (.join [] [(8,9),(52,58)] .n) (.two (.two .n (.inn (.loop [(60,(.sc (.int .i64)))] [(8,9),(16,19),(60,99)] (.two .n (.two .n (.two (.inn (.two .n (.two .n (.two (.join [] [(8,9),(68,88)] .n) .n)))) .n)))))) .n))))))) hm
abbrev lG:FuncId:=5
noncomputable def il (l_0:Sl) (R:Value→Heap→Prop) (h:Heap):Prop:=
 aU Tryz.prog (Instr.alloc 24 true (.tuple #[])) h fun a1 h1=>
 af Tryz.prog 27 #[(.slice l_0.ptr l_0.len l_0.cap),(.int .i64 (0:Int))] (.one (.sc (.int .i64))) h1 fun r2 h2=>
 af Tryz.prog 27 #[(.slice l_0.ptr l_0.len l_0.cap),(.int .i64 (1:Int))] (.one (.sc (.int .i64))) h2 fun r3 h3=>
 af Tryz.prog 27 #[(.slice l_0.ptr l_0.len l_0.cap),(.int .i64 (2:Int))] (.one (.sc (.int .i64))) h3 fun r4 h4=>
 af Tryz.prog 26 #[(.int .i64 r2),(.int .i64 r3),(.int .i64 r4)] (.one (.agg [(.int .i64),(.int .i64),(.int .i64)])) h4 fun r5 h5=>
 aU Tryz.prog (Instr.alloc 24 true (.tuple #[])) h5 fun a6 h6=>
 ab Tryz.prog (Instr.storeAt 24 (.pointer (some a6)) (.agg #[(.int .i64 r5.1),(.int .i64 r5.2.1),(.int .i64 r5.2.2)])) h6 fun _ h7=>
 aH (σ:=Sl×Int) (fun s7 K1 h8=>
 af Tryz.prog 27 #[(.slice l_0.ptr l_0.len l_0.cap),(.int .i64 (4:Int))] (.one (.sc (.int .i64))) h8 fun r8 h9=>
 af Tryz.prog 6 #[(.int .i64 r8),(.int .i64 (4:Int))] (.one (.sc (.int .i64))) h9 fun r9 h10=>
 Br (decide (s7.2<(IntKind.wrap .i64 ((2:Int)+r9))))
 (af Tryz.prog 27 #[(.slice l_0.ptr l_0.len l_0.cap),(.int .i64 (IntKind.wrap .i64 ((5:Int)+s7.2)))] (.one (.sc (.int .i64))) h10 fun r10 h11=>
 af Tryz.prog 6 #[(.int .i64 r10),(.int .i64 (50:Int))] (.one (.sc (.int .i64))) h11 fun r11 h12=>
 aw Tryz.prog (Instr.buildSlice 22 1 #[(0,(.int .i64 (IntKind.wrap .i64 ((8:Int)+r11))))]) (.one (.sc .slc)) h12 fun v12 h13=>
 aw Tryz.prog (Builtin.append_ #[22,22] 22 #[(.slice s7.1.ptr s7.1.len s7.1.cap),(.slice v12.ptr v12.len v12.cap)]) (.one (.sc .slc)) h13 fun v13 h14=>
 K1 ((⟨v13.ptr,v13.len,v13.cap⟩:Sl),IntKind.wrap .i64 (s7.2+(1:Int))) h14)
 (∃x14:Int×Int×Int,ak h10 a6 0 [(.int .i64 x14.1),(.int .i64 x14.2.1),(.int .i64 x14.2.2)]∧
 af Tryz.prog 27 #[(.slice l_0.ptr l_0.len l_0.cap),(.int .i64 (3:Int))] (.one (.sc (.int .i64))) h10 fun r15 h15=>
 (aE.ok [(a6,(.int .i64 x14.1)),(a6.add 1,(.int .i64 x14.2.1)),(a6.add 2,(.int .i64 x14.2.2))] h15)∧
 af Tryz.prog 6 #[(.int .i64 r15),(.int .i64 (7:Int))] (.one (.sc (.int .i64))) h15 fun r16 h16=>
 (aE.ok [(a6,(.int .i64 x14.1)),(a6.add 1,(.int .i64 x14.2.1)),(a6.add 2,(.int .i64 x14.2.2))] h16)∧
 ab Tryz.prog (Instr.storeAt 24 (.pointer (some a1)) (.agg #[(.int .i64 x14.1),(.int .i64 x14.2.1),(.int .i64 x14.2.2)])) h16 fun _ h17=>
 (aE.ok [] h17)∧
 ∃res17:Int×Int×Int,ak h17 a1 0 [(.int .i64 res17.1),(.int .i64 res17.2.1),(.int .i64 res17.2.2)]∧
 R (.tuple #[(.agg #[(.int .i64 res17.1),(.int .i64 res17.2.1),(.int .i64 res17.2.2)]),(.int .i64 r16),(.slice s7.1.ptr s7.1.len s7.1.cap)]) h17)) ((⟨none,0,0⟩:Sl),(0:Int)) h7
theorem kV (l_0:Sl) {R:Value→Heap→Prop} {h:Heap} (hm:il l_0 R h):ae Tryz.prog 5 #[(.slice l_0.ptr l_0.len l_0.cap)] h R:=al ag Tryz.func5 (.two .n (.two .n (.two .n (.two .n (.two (.two .n (.inn (.loop [(7,(.sc .slc)),(8,(.sc (.int .i64)))] [(7,9),(16,35)] .n))) .n))))) hm
abbrev lH:FuncId:=6
noncomputable def im (x_0:Int) (n_1:Int) (R:Value→Heap→Prop) (h:Heap):Prop:=
 (n_1≠0)∧
 ba (σ:=Int) (fun s1 h1=>
 R (.int .i64 s1) h1)
 (fun K1=>
 Br (decide ((Int.tmod x_0 n_1)<(0:Int)))
 (K1 (IntKind.wrap .i64 ((Int.tmod x_0 n_1)+n_1)) h)
 (K1 (Int.tmod x_0 n_1) h))
theorem kW (x_0:Int) (n_1:Int) {R:Value→Heap→Prop} {h:Heap} (hm:im x_0 n_1 R h):ae Tryz.prog 6 #[(.int .i64 x_0),(.int .i64 n_1)] h R:=al ag Tryz.func6 (.two .n (.two .n (.two (.join [(0,(.sc (.int .i64)))] [(0,1),(8,13)] .n) .n))) hm
abbrev mr:FuncId:=7
noncomputable def nd (p_0:Int×Int×Int) (extra_1:Int) (pw_2:Option Addr) (cells_3:Sl) (R:Value→Heap→Prop) (h:Heap):Prop:=
 aU Tryz.prog (Instr.box 24 (.agg #[(.int .i64 p_0.1),(.int .i64 p_0.2.1),(.int .i64 p_0.2.2)])) h fun a1 h1=>
 af Tryz.prog 28 #[(.slice cells_3.ptr cells_3.len cells_3.cap)] (.many [(.sc .slc),(.sc .bool)]) h1 fun r2 h2=>
 ba (σ:=Unit) (fun _ h4=>
 ba (σ:=Option Addr) (fun s10 h7=>
 aH (σ:=Int) (fun s11 K3 h8=>
 Br (decide (s11<((r2.1.len:Nat):Int)))
 (∃a12:Addr,(r2.1.ptr=some a12∧0≤s11∧s11<((r2.1.len:Nat):Int))∧
 ∃x13:Int,cellOf h8 (a12.add (s11.toNat*1))=some (.int .i64 x13)∧
 ∃a14:Addr,(cells_3.ptr=some a14∧0≤x13∧x13<((cells_3.len:Nat):Int))∧
 ∃x15:Int,cellOf h8 (a14.add (x13.toNat*1))=some (.int .i64 x15)∧
 ∃a16:Addr,(s10=some a16)∧
 ∃x17:Int×Int×Int×Int×Int×Int×Sl×Sl,ak h8 a16 0 [(.int .i64 x17.1),(.int .i64 x17.2.1),(.int .i64 x17.2.2.1),(.int .i64 x17.2.2.2.1),(.int .i64 x17.2.2.2.2.1),(.int .i64 x17.2.2.2.2.2.1),(.slice x17.2.2.2.2.2.2.1.ptr x17.2.2.2.2.2.2.1.len x17.2.2.2.2.2.2.1.cap),(.slice x17.2.2.2.2.2.2.2.ptr x17.2.2.2.2.2.2.2.len x17.2.2.2.2.2.2.2.cap)]∧
 af Tryz.prog 31 #[(.agg #[(.int .i64 x17.1),(.int .i64 x17.2.1),(.int .i64 x17.2.2.1),(.int .i64 x17.2.2.2.1),(.int .i64 x17.2.2.2.2.1),(.int .i64 x17.2.2.2.2.2.1),(.slice x17.2.2.2.2.2.2.1.ptr x17.2.2.2.2.2.2.1.len x17.2.2.2.2.2.2.1.cap),(.slice x17.2.2.2.2.2.2.2.ptr x17.2.2.2.2.2.2.2.len x17.2.2.2.2.2.2.2.cap)])] (.one (.sc .slc)) h8 fun r18 h9=>
 (aE.ok [(a14.add (x13.toNat*1),(.int .i64 x15))] h9)∧
 Br (decide (x15<((r18.len:Nat):Int)))
 (R (.tuple #[(.pointer none),(.int .i64 (7:Int))]) h9)
 (K3 (IntKind.wrap .i64 (s11+(1:Int))) h9))
 (aH (σ:=Int) (fun s19 K4 h10=>
 Br (decide (s19<((r2.1.len:Nat):Int)))
 (∃a20:Addr,(r2.1.ptr=some a20∧0≤s19∧s19<((r2.1.len:Nat):Int))∧
 ∃x21:Int,cellOf h10 (a20.add (s19.toNat*1))=some (.int .i64 x21)∧
 ∃a22:Addr,(cells_3.ptr=some a22∧0≤x21∧x21<((cells_3.len:Nat):Int))∧
 ∃x23:Int,cellOf h10 (a22.add (x21.toNat*1))=some (.int .i64 x23)∧
 ∃a24:Addr,(s10=some a24)∧
 af Tryz.prog 21 #[(.int .i64 x23),(.pointer pw_2)] (.one (.sc .ptr)) h10 fun r25 h11=>
 (aE.ok [] h11)∧
 (0≤x21∧x21<((64:Nat):Int))∧
 ab Tryz.prog (Instr.storeAt 37 (.pointer (some ((a24.add 10).add (x21.toNat*1)))) (.pointer r25)) h11 fun _ h12=>
 (aE.ok [] h12)∧
 K4 (IntKind.wrap .i64 (s19+(1:Int))) h12)
 (∃a26:Addr,(s10=some a26)∧
 ∃x27:Int×Int×Int×Int×Int×Int×Sl×Sl,ak h10 a26 0 [(.int .i64 x27.1),(.int .i64 x27.2.1),(.int .i64 x27.2.2.1),(.int .i64 x27.2.2.2.1),(.int .i64 x27.2.2.2.2.1),(.int .i64 x27.2.2.2.2.2.1),(.slice x27.2.2.2.2.2.2.1.ptr x27.2.2.2.2.2.2.1.len x27.2.2.2.2.2.2.1.cap),(.slice x27.2.2.2.2.2.2.2.ptr x27.2.2.2.2.2.2.2.len x27.2.2.2.2.2.2.2.cap)]∧
 af Tryz.prog 33 #[(.agg #[(.int .i64 x27.1),(.int .i64 x27.2.1),(.int .i64 x27.2.2.1),(.int .i64 x27.2.2.2.1),(.int .i64 x27.2.2.2.2.1),(.int .i64 x27.2.2.2.2.2.1),(.slice x27.2.2.2.2.2.2.1.ptr x27.2.2.2.2.2.2.1.len x27.2.2.2.2.2.2.1.cap),(.slice x27.2.2.2.2.2.2.2.ptr x27.2.2.2.2.2.2.2.len x27.2.2.2.2.2.2.2.cap)]),(.slice r2.1.ptr r2.1.len r2.1.cap)] (.one (.sc .slc)) h10 fun r28 h13=>
 af Tryz.prog 32 #[(.func (.func 11) #[(.pointer s10)] #[]),(.slice r28.ptr r28.len r28.cap)] (.one (.sc (.int .i64))) h13 fun r29 h14=>
 Br (r29 !=(0:Int))
 (R (.tuple #[(.pointer none),(.int .i64 r29)]) h14)
 (R (.tuple #[(.pointer s10),(.int .i64 (0:Int))]) h14))) (0:Int) h8)) (0:Int) h7)
 (fun K2=>
 ∃x6:Int×Int×Int,ak h4 a1 0 [(.int .i64 x6.1),(.int .i64 x6.2.1),(.int .i64 x6.2.2)]∧
 af Tryz.prog 30 #[(.pointer pw_2)] (.one (.sc (.int .i64))) h4 fun r7 h5=>
 (aE.ok [(a1,(.int .i64 x6.1)),(a1.add 1,(.int .i64 x6.2.1)),(a1.add 2,(.int .i64 x6.2.2))] h5)∧
 ∃v8:Value,(ao Tryz.prog (Instr.build 69 #[(0,(.agg #[(.int .i64 (1:Int)),(.int .i64 (0:Int)),(.int .i64 x6.1),(.int .i64 x6.2.1),(.int .i64 x6.2.2),(.int .i64 extra_1),(.slice r2.1.ptr r2.1.len r2.1.cap),(.slice none 0 0)])),(1,(.pointer pw_2)),(2,(.int .i64 r7))]) v8)∧
 aU Tryz.prog (Instr.box 69 v8) h5 fun a9 h6=>
 (aE.ok [(a1,(.int .i64 x6.1)),(a1.add 1,(.int .i64 x6.2.1)),(a1.add 2,(.int .i64 x6.2.2))] h6)∧
 K2 (some a9) h6))
 (fun K1=>
 Br (!r2.2) (R (.tuple #[(.pointer none),(.int .i64 (1:Int))]) h2) (∃x3:Int×Int×Int,ak h2 a1 0 [(.int .i64 x3.1),(.int .i64 x3.2.1),(.int .i64 x3.2.2)]∧
 af Tryz.prog 29 #[(.agg #[(.int .i64 x3.1),(.int .i64 x3.2.1),(.int .i64 x3.2.2)])] (.one (.sc .bool)) h2 fun r4 h3=>
 Br (!r4) (R (.tuple #[(.pointer none),(.int .i64 (1:Int))]) h3) (Br (decide (extra_1<(0:Int))) (R (.tuple #[(.pointer none),(.int .i64 (1:Int))]) h3) (Br (decide (extra_1>(16:Int))) (R (.tuple #[(.pointer none),(.int .i64 (1:Int))]) h3) (Br (Option.isNone pw_2)
 (R (.tuple #[(.pointer none),(.int .i64 (1:Int))]) h3)
 (K1 () h3))))))
theorem sY (p_0:Int×Int×Int) (extra_1:Int) (pw_2:Option Addr) (cells_3:Sl) {R:Value→Heap→Prop} {h:Heap} (hm:nd p_0 extra_1 pw_2 cells_3 R h):ae Tryz.prog 7 #[(.agg #[(.int .i64 p_0.1),(.int .i64 p_0.2.1),(.int .i64 p_0.2.2)]),(.int .i64 extra_1),(.pointer pw_2),(.slice cells_3.ptr cells_3.len cells_3.cap)] h R:=al ag Tryz.func7 (.two .n (.two .n (.two (.join [] [(8,10),(23,42)] .n) (.two (.join [(12,(.sc .ptr))] [(12,13),(42,51)] .n) (.two (.two .n (.inn (.loop [(53,(.sc (.int .i64)))] [(8,10),(14,15),(53,69)] .n))) (.two (.two .n (.inn (.loop [(71,(.sc (.int .i64)))] [(16,17),(71,87)] .n))) .n)))))) hm
abbrev zA:FuncId:=8
noncomputable def rW (R:Value→Heap→Prop) (h:Heap):Prop:=
 aU Tryz.prog (Instr.box 76 (.agg #[(.bool false),(.bool false),(.int .i64 (0:Int)),(.int .i64 (0:Int))])) h fun a1 h1=>
 R (.pointer (some a1)) h1
theorem xL {R:Value→Heap→Prop} {h:Heap} (hm:rW R h):ae Tryz.prog 8 #[] h R:=al ag Tryz.func8 .n hm
abbrev lI:FuncId:=9
noncomputable def jq (s_0:Option Addr) (R:Value→Heap→Prop) (h:Heap):Prop:=
 af Tryz.prog 34 #[(.pointer s_0)] (.one (.sc .bool)) h fun r1 h1=>
 Br r1
 (R (.tuple #[(.int .i64 (0:Int)),(.int .i64 (14:Int))]) h1)
 (ba (σ:=Int) (fun s4 h4=>
 Br (s4==(0:Int))
 (R (.tuple #[(.int .i64 (0:Int)),(.int .i64 (5:Int))]) h4)
 (R (.tuple #[(.int .i64 (IntKind.wrap .i64 (s4-(1:Int)))),(.int .i64 (0:Int))]) h4))
 (fun K1=>
 aH (σ:=Int) (fun s2 K2 h2=>
 af Tryz.prog 14 #[(.pointer s_0),(.int .i64 s2)] (.many [(.sc .bool),(.sc (.int .i64))]) h2 fun r3 h3=>
 Br (!r3.1) (K1 s2 h3) (Br (r3.2 !=(0:Int))
 (K1 s2 h3)
 (K2 (IntKind.wrap .i64 (s2+(1:Int))) h3))) (0:Int) h1))
theorem kJ (s_0:Option Addr) {R:Value→Heap→Prop} {h:Heap} (hm:jq s_0 R h):ae Tryz.prog 9 #[(.pointer s_0)] h R:=al ag Tryz.func9 (.two .n (.two .n (.two .n (.two (.join [(4,(.sc (.int .i64)))] [(4,7),(9,23)] (.inn (.loop [(4,(.sc (.int .i64)))] [(4,7),(9,23)] .n))) .n)))) hm
abbrev kB:FuncId:=10
noncomputable def qf (d_0:Option Addr) (m_1:Int×Int×Int×Int×Int×Int×Sl×Sl) (R:Value→Heap→Prop) (h:Heap):Prop:=
 aU Tryz.prog (Instr.box 41 (.agg #[(.int .i64 m_1.1),(.int .i64 m_1.2.1),(.int .i64 m_1.2.2.1),(.int .i64 m_1.2.2.2.1),(.int .i64 m_1.2.2.2.2.1),(.int .i64 m_1.2.2.2.2.2.1),(.slice m_1.2.2.2.2.2.2.1.ptr m_1.2.2.2.2.2.2.1.len m_1.2.2.2.2.2.2.1.cap),(.slice m_1.2.2.2.2.2.2.2.ptr m_1.2.2.2.2.2.2.2.len m_1.2.2.2.2.2.2.2.cap)])) h fun a1 h1=>
 ∃x2:Int×Int×Int×Int×Int×Int×Sl×Sl,ak h1 a1 0 [(.int .i64 x2.1),(.int .i64 x2.2.1),(.int .i64 x2.2.2.1),(.int .i64 x2.2.2.2.1),(.int .i64 x2.2.2.2.2.1),(.int .i64 x2.2.2.2.2.2.1),(.slice x2.2.2.2.2.2.2.1.ptr x2.2.2.2.2.2.2.1.len x2.2.2.2.2.2.2.1.cap),(.slice x2.2.2.2.2.2.2.2.ptr x2.2.2.2.2.2.2.2.len x2.2.2.2.2.2.2.2.cap)]∧
 af Tryz.prog 35 #[(.agg #[(.int .i64 x2.1),(.int .i64 x2.2.1),(.int .i64 x2.2.2.1),(.int .i64 x2.2.2.2.1),(.int .i64 x2.2.2.2.2.1),(.int .i64 x2.2.2.2.2.2.1),(.slice x2.2.2.2.2.2.2.1.ptr x2.2.2.2.2.2.2.1.len x2.2.2.2.2.2.2.1.cap),(.slice x2.2.2.2.2.2.2.2.ptr x2.2.2.2.2.2.2.2.len x2.2.2.2.2.2.2.2.cap)])] (.one (.sc .bool)) h1 fun r3 h2=>
 Br (!r3)
 (R (.bool false) h2)
 (af Tryz.prog 36 #[(.pointer d_0)] (.one (.sc .slc)) h2 fun r4 h3=>
 ∃x5:Int×Int×Int×Int×Int×Int×Sl×Sl,ak h3 a1 0 [(.int .i64 x5.1),(.int .i64 x5.2.1),(.int .i64 x5.2.2.1),(.int .i64 x5.2.2.2.1),(.int .i64 x5.2.2.2.2.1),(.int .i64 x5.2.2.2.2.2.1),(.slice x5.2.2.2.2.2.2.1.ptr x5.2.2.2.2.2.2.1.len x5.2.2.2.2.2.2.1.cap),(.slice x5.2.2.2.2.2.2.2.ptr x5.2.2.2.2.2.2.2.len x5.2.2.2.2.2.2.2.cap)]∧
 af Tryz.prog 31 #[(.agg #[(.int .i64 x5.1),(.int .i64 x5.2.1),(.int .i64 x5.2.2.1),(.int .i64 x5.2.2.2.1),(.int .i64 x5.2.2.2.2.1),(.int .i64 x5.2.2.2.2.2.1),(.slice x5.2.2.2.2.2.2.1.ptr x5.2.2.2.2.2.2.1.len x5.2.2.2.2.2.2.1.cap),(.slice x5.2.2.2.2.2.2.2.ptr x5.2.2.2.2.2.2.2.len x5.2.2.2.2.2.2.2.cap)])] (.one (.sc .slc)) h3 fun r6 h4=>
 aH (σ:=Int) (fun s7 K1 h5=>
 Br (decide (s7<((r6.len:Nat):Int)))
 (∃a8:Addr,(r6.ptr=some a8∧0≤s7∧s7<((r6.len:Nat):Int))∧
 ∃x9:Sl,cellOf h5 (a8.add (s7.toNat*1))=some (.slice x9.ptr x9.len x9.cap)∧
 aU Tryz.prog (Instr.alloc 53 true (.tuple #[])) h5 fun a10 h6=>
 ab Tryz.prog (Instr.storeAt 53 (.pointer (some a10)) (.slice x9.ptr x9.len x9.cap)) h6 fun _ h7=>
 af Tryz.prog 37 #[(.slice r4.ptr r4.len r4.cap),(.func (.func 38) #[] #[(.pointer (some a10))])] (.one (.sc .bool)) h7 fun r11 h8=>
 Br (!r11)
 (R (.bool false) h8)
 (K1 (IntKind.wrap .i64 (s7+(1:Int))) h8))
 (R (.bool true) h5)) (0:Int) h4)
theorem vU (d_0:Option Addr) (m_1:Int×Int×Int×Int×Int×Int×Sl×Sl) {R:Value→Heap→Prop} {h:Heap} (hm:qf d_0 m_1 R h):ae Tryz.prog 10 #[(.pointer d_0),(.agg #[(.int .i64 m_1.1),(.int .i64 m_1.2.1),(.int .i64 m_1.2.2.1),(.int .i64 m_1.2.2.2.1),(.int .i64 m_1.2.2.2.2.1),(.int .i64 m_1.2.2.2.2.2.1),(.slice m_1.2.2.2.2.2.2.1.ptr m_1.2.2.2.2.2.2.1.len m_1.2.2.2.2.2.2.1.cap),(.slice m_1.2.2.2.2.2.2.2.ptr m_1.2.2.2.2.2.2.2.len m_1.2.2.2.2.2.2.2.cap)])] h R:=al ag Tryz.func10 (.two .n (.two .n (.two .n (.two (.two .n (.inn (.loop [(16,(.sc (.int .i64)))] [(4,5),(7,8),(16,25)] .n))) .n)))) hm
abbrev bx:FuncId:=11
noncomputable def jG (s_0:Option Addr) (slot_1:Int) (R:Value→Heap→Prop) (h:Heap):Prop:=
 ba (σ:=Unit) (fun _ h1=>
 ∃a2:Addr,(s_0=some a2)∧
 (0≤slot_1∧slot_1<((64:Nat):Int))∧
 ∃x3:Option Addr,cellOf h1 ((a2.add 10).add (slot_1.toNat*1))=some (.pointer x3)∧
 R (.pointer x3) h1)
 (fun K1=>
 Br (Option.isNone s_0) (R (.pointer none) h) (Br (decide (slot_1<(0:Int))) (R (.pointer none) h) (Br (decide (slot_1≥(64:Int)))
 (R (.pointer none) h)
 (K1 () h))))
theorem nf (s_0:Option Addr) (slot_1:Int) {R:Value→Heap→Prop} {h:Heap} (hm:jG s_0 slot_1 R h):ae Tryz.prog 11 #[(.pointer s_0),(.int .i64 slot_1)] h R:=al ag Tryz.func11 (.two .n (.two (.join [] [(4,15)] .n) .n)) hm
abbrev iq:FuncId:=12
noncomputable def iE (s_0:Option Addr) (R:Value→Heap→Prop) (h:Heap):Prop:=
 aU Tryz.prog (Instr.alloc 41 true (.tuple #[])) h fun a1 h1=>
 Br (Option.isNone s_0)
 (ab Tryz.prog (Instr.storeAt 41 (.pointer (some a1)) (.agg #[(.int .i64 (0:Int)),(.int .i64 (0:Int)),(.int .i64 (0:Int)),(.int .i64 (0:Int)),(.int .i64 (0:Int)),(.int .i64 (0:Int)),(.slice none 0 0),(.slice none 0 0)])) h1 fun _ h2=>
 ∃res2:Int×Int×Int×Int×Int×Int×Sl×Sl,ak h2 a1 0 [(.int .i64 res2.1),(.int .i64 res2.2.1),(.int .i64 res2.2.2.1),(.int .i64 res2.2.2.2.1),(.int .i64 res2.2.2.2.2.1),(.int .i64 res2.2.2.2.2.2.1),(.slice res2.2.2.2.2.2.2.1.ptr res2.2.2.2.2.2.2.1.len res2.2.2.2.2.2.2.1.cap),(.slice res2.2.2.2.2.2.2.2.ptr res2.2.2.2.2.2.2.2.len res2.2.2.2.2.2.2.2.cap)]∧
 R (.agg #[(.int .i64 res2.1),(.int .i64 res2.2.1),(.int .i64 res2.2.2.1),(.int .i64 res2.2.2.2.1),(.int .i64 res2.2.2.2.2.1),(.int .i64 res2.2.2.2.2.2.1),(.slice res2.2.2.2.2.2.2.1.ptr res2.2.2.2.2.2.2.1.len res2.2.2.2.2.2.2.1.cap),(.slice res2.2.2.2.2.2.2.2.ptr res2.2.2.2.2.2.2.2.len res2.2.2.2.2.2.2.2.cap)]) h2)
 (∃a3:Addr,(s_0=some a3)∧
 ∃x4:Int×Int×Int×Int×Int×Int×Sl×Sl,ak h1 a3 0 [(.int .i64 x4.1),(.int .i64 x4.2.1),(.int .i64 x4.2.2.1),(.int .i64 x4.2.2.2.1),(.int .i64 x4.2.2.2.2.1),(.int .i64 x4.2.2.2.2.2.1),(.slice x4.2.2.2.2.2.2.1.ptr x4.2.2.2.2.2.2.1.len x4.2.2.2.2.2.2.1.cap),(.slice x4.2.2.2.2.2.2.2.ptr x4.2.2.2.2.2.2.2.len x4.2.2.2.2.2.2.2.cap)]∧
 af Tryz.prog 40 #[(.agg #[(.int .i64 x4.1),(.int .i64 x4.2.1),(.int .i64 x4.2.2.1),(.int .i64 x4.2.2.2.1),(.int .i64 x4.2.2.2.2.1),(.int .i64 x4.2.2.2.2.2.1),(.slice x4.2.2.2.2.2.2.1.ptr x4.2.2.2.2.2.2.1.len x4.2.2.2.2.2.2.1.cap),(.slice x4.2.2.2.2.2.2.2.ptr x4.2.2.2.2.2.2.2.len x4.2.2.2.2.2.2.2.cap)])] (.one (.agg [(.int .i64),(.int .i64),(.int .i64),(.int .i64),(.int .i64),(.int .i64),.slc,.slc])) h1 fun r5 h3=>
 ab Tryz.prog (Instr.storeAt 41 (.pointer (some a1)) (.agg #[(.int .i64 r5.1),(.int .i64 r5.2.1),(.int .i64 r5.2.2.1),(.int .i64 r5.2.2.2.1),(.int .i64 r5.2.2.2.2.1),(.int .i64 r5.2.2.2.2.2.1),(.slice r5.2.2.2.2.2.2.1.ptr r5.2.2.2.2.2.2.1.len r5.2.2.2.2.2.2.1.cap),(.slice r5.2.2.2.2.2.2.2.ptr r5.2.2.2.2.2.2.2.len r5.2.2.2.2.2.2.2.cap)])) h3 fun _ h4=>
 ∃res6:Int×Int×Int×Int×Int×Int×Sl×Sl,ak h4 a1 0 [(.int .i64 res6.1),(.int .i64 res6.2.1),(.int .i64 res6.2.2.1),(.int .i64 res6.2.2.2.1),(.int .i64 res6.2.2.2.2.1),(.int .i64 res6.2.2.2.2.2.1),(.slice res6.2.2.2.2.2.2.1.ptr res6.2.2.2.2.2.2.1.len res6.2.2.2.2.2.2.1.cap),(.slice res6.2.2.2.2.2.2.2.ptr res6.2.2.2.2.2.2.2.len res6.2.2.2.2.2.2.2.cap)]∧
 R (.agg #[(.int .i64 res6.1),(.int .i64 res6.2.1),(.int .i64 res6.2.2.1),(.int .i64 res6.2.2.2.1),(.int .i64 res6.2.2.2.2.1),(.int .i64 res6.2.2.2.2.2.1),(.slice res6.2.2.2.2.2.2.1.ptr res6.2.2.2.2.2.2.1.len res6.2.2.2.2.2.2.1.cap),(.slice res6.2.2.2.2.2.2.2.ptr res6.2.2.2.2.2.2.2.len res6.2.2.2.2.2.2.2.cap)]) h4)
theorem lJ (s_0:Option Addr) {R:Value→Heap→Prop} {h:Heap} (hm:iE s_0 R h):ae Tryz.prog 12 #[(.pointer s_0)] h R:=al ag Tryz.func12 .n hm
abbrev jr:FuncId:=13
noncomputable def jH (d_0:Option Addr) (i_1:Int) (at_2:Int) (mask_3:Int) (R:Value→Heap→Prop) (h:Heap):Prop:=
 ba (σ:=Unit) (fun _ h1=>
 aH (σ:=Int) (fun s4 K2 h2=>
 Br (decide (s4<(4:Int)))
 (∃a5:Addr,(d_0=some a5)∧
 ∃x6:Sl,cellOf h2 (a5.add 2)=some (.slice x6.ptr x6.len x6.cap)∧
 ∃a7:Addr,(x6.ptr=some a7∧0≤i_1∧i_1<((x6.len:Nat):Int))∧
 ∃x8:Sl,cellOf h2 (a7.add (i_1.toNat*1))=some (.slice x8.ptr x8.len x8.cap)∧
 ∃a9:Addr,(x8.ptr=some a9∧0≤(IntKind.wrap .i64 (at_2+s4))∧(IntKind.wrap .i64 (at_2+s4))<((x8.len:Nat):Int))∧
 ∃x10:Int,cellOf h2 (a9.add ((IntKind.wrap .i64 (at_2+s4)).toNat*1))=some (.int .u8 x10)∧
 (0≤(IntKind.wrap .i64 ((8:Int)*s4)))∧
 ∃a11:Addr,(x8.ptr=some a11∧0≤(IntKind.wrap .i64 (at_2+s4))∧(IntKind.wrap .i64 (at_2+s4))<((x8.len:Nat):Int))∧
 ab Tryz.prog (Instr.storeAt 5 (.pointer (some (a11.add ((IntKind.wrap .i64 (at_2+s4)).toNat*1)))) (.int .u8 (IntKind.wrap .u8 ((BitVec.ofInt (IntKind.bits .u8) x10^^^(BitVec.ofInt (IntKind.bits .u8) (IntKind.wrap .u8 (Int.fdiv mask_3 (2^min (IntKind.wrap .i64 ((8:Int)*s4)).toNat (IntKind.bits .u32)))))).toNat:Nat)))) h2 fun _ h3=>
 (aE.ok [] h3)∧
 K2 (IntKind.wrap .i64 (s4+(1:Int))) h3)
 (R (.bool true) h2)) (0:Int) h1)
 (fun K1=>
 Br (Option.isNone d_0) (R (.bool false) h) (Br (decide (i_1<(0:Int))) (R (.bool false) h) (∃a1:Addr,(d_0=some a1)∧
 ∃x2:Sl,cellOf h (a1.add 2)=some (.slice x2.ptr x2.len x2.cap)∧
 Br (decide (i_1≥((x2.len:Nat):Int))) (R (.bool false) h) (Br (decide (at_2<(0:Int))) (R (.bool false) h) (Br (decide (at_2>(60:Int))) (R (.bool false) h) (Br (mask_3==(0:Int))
 (R (.bool false) h)
 (K1 () h)))))))
theorem ng (d_0:Option Addr) (i_1:Int) (at_2:Int) (mask_3:Int) {R:Value→Heap→Prop} {h:Heap} (hm:jH d_0 i_1 at_2 mask_3 R h):ae Tryz.prog 13 #[(.pointer d_0),(.int .i64 i_1),(.int .i64 at_2),(.int .u32 mask_3)] h R:=al ag Tryz.func13 (.two .n (.two (.join [] [(8,9),(10,37)] .n) (.two (.two .n (.inn (.loop [(37,(.sc (.int .i64)))] [(9,10),(37,60)] .n))) .n))) hm
abbrev nh:FuncId:=14
noncomputable def kC (s_0:Option Addr) (t_1:Int) (R:Value→Heap→Prop) (h:Heap):Prop:=
 af Tryz.prog 34 #[(.pointer s_0)] (.one (.sc .bool)) h fun r1 h1=>
 Br r1
 (R (.tuple #[(.bool false),(.int .i64 (14:Int))]) h1)
 (af Tryz.prog 24 #[(.pointer s_0)] (.one (.sc .slc)) h1 fun r2 h2=>
 ba (σ:=Unit) (fun _ h5=>
 af Tryz.prog 12 #[(.pointer s_0)] (.one (.agg [(.int .i64),(.int .i64),(.int .i64),(.int .i64),(.int .i64),(.int .i64),.slc,.slc])) h5 fun r6 h6=>
 aU Tryz.prog (Instr.alloc 41 true (.tuple #[])) h6 fun a7 h7=>
 ab Tryz.prog (Instr.storeAt 41 (.pointer (some a7)) (.agg #[(.int .i64 r6.1),(.int .i64 r6.2.1),(.int .i64 r6.2.2.1),(.int .i64 r6.2.2.2.1),(.int .i64 r6.2.2.2.2.1),(.int .i64 r6.2.2.2.2.2.1),(.slice r6.2.2.2.2.2.2.1.ptr r6.2.2.2.2.2.2.1.len r6.2.2.2.2.2.2.1.cap),(.slice r6.2.2.2.2.2.2.2.ptr r6.2.2.2.2.2.2.2.len r6.2.2.2.2.2.2.2.cap)])) h7 fun _ h8=>
 ∃x8:Sl,cellOf h8 (a7.add 7)=some (.slice x8.ptr x8.len x8.cap)∧
 aH (σ:=Int) (fun s9 K3 h9=>
 Br (decide (s9<((x8.len:Nat):Int)))
 (∃a10:Addr,(x8.ptr=some a10∧0≤s9∧s9<((x8.len:Nat):Int))∧
 ∃x11:ByteArray×Int×Int×Sl,ak h9 (a10.add (s9.toNat*4)) 0 [(.string x11.1),(.int .i64 x11.2.1),(.int .i64 x11.2.2.1),(.slice x11.2.2.2.ptr x11.2.2.2.len x11.2.2.2.cap)]∧
 aU Tryz.prog (Instr.alloc 87 true (.tuple #[])) h9 fun a12 h10=>
 ab Tryz.prog (Instr.storeAt 87 (.pointer (some a12)) (.agg #[(.string x11.1),(.int .i64 x11.2.1),(.int .i64 x11.2.2.1),(.slice x11.2.2.2.ptr x11.2.2.2.len x11.2.2.2.cap)])) h10 fun _ h11=>
 ∃x13:Sl,cellOf h11 (a12.add 3)=some (.slice x13.ptr x13.len x13.cap)∧
 aH (σ:=Int) (fun s14 K4 h12=>
 Br (decide (s14<((x13.len:Nat):Int)))
 (∃a15:Addr,(x13.ptr=some a15∧0≤s14∧s14<((x13.len:Nat):Int))∧
 ∃x16:Int,cellOf h12 (a15.add (s14.toNat*1))=some (.int .i64 x16)∧
 ba (σ:=Bool×Int) (fun s23 h16=>
 Br s23.1 (R (.tuple #[(.bool false),(.int .i64 (0:Int))]) h16) (Br (s23.2 !=(0:Int))
 (R (.tuple #[(.bool false),(.int .i64 (0:Int))]) h16)
 (K4 (IntKind.wrap .i64 (s14+(1:Int))) h16)))
 (fun K5=>
 ∃x17:Int×Int×Int,ak h12 (a7.add 2) 0 [(.int .i64 x17.1),(.int .i64 x17.2.1),(.int .i64 x17.2.2)]∧
 ∃x18:Int,cellOf h12 (a12.add 1)=some (.int .i64 x18)∧
 ∃x19:Int,cellOf h12 (a12.add 1)=some (.int .i64 x19)∧
 af Tryz.prog 43 #[(.int .i64 x18),(.int .i64 s14),(.int .i64 x16)] (.one (.sc (.int .u32))) h12 fun r20 h13=>
 (aE.ok [(a12.add 1,(.int .i64 x19)),(a7.add 2,(.int .i64 x17.1)),((a7.add 2).add 1,(.int .i64 x17.2.1)),((a7.add 2).add 2,(.int .i64 x17.2.2))] h13)∧
 af Tryz.prog 44 #[(.pointer s_0),(.int .i64 x19),(.int .i64 s14)] (.one (.sc .slc)) h13 fun r21 h14=>
 (aE.ok [(a7.add 2,(.int .i64 x17.1)),((a7.add 2).add 1,(.int .i64 x17.2.1)),((a7.add 2).add 2,(.int .i64 x17.2.2))] h14)∧
 af Tryz.prog 42 #[(.agg #[(.int .i64 x17.1),(.int .i64 x17.2.1),(.int .i64 x17.2.2)]),(.int .u32 r20),(.slice r21.ptr r21.len r21.cap),(.int .i64 t_1)] (.many [(.sc .slc),(.sc .bool),(.sc (.int .i64))]) h14 fun r22 h15=>
 (aE.ok [] h15)∧
 K5 (r22.2.1,r22.2.2) h15))
 (K3 (IntKind.wrap .i64 (s9+(1:Int))) h12)) (0:Int) h11)
 (af Tryz.prog 45 #[(.pointer s_0),(.int .i64 t_1)] (.one (.sc .bool)) h9 fun r24 h17=>
 R (.tuple #[(.bool r24),(.int .i64 (0:Int))]) h17)) (0:Int) h8)
 (fun K1=>
 ba (σ:=Bool) (fun s3 h3=>
 Br s3
 (R (.tuple #[(.bool false),(.int .i64 (1:Int))]) h3)
 (af Tryz.prog 41 #[(.int .i64 ((r2.len:Nat):Int)),(.int .i64 t_1)] (.one (.sc (.int .i64))) h3 fun r4 h4=>
 Br (decide (r4>(4096:Int)))
 (R (.tuple #[(.bool false),(.int .i64 (13:Int))]) h4)
 (K1 () h4)))
 (fun K2=>
 Br (decide (t_1<(0:Int))) (K2 true h2) (K2 (decide (t_1≥((r2.len:Nat):Int))) h2))))
theorem mu (s_0:Option Addr) (t_1:Int) {R:Value→Heap→Prop} {h:Heap} (hm:kC s_0 t_1 R h):ae Tryz.prog 14 #[(.pointer s_0),(.int .i64 t_1)] h R:=al ag Tryz.func14 (.two .n (.two .n (.two .n (.two (.join [] [(4,6),(20,33)] (.inn (.two (.join [(20,(.sc .bool))] [(20,28)] .n) .n))) (.two .n (.two (.two .n (.inn (.loop [(38,(.sc (.int .i64)))] [(4,6),(9,15),(38,75)] (.two .n (.two .n (.two (.inn (.two .n (.two .n (.inn (.loop [(45,(.sc (.int .i64)))] [(4,6),(10,15),(45,74)] (.two .n (.two .n (.two (.inn (.two .n (.two (.join [(13,(.sc .bool)),(14,(.sc (.int .i64)))] [(12,15),(50,68)] .n) .n))) .n)))))))) .n)))))) .n)))))) hm
abbrev ni:FuncId:=15
noncomputable def kD (s_0:Option Addr) (R:Value→Heap→Prop) (h:Heap):Prop:=
 aU Tryz.prog (Instr.box 28 (.pointer s_0)) h fun a1 h1=>
 ∃x2:Option Addr,cellOf h1 a1=some (.pointer x2)∧
 af Tryz.prog 34 #[(.pointer x2)] (.one (.sc .bool)) h1 fun r3 h2=>
 Br r3
 (R (.slice none 0 0) h2)
 (∃x4:Option Addr,cellOf h2 a1=some (.pointer x4)∧
 af Tryz.prog 47 #[(.pointer x4)] (.one (.sc .slc)) h2 fun r5 h3=>
 af Tryz.prog 46 #[(.slice r5.ptr r5.len r5.cap),(.func (.func 48) #[] #[(.pointer (some a1))])] (.one (.sc .slc)) h3 fun r6 h4=>
 R (.slice r6.ptr r6.len r6.cap) h4)
theorem mv (s_0:Option Addr) {R:Value→Heap→Prop} {h:Heap} (hm:kD s_0 R h):ae Tryz.prog 15 #[(.pointer s_0)] h R:=al ag Tryz.func15 .n hm
abbrev lK:FuncId:=16
noncomputable def ir (R:Value→Heap→Prop) (h:Heap):Prop:=
 af Tryz.prog 8 #[] (.one (.sc .ptr)) h fun r1 h1=>
 aw Tryz.prog (Instr.buildSlice 22 1 #[(0,(.int .i64 (5:Int)))]) (.one (.sc .slc)) h1 fun v2 h2=>
 af Tryz.prog 7 #[(.agg #[(.int .i64 (1:Int)),(.int .i64 (1:Int)),(.int .i64 (1:Int))]),(.int .i64 (0:Int)),(.pointer r1),(.slice v2.ptr v2.len v2.cap)] (.many [(.sc .ptr),(.sc (.int .i64))]) h2 fun r3 h3=>
 af Tryz.prog 14 #[(.pointer r3.1),(.int .i64 (0:Int))] (.many [(.sc .bool),(.sc (.int .i64))]) h3 fun r4 h4=>
 Br (r3.2==(0:Int)) (Br (r4.2==(0:Int)) (Br r4.1 (af Tryz.prog 15 #[(.pointer r3.1)] (.one (.sc .slc)) h4 fun r5 h5=>
 R (.bool (((r5.len:Nat):Int)==(0:Int))) h5) (R (.bool false) h4)) (R (.bool false) h4)) (R (.bool false) h4)
theorem kX {R:Value→Heap→Prop} {h:Heap} (hm:ir R h):ae Tryz.prog 16 #[] h R:=al ag Tryz.func16 .n hm
abbrev zB:FuncId:=21
noncomputable def rX (cells_0:Int) (p_1:Option Addr) (R:Value→Heap→Prop) (h:Heap):Prop:=
 ba (σ:=Unit) (fun _ h1=>
 aU Tryz.prog (Instr.box 85 (.agg #[(.pointer p_1),(.int .i64 cells_0),(.slice none 0 0),(.int .i64 (0:Int)),(.slice none 0 0),(.bool false),(.bool false)])) h1 fun a2 h2=>
 R (.pointer (some a2)) h2)
 (fun K1=>
 Br (decide (cells_0<(1:Int))) (R (.pointer none) h) (Br (decide (cells_0>(512:Int))) (R (.pointer none) h) (Br (Option.isNone p_1)
 (R (.pointer none) h)
 (K1 () h))))
theorem xM (cells_0:Int) (p_1:Option Addr) {R:Value→Heap→Prop} {h:Heap} (hm:rX cells_0 p_1 R h):ae Tryz.prog 21 #[(.int .i64 cells_0),(.pointer p_1)] h R:=al ag Tryz.func21 (.two .n (.two (.join [] [(4,15)] .n) .n)) hm
abbrev jI:FuncId:=24
noncomputable def kl (s_0:Option Addr) (R:Value→Heap→Prop) (h:Heap):Prop:=
 Br (Option.isNone s_0)
 (R (.slice none 0 0) h)
 (∃a1:Addr,(s_0=some a1)∧
 ∃x2:Sl,cellOf h (a1.add 6)=some (.slice x2.ptr x2.len x2.cap)∧
 af Tryz.prog 67 #[(.func (.func 11) #[(.pointer s_0)] #[]),(.slice x2.ptr x2.len x2.cap)] (.one (.sc .slc)) h fun r3 h1=>
 R (.slice r3.ptr r3.len r3.cap) h1)
theorem ot (s_0:Option Addr) {R:Value→Heap→Prop} {h:Heap} (hm:kl s_0 R h):ae Tryz.prog 24 #[(.pointer s_0)] h R:=al ag Tryz.func24 .n hm
abbrev mb:FuncId:=26
noncomputable def iF (a_0:Int) (b_1:Int) (c_2:Int) (R:Value→Heap→Prop) (h:Heap):Prop:=
 aU Tryz.prog (Instr.alloc 24 true (.tuple #[])) h fun a1 h1=>
 af Tryz.prog 6 #[(.int .i64 a_0),(.int .i64 (6:Int))] (.one (.sc (.int .i64))) h1 fun r2 h2=>
 af Tryz.prog 6 #[(.int .i64 b_1),(.int .i64 (3:Int))] (.one (.sc (.int .i64))) h2 fun r3 h3=>
 af Tryz.prog 6 #[(.int .i64 c_2),(.int .i64 (9:Int))] (.one (.sc (.int .i64))) h3 fun r4 h4=>
 ab Tryz.prog (Instr.storeAt 24 (.pointer (some a1)) (.agg #[(.int .i64 (IntKind.wrap .i64 ((1:Int)+r2))),(.int .i64 (IntKind.wrap .i64 ((1:Int)+r3))),(.int .i64 (IntKind.wrap .i64 ((1:Int)+r4)))])) h4 fun _ h5=>
 ∃res5:Int×Int×Int,ak h5 a1 0 [(.int .i64 res5.1),(.int .i64 res5.2.1),(.int .i64 res5.2.2)]∧
 R (.agg #[(.int .i64 res5.1),(.int .i64 res5.2.1),(.int .i64 res5.2.2)]) h5
theorem lL (a_0:Int) (b_1:Int) (c_2:Int) {R:Value→Heap→Prop} {h:Heap} (hm:iF a_0 b_1 c_2 R h):ae Tryz.prog 26 #[(.int .i64 a_0),(.int .i64 b_1),(.int .i64 c_2)] h R:=al ag Tryz.func26 .n hm
abbrev nj:FuncId:=27
noncomputable def js (l_0:Sl) (k_1:Int) (R:Value→Heap→Prop) (h:Heap):Prop:=
 Br (decide (k_1<((l_0.len:Nat):Int)))
 (∃a1:Addr,(l_0.ptr=some a1∧0≤k_1∧k_1<((l_0.len:Nat):Int))∧
 ∃x2:Int,cellOf h (a1.add (k_1.toNat*1))=some (.int .i64 x2)∧
 R (.int .i64 x2) h)
 (R (.int .i64 (0:Int)) h)
theorem mN (l_0:Sl) (k_1:Int) {R:Value→Heap→Prop} {h:Heap} (hm:js l_0 k_1 R h):ae Tryz.prog 27 #[(.slice l_0.ptr l_0.len l_0.cap),(.int .i64 k_1)] h R:=al ag Tryz.func27 .n hm
abbrev uo:FuncId:=28
noncomputable def nk (cells_0:Sl) (R:Value→Heap→Prop) (h:Heap):Prop:=
 aH (σ:=Sl×Int) (fun s1 K1 h1=>
 Br (decide (s1.2<((cells_0.len:Nat):Int)))
 (∃a2:Addr,(cells_0.ptr=some a2∧0≤s1.2∧s1.2<((cells_0.len:Nat):Int))∧
 ∃x3:Int,cellOf h1 (a2.add (s1.2.toNat*1))=some (.int .i64 x3)∧
 ba (σ:=Unit) (fun _ h2=>
 Br (decide (x3>(0:Int)))
 (aw Tryz.prog (Instr.buildSlice 22 1 #[(0,(.int .i64 s1.2))]) (.one (.sc .slc)) h2 fun v5 h3=>
 aw Tryz.prog (Builtin.append_ #[22,22] 22 #[(.slice s1.1.ptr s1.1.len s1.1.cap),(.slice v5.ptr v5.len v5.cap)]) (.one (.sc .slc)) h3 fun v6 h4=>
 K1 ((⟨v6.ptr,v6.len,v6.cap⟩:Sl),IntKind.wrap .i64 (s1.2+(1:Int))) h4)
 (K1 ((⟨s1.1.ptr,s1.1.len,s1.1.cap⟩:Sl),IntKind.wrap .i64 (s1.2+(1:Int))) h2))
 (fun K2=>
 Br (decide (x3<(0:Int))) (R (.tuple #[(.slice none 0 0),(.bool false)]) h1) (Br (decide (x3>(512:Int)))
 (R (.tuple #[(.slice none 0 0),(.bool false)]) h1)
 (K2 () h1))))
 (Br (decide (((cells_0.len:Nat):Int)≤(64:Int))) (R (.tuple #[(.slice s1.1.ptr s1.1.len s1.1.cap),(.bool (decide (((s1.1.len:Nat):Int)>(0:Int))))]) h1) (R (.tuple #[(.slice s1.1.ptr s1.1.len s1.1.cap),(.bool false)]) h1))) ((⟨none,0,0⟩:Sl),(0:Int)) h
theorem sZ (cells_0:Sl) {R:Value→Heap→Prop} {h:Heap} (hm:nk cells_0 R h):ae Tryz.prog 28 #[(.slice cells_0.ptr cells_0.len cells_0.cap)] h R:=al ag Tryz.func28 (.two .n (.two .n (.two (.two .n (.inn (.loop [(4,(.sc .slc)),(9,(.sc (.int .i64)))] [(2,7),(9,27)] (.two .n (.two .n (.two (.inn (.two .n (.two (.join [] [(2,4),(14,20)] .n) .n))) .n)))))) .n))) hm
abbrev CR:FuncId:=29
noncomputable def xi (p_0:Int×Int×Int) (R:Value→Heap→Prop) (h:Heap):Prop:=
 aU Tryz.prog (Instr.box 24 (.agg #[(.int .i64 p_0.1),(.int .i64 p_0.2.1),(.int .i64 p_0.2.2)])) h fun a1 h1=>
 ∃x2:Int,cellOf h1 a1=some (.int .i64 x2)∧
 Br (decide (x2≥(1:Int))) (∃x3:Int,cellOf h1 a1=some (.int .i64 x3)∧
 Br (decide (x3≤(16:Int))) (∃x4:Int,cellOf h1 (a1.add 1)=some (.int .i64 x4)∧
 Br (decide (x4≥(1:Int))) (∃x5:Int,cellOf h1 (a1.add 1)=some (.int .i64 x5)∧
 Br (decide (x5≤(4:Int))) (∃x6:Int,cellOf h1 (a1.add 2)=some (.int .i64 x6)∧
 Br (decide (x6≥(1:Int))) (∃x7:Int,cellOf h1 (a1.add 2)=some (.int .i64 x7)∧
 R (.bool (decide (x7≤(24:Int)))) h1) (R (.bool false) h1)) (R (.bool false) h1)) (R (.bool false) h1)) (R (.bool false) h1)) (R (.bool false) h1)
theorem AZ (p_0:Int×Int×Int) {R:Value→Heap→Prop} {h:Heap} (hm:xi p_0 R h):ae Tryz.prog 29 #[(.agg #[(.int .i64 p_0.1),(.int .i64 p_0.2.1),(.int .i64 p_0.2.2)])] h R:=al ag Tryz.func29 .n hm
abbrev pf:FuncId:=30
noncomputable def km (p_0:Option Addr) (R:Value→Heap→Prop) (h:Heap):Prop:=
 Br (Option.isNone p_0)
 (R (.int .i64 (0:Int)) h)
 (∃a1:Addr,(p_0=some a1)∧
 ∃x2:Int,cellOf h (a1.add 3)=some (.int .i64 x2)∧
 R (.int .i64 x2) h)
theorem ou (p_0:Option Addr) {R:Value→Heap→Prop} {h:Heap} (hm:km p_0 R h):ae Tryz.prog 30 #[(.pointer p_0)] h R:=al ag Tryz.func30 .n hm
abbrev xN:FuncId:=31
noncomputable def qg (m_0:Int×Int×Int×Int×Int×Int×Sl×Sl) (R:Value→Heap→Prop) (h:Heap):Prop:=
 aU Tryz.prog (Instr.box 41 (.agg #[(.int .i64 m_0.1),(.int .i64 m_0.2.1),(.int .i64 m_0.2.2.1),(.int .i64 m_0.2.2.2.1),(.int .i64 m_0.2.2.2.2.1),(.int .i64 m_0.2.2.2.2.2.1),(.slice m_0.2.2.2.2.2.2.1.ptr m_0.2.2.2.2.2.2.1.len m_0.2.2.2.2.2.2.1.cap),(.slice m_0.2.2.2.2.2.2.2.ptr m_0.2.2.2.2.2.2.2.len m_0.2.2.2.2.2.2.2.cap)])) h fun a1 h1=>
 ∃x2:Int×Int×Int×Int×Int×Int×Sl×Sl,ak h1 a1 0 [(.int .i64 x2.1),(.int .i64 x2.2.1),(.int .i64 x2.2.2.1),(.int .i64 x2.2.2.2.1),(.int .i64 x2.2.2.2.2.1),(.int .i64 x2.2.2.2.2.2.1),(.slice x2.2.2.2.2.2.2.1.ptr x2.2.2.2.2.2.2.1.len x2.2.2.2.2.2.2.1.cap),(.slice x2.2.2.2.2.2.2.2.ptr x2.2.2.2.2.2.2.2.len x2.2.2.2.2.2.2.2.cap)]∧
 af Tryz.prog 68 #[(.agg #[(.int .i64 x2.1),(.int .i64 x2.2.1),(.int .i64 x2.2.2.1),(.int .i64 x2.2.2.2.1),(.int .i64 x2.2.2.2.2.1),(.int .i64 x2.2.2.2.2.2.1),(.slice x2.2.2.2.2.2.2.1.ptr x2.2.2.2.2.2.2.1.len x2.2.2.2.2.2.2.1.cap),(.slice x2.2.2.2.2.2.2.2.ptr x2.2.2.2.2.2.2.2.len x2.2.2.2.2.2.2.2.cap)])] (.one (.sc .slc)) h1 fun r3 h2=>
 ((48:Int)≠0)∧
 aH (σ:=Sl×Int) (fun s4 K1 h3=>
 Br (decide (s4.2<(IntKind.wrap .i64 (Int.tdiv (IntKind.wrap .i64 ((IntKind.wrap .i64 (((r3.len:Nat):Int)+(48:Int)))-(1:Int))) (48:Int)))))
 (∃x5:Int,cellOf h3 a1=some (.int .i64 x5)∧
 (0≤(IntKind.wrap .i64 (s4.2*(48:Int)))∧(IntKind.wrap .i64 (s4.2*(48:Int)))≤(if(IntKind.wrap .i64 ((IntKind.wrap .i64 (s4.2+(1:Int)))*(48:Int)))<((r3.len:Nat):Int)then IntKind.wrap .i64 ((IntKind.wrap .i64 (s4.2+(1:Int)))*(48:Int))else((r3.len:Nat):Int))∧(if(IntKind.wrap .i64 ((IntKind.wrap .i64 (s4.2+(1:Int)))*(48:Int)))<((r3.len:Nat):Int)then IntKind.wrap .i64 ((IntKind.wrap .i64 (s4.2+(1:Int)))*(48:Int))else((r3.len:Nat):Int))≤((r3.cap:Nat):Int))∧
 af Tryz.prog 69 #[(.int .i64 x5),(.int .i64 s4.2),(.int .i64 (IntKind.wrap .i64 (Int.tdiv (IntKind.wrap .i64 ((IntKind.wrap .i64 (((r3.len:Nat):Int)+(48:Int)))-(1:Int))) (48:Int)))),(.slice (if r3.cap=(IntKind.wrap .i64 (s4.2*(48:Int))).toNat then r3.ptr else r3.ptr.map (·.add ((IntKind.wrap .i64 (s4.2*(48:Int))).toNat*1))) ((if(IntKind.wrap .i64 ((IntKind.wrap .i64 (s4.2+(1:Int)))*(48:Int)))<((r3.len:Nat):Int)then IntKind.wrap .i64 ((IntKind.wrap .i64 (s4.2+(1:Int)))*(48:Int))else((r3.len:Nat):Int)).toNat-(IntKind.wrap .i64 (s4.2*(48:Int))).toNat) (r3.cap-(IntKind.wrap .i64 (s4.2*(48:Int))).toNat))] (.one (.sc .slc)) h3 fun r6 h4=>
 (aE.ok [] h4)∧
 aw Tryz.prog (Instr.buildSlice 70 1 #[(0,(.slice r6.ptr r6.len r6.cap))]) (.one (.sc .slc)) h4 fun v7 h5=>
 (aE.ok [] h5)∧
 aw Tryz.prog (Builtin.append_ #[70,70] 70 #[(.slice s4.1.ptr s4.1.len s4.1.cap),(.slice v7.ptr v7.len v7.cap)]) (.one (.sc .slc)) h5 fun v8 h6=>
 (aE.ok [] h6)∧
 K1 ((⟨v8.ptr,v8.len,v8.cap⟩:Sl),IntKind.wrap .i64 (s4.2+(1:Int))) h6)
 (R (.slice s4.1.ptr s4.1.len s4.1.cap) h3)) ((⟨none,0,0⟩:Sl),(0:Int)) h2
theorem vV (m_0:Int×Int×Int×Int×Int×Int×Sl×Sl) {R:Value→Heap→Prop} {h:Heap} (hm:qg m_0 R h):ae Tryz.prog 31 #[(.agg #[(.int .i64 m_0.1),(.int .i64 m_0.2.1),(.int .i64 m_0.2.2.1),(.int .i64 m_0.2.2.2.1),(.int .i64 m_0.2.2.2.2.1),(.int .i64 m_0.2.2.2.2.2.1),(.slice m_0.2.2.2.2.2.2.1.ptr m_0.2.2.2.2.2.2.1.len m_0.2.2.2.2.2.2.1.cap),(.slice m_0.2.2.2.2.2.2.2.ptr m_0.2.2.2.2.2.2.2.len m_0.2.2.2.2.2.2.2.cap)])] h R:=al ag Tryz.func31 (.two .n (.two .n (.two .n (.two .n (.two (.two .n (.inn (.loop [(5,(.sc .slc)),(16,(.sc (.int .i64)))] [(5,8),(16,39)] .n))) .n))))) hm
abbrev CS:FuncId:=32
noncomputable def xj (at_0:FuncId×Array Value×Array Value) (l_1:Sl) (R:Value→Heap→Prop) (h:Heap):Prop:=
 aH (σ:=Sl×Int) (fun s1 K1 h1=>
 Br (decide (s1.2<((l_1.len:Nat):Int)))
 (∃a2:Addr,(l_1.ptr=some a2∧0≤s1.2∧s1.2<((l_1.len:Nat):Int))∧
 ∃x3:Int×Sl,ak h1 (a2.add (s1.2.toNat*2)) 0 [(.int .i64 x3.1),(.slice x3.2.ptr x3.2.len x3.2.cap)]∧
 aU Tryz.prog (Instr.alloc 106 true (.tuple #[])) h1 fun a4 h2=>
 ab Tryz.prog (Instr.storeAt 106 (.pointer (some a4)) (.agg #[(.int .i64 x3.1),(.slice x3.2.ptr x3.2.len x3.2.cap)])) h2 fun _ h3=>
 ba (σ:=Unit) (fun _ h7=>
 ∃x11:Int,cellOf h7 a4=some (.int .i64 x11)∧
 aw Tryz.prog (Instr.buildSlice 22 1 #[(0,(.int .i64 x11))]) (.one (.sc .slc)) h7 fun v12 h8=>
 aw Tryz.prog (Builtin.append_ #[22,22] 22 #[(.slice s1.1.ptr s1.1.len s1.1.cap),(.slice v12.ptr v12.len v12.cap)]) (.one (.sc .slc)) h8 fun v13 h9=>
 K1 ((⟨v13.ptr,v13.len,v13.cap⟩:Sl),IntKind.wrap .i64 (s1.2+(1:Int))) h9)
 (fun K2=>
 ba (σ:=Int) (fun s9 h6=>
 Br (s9 !=(0:Int))
 (R (.int .i64 s9) h6)
 (K2 () h6))
 (fun K3=>
 ∃x5:Int,cellOf h3 a4=some (.int .i64 x5)∧
 ∃x6:Sl,cellOf h3 (a4.add 1)=some (.slice x6.ptr x6.len x6.cap)∧
 fS C at_0.1 (at_0.2.1.toList++[(.int .i64 x5)]++at_0.2.2.toList) (.one (.sc .ptr)) h3 fun r7 h4=>
 (aE.ok [(a4.add 1,(.slice x6.ptr x6.len x6.cap))] h4)∧
 af Tryz.prog 70 #[(.pointer r7),(.slice x6.ptr x6.len x6.cap)] (.one (.sc (.int .i64))) h4 fun r8 h5=>
 (aE.ok [] h5)∧
 K3 r8 h5)))
 (af Tryz.prog 71 #[(.func (.func at_0.1) at_0.2.1 at_0.2.2),(.slice s1.1.ptr s1.1.len s1.1.cap)] (.one (.sc (.int .i64))) h1 fun r14 h10=>
 R (.int .i64 r14) h10)) ((⟨none,0,0⟩:Sl),(0:Int)) h
theorem A0 (at_0:FuncId×Array Value×Array Value) (l_1:Sl) {R:Value→Heap→Prop} {h:Heap} (hm:xj at_0 l_1 R h):ae Tryz.prog 32 #[(.func (.func at_0.1) at_0.2.1 at_0.2.2),(.slice l_1.ptr l_1.len l_1.cap)] h R:=al ag Tryz.func32 (.two .n (.two .n (.two (.two .n (.inn (.loop [(5,(.sc .slc)),(11,(.sc (.int .i64)))] [(4,6),(7,9),(11,31)] (.two .n (.two .n (.two (.inn (.two .n (.two (.join [] [(4,5),(8,9),(15,25)] (.two (.join [(8,(.sc (.int .i64)))] [(8,9),(15,22)] .n) .n)) .n))) .n)))))) .n))) hm
abbrev zC:FuncId:=33
noncomputable def rY (m_0:Int×Int×Int×Int×Int×Int×Sl×Sl) (slots_1:Sl) (R:Value→Heap→Prop) (h:Heap):Prop:=
 aU Tryz.prog (Instr.box 41 (.agg #[(.int .i64 m_0.1),(.int .i64 m_0.2.1),(.int .i64 m_0.2.2.1),(.int .i64 m_0.2.2.2.1),(.int .i64 m_0.2.2.2.2.1),(.int .i64 m_0.2.2.2.2.2.1),(.slice m_0.2.2.2.2.2.2.1.ptr m_0.2.2.2.2.2.2.1.len m_0.2.2.2.2.2.2.1.cap),(.slice m_0.2.2.2.2.2.2.2.ptr m_0.2.2.2.2.2.2.2.len m_0.2.2.2.2.2.2.2.cap)])) h fun a1 h1=>
 ∃x2:Int×Int×Int×Int×Int×Int×Sl×Sl,ak h1 a1 0 [(.int .i64 x2.1),(.int .i64 x2.2.1),(.int .i64 x2.2.2.1),(.int .i64 x2.2.2.2.1),(.int .i64 x2.2.2.2.2.1),(.int .i64 x2.2.2.2.2.2.1),(.slice x2.2.2.2.2.2.2.1.ptr x2.2.2.2.2.2.2.1.len x2.2.2.2.2.2.2.1.cap),(.slice x2.2.2.2.2.2.2.2.ptr x2.2.2.2.2.2.2.2.len x2.2.2.2.2.2.2.2.cap)]∧
 af Tryz.prog 31 #[(.agg #[(.int .i64 x2.1),(.int .i64 x2.2.1),(.int .i64 x2.2.2.1),(.int .i64 x2.2.2.2.1),(.int .i64 x2.2.2.2.2.1),(.int .i64 x2.2.2.2.2.2.1),(.slice x2.2.2.2.2.2.2.1.ptr x2.2.2.2.2.2.2.1.len x2.2.2.2.2.2.2.1.cap),(.slice x2.2.2.2.2.2.2.2.ptr x2.2.2.2.2.2.2.2.len x2.2.2.2.2.2.2.2.cap)])] (.one (.sc .slc)) h1 fun r3 h2=>
 aH (σ:=Sl×Int) (fun s4 K1 h3=>
 Br (decide (s4.2<((slots_1.len:Nat):Int)))
 (∃a5:Addr,(slots_1.ptr=some a5∧0≤s4.2∧s4.2<((slots_1.len:Nat):Int))∧
 ∃x6:Int,cellOf h3 (a5.add (s4.2.toNat*1))=some (.int .i64 x6)∧
 aH (σ:=Sl×Int) (fun s7 K2 h4=>
 Br (decide (s7.2<((r3.len:Nat):Int)))
 (∃a8:Addr,(r3.ptr=some a8∧0≤s7.2∧s7.2<((r3.len:Nat):Int))∧
 ∃x9:Sl,cellOf h4 (a8.add (s7.2.toNat*1))=some (.slice x9.ptr x9.len x9.cap)∧
 aw Tryz.prog (Instr.buildSlice 73 1 #[(0,(.agg #[(.int .i64 x6),(.slice x9.ptr x9.len x9.cap)]))]) (.one (.sc .slc)) h4 fun v10 h5=>
 aw Tryz.prog (Builtin.append_ #[73,73] 73 #[(.slice s7.1.ptr s7.1.len s7.1.cap),(.slice v10.ptr v10.len v10.cap)]) (.one (.sc .slc)) h5 fun v11 h6=>
 K2 ((⟨v11.ptr,v11.len,v11.cap⟩:Sl),IntKind.wrap .i64 (s7.2+(1:Int))) h6)
 (K1 ((⟨s7.1.ptr,s7.1.len,s7.1.cap⟩:Sl),IntKind.wrap .i64 (s4.2+(1:Int))) h4)) ((⟨s4.1.ptr,s4.1.len,s4.1.cap⟩:Sl),(0:Int)) h3)
 (R (.slice s4.1.ptr s4.1.len s4.1.cap) h3)) ((⟨none,0,0⟩:Sl),(0:Int)) h2
theorem xO (m_0:Int×Int×Int×Int×Int×Int×Sl×Sl) (slots_1:Sl) {R:Value→Heap→Prop} {h:Heap} (hm:rY m_0 slots_1 R h):ae Tryz.prog 33 #[(.agg #[(.int .i64 m_0.1),(.int .i64 m_0.2.1),(.int .i64 m_0.2.2.1),(.int .i64 m_0.2.2.2.1),(.int .i64 m_0.2.2.2.2.1),(.int .i64 m_0.2.2.2.2.2.1),(.slice m_0.2.2.2.2.2.2.1.ptr m_0.2.2.2.2.2.2.1.len m_0.2.2.2.2.2.2.1.cap),(.slice m_0.2.2.2.2.2.2.2.ptr m_0.2.2.2.2.2.2.2.len m_0.2.2.2.2.2.2.2.cap)]),(.slice slots_1.ptr slots_1.len slots_1.cap)] h R:=al ag Tryz.func33 (.two .n (.two .n (.two .n (.two (.two .n (.inn (.loop [(6,(.sc .slc)),(15,(.sc (.int .i64)))] [(6,7),(8,9),(10,11),(15,33)] (.two .n (.two .n (.two (.inn (.two .n (.two .n (.inn (.loop [(6,(.sc .slc)),(21,(.sc (.int .i64)))] [(6,7),(10,11),(21,32)] .n))))) .n)))))) .n)))) hm
abbrev qh:FuncId:=34
noncomputable def mO (s_0:Option Addr) (R:Value→Heap→Prop) (h:Heap):Prop:=
 Br (Option.isNone s_0) (R (.bool true) h) (af Tryz.prog 72 #[(.pointer s_0)] (.one (.sc .bool)) h fun r1 h1=>
 R (.bool r1) h1)
theorem oN (s_0:Option Addr) {R:Value→Heap→Prop} {h:Heap} (hm:mO s_0 R h):ae Tryz.prog 34 #[(.pointer s_0)] h R:=al ag Tryz.func34 .n hm
end Go.Proofs.YtkciobclldnoiaaGreatDoor
