/- Part of the proofs that the laws of this seat answer true whatever the input reads, and leave it as it was; no condition. -/
import Derived.Test.YtdhamoojccmbdaaGreatDoorPlA
import Derived.Test.YtdhamoojccmbdaaGreatDoorProg
set_option linter.unusedVariables false
set_option linter.unusedSimpArgs false
open Go.Proofs.Tryz renaming prog -> vV
open Go.Value renaming agg -> vQ, bool -> vP, int -> vL, pointer -> vN, slice -> vM, string -> vO
open Go.IntKind renaming bits -> qk, i64 -> vR, u32 -> vT, u8 -> vS, wrap -> qc
open List renaming range -> qC, replicate -> qh, toArray -> w6
open Go.Instr renaming alloc -> qJ, box -> qL, build -> vy, buildSlice -> qt, storeAt -> qf
open Go.Builtin renaming append_ -> qq
open Option renaming isNone -> zg
open Int renaming fdiv -> qS, tdiv -> wC, tmod -> zW
open BitVec renaming ofInt -> qA
set_option maxRecDepth 1000000
namespace Go.Proofs.YtdhamoojccmbdaaGreatDoor
noncomputable section
open Go Go.Vc Go.Proofs
instance:Coe Int Value:=⟨fun x=>vL vR x⟩
instance:Coe Sl Value:=⟨fun s=>vM s.ptr s.len s.cap⟩
instance:Coe ByteArray Value:=⟨.string⟩
instance:Coe (Option Addr) Value:=⟨.pointer⟩
instance:Coe Addr Value:=⟨fun a=>vN (some a)⟩
instance:Coe Bool Value:=⟨.bool⟩
instance:Coe (Int×Int×Int) (List Value):=⟨fun x=>[x.1,x.2.1,x.2.2]⟩
instance:Coe (Int×Int×Int) Value:=⟨fun x=>vQ (w6 x)⟩
instance:Coe (Int×Int×Int×Int×Int×Int×Sl×Sl) (List Value):=⟨fun x=>[x.1,x.2.1,x.2.2.1,x.2.2.2.1,x.2.2.2.2.1,x.2.2.2.2.2.1,x.2.2.2.2.2.2.1,x.2.2.2.2.2.2.2]⟩
instance:Coe (Int×Int×Int×Int×Int×Int×Sl×Sl) Value:=⟨fun x=>vQ (w6 x)⟩
instance:Coe (Int×ByteArray×Sl×Int×Int×Int×Int×Sl×Sl) (List Value):=⟨fun x=>[x.1,x.2.1,x.2.2.1,x.2.2.2.1,x.2.2.2.2.1,x.2.2.2.2.2.1,(vL vT x.2.2.2.2.2.2.1),x.2.2.2.2.2.2.2.1,x.2.2.2.2.2.2.2.2]⟩
instance:Coe (Int×ByteArray×Sl×Int×Int×Int×Int×Sl×Sl) Value:=⟨fun x=>vQ (w6 x)⟩
instance:Coe (Int×Int×Int×Sl) (List Value):=⟨fun x=>[x.1,x.2.1,x.2.2.1,x.2.2.2]⟩
instance:Coe (Int×Int×Int×Sl) Value:=⟨fun x=>vQ (w6 x)⟩
instance:Coe (ByteArray×Int×Int×Sl) (List Value):=⟨fun x=>[x.1,x.2.1,x.2.2.1,x.2.2.2]⟩
instance:Coe (ByteArray×Int×Int×Sl) Value:=⟨fun x=>vQ (w6 x)⟩
instance:Coe (Int×Int×Int×Int×Int×Int×Int×Sl) (List Value):=⟨fun x=>[x.1,x.2.1,x.2.2.1,x.2.2.2.1,x.2.2.2.2.1,x.2.2.2.2.2.1,(vL vT x.2.2.2.2.2.2.1),x.2.2.2.2.2.2.2]⟩
instance:Coe (Int×Int×Int×Int×Int×Int×Int×Sl) Value:=⟨fun x=>vQ (w6 x)⟩
instance:Coe (Int×Sl) (List Value):=⟨fun x=>[x.1,x.2]⟩
instance:Coe (Int×Sl) Value:=⟨fun x=>vQ (w6 x)⟩
instance:Coe (Int×Int×Int×Sl×Sl) (List Value):=⟨fun x=>[x.1,x.2.1,x.2.2.1,x.2.2.2.1,x.2.2.2.2]⟩
instance:Coe (Int×Int×Int×Sl×Sl) Value:=⟨fun x=>vQ (w6 x)⟩
instance:Coe (Sl×Sl) (List Value):=⟨fun x=>[x.1,x.2]⟩
instance:Coe (Sl×Sl) Value:=⟨fun x=>vQ (w6 x)⟩
instance:Coe (Sl×Sl×Sl) (List Value):=⟨fun x=>[x.1,x.2.1,x.2.2]⟩
instance:Coe (Sl×Sl×Sl) Value:=⟨fun x=>vQ (w6 x)⟩
instance:Coe (Int×Int) (List Value):=⟨fun x=>[x.1,x.2]⟩
instance:Coe (Int×Int) Value:=⟨fun x=>vQ (w6 x)⟩
abbrev bF:=Int×Int×Int
abbrev cz:=Int×Int×Int×Int×Int×Int×Sl×Sl
abbrev iD:=ByteArray×Int×Int×Sl
abbrev ey:=Int×Int×Int×Int×Int×Int×Int×Sl
abbrev Ca:=Int×ByteArray×Sl×Int×Int×Int×Int×Sl×Sl
abbrev Tu6:=Int×Int×Int×Bool×Bool
abbrev DE:Rt:=.one (.agg [(.int .i64),(.int .i64),(.int .i64),(.int .i64),(.int .i64),(.int .i64),.slc,.slc])
abbrev aJ:Rt:=.one (.sc .slc)
abbrev bs:Rt:=.one (.sc (.int .i64))
abbrev na:Rt:=.one (.sc .ptr)
abbrev bO:Rt:=.one (.sc .bool)
abbrev iu:Rt:=.many []
abbrev ct:Ty:=.sc .slc
abbrev aY:Ty:=.sc (.int .i64)
abbrev OV:Ty:=.sc .ptr
abbrev ms:Ty:=.sc .bool
abbrev KX:Ty:=.sc .str
variable {R:Value->Heap->Prop} {h:Heap}
def ZW:ByteArray:=⟨#[0]⟩
def aeu:ByteArray:=⟨#[97]⟩
def aev:ByteArray:=⟨#[98]⟩
def XE:ByteArray:=⟨#[99,97,116,45,55]⟩
def aew:ByteArray:=⟨#[100]⟩
def Gm:ByteArray:=⟨#[101,49,50,51,52,53,54,55,56,57,48,49]⟩
def nG:ByteArray:=⟨#[]⟩
def kK:ByteArray:=⟨#[110,101,119]⟩
abbrev aS:Nat:=3
abbrev gq:Nat:=4
abbrev aD:Nat:=5
abbrev fS:Nat:=9
abbrev oe:Nat:=22
abbrev aT:Nat:=24
abbrev nj:Nat:=29
abbrev Ip:Nat:=34
abbrev aF:Nat:=38
abbrev No:Nat:=45
abbrev aB:Nat:=47
abbrev PO:Nat:=53
abbrev gr:Nat:=57
abbrev dq:Nat:=59
abbrev UE:Nat:=60
abbrev bG:Nat:=80
abbrev fK:Nat:=87
abbrev fo:Nat:=90
abbrev cC:Nat:=93
abbrev aX:Nat:=96
abbrev dF:Nat:=102
abbrev KY:Nat:=125
abbrev KZ:Nat:=131
abbrev aZ:Nat:=134
abbrev jm:Nat:=176
abbrev UF:Nat:=197
abbrev fV:Nat:=211
abbrev Np:Nat:=214
abbrev Gn:Nat:=215
abbrev iU:Nat:=219
abbrev UG:Nat:=230
abbrev UH:Nat:=233
abbrev dG:Nat:=235
abbrev fF:Nat:=236
abbrev PP:Nat:=237
abbrev mO:Nat:=239
abbrev AA:Nat:=241
abbrev ZX:Nat:=242
abbrev UI:Nat:=270
abbrev ZY:Nat:=272
abbrev gu:Nat:=275
abbrev fp:Nat:=281
abbrev iA:Nat:=309
abbrev cM:Nat:=315
abbrev fg:Nat:=328
abbrev lT:Nat:=372
abbrev aP:TI:=⟨.fn,(.sc .fn),1,8,[.nilFunc]⟩
abbrev ti1:TI:=⟨.int .i64,(.sc (.int .i64)),1,8,[(.int .i64 0)]⟩
abbrev ti2:TI:=⟨.int .u8,(.sc (.int .u8)),1,1,[(.int .u8 0)]⟩
abbrev ti3:TI:=⟨.str,(.sc .str),1,16,[(.string ⟨#[]⟩)]⟩
abbrev ti4:TI:=⟨.int .u64,(.sc (.int .u64)),1,8,[(.int .u64 0)]⟩
abbrev ti5:TI:=⟨.int .i32,(.sc (.int .i32)),1,4,[(.int .i32 0)]⟩
abbrev ti6:TI:=⟨.other,(.sc .any),1,0,[(.tuple #[(.pointer none),(.int .i64 0)])]⟩
abbrev ti7:TI:=⟨.other,(.sc .any),1,0,[(.tuple #[(.slice none 0 0),(.int .i64 0)])]⟩
abbrev ti8:TI:=⟨.other,(.sc .any),1,0,[(.tuple #[(.slice none 0 0),(.bool .false)])]⟩
abbrev ti9:TI:=⟨.other,(.sc .any),1,0,[(.tuple #[(.int .i64 0),(.int .i64 0)])]⟩
abbrev XF:TI:=⟨.struct [(0,3),(1,38)],(.agg [(.int .i64),.slc]),2,32,[(.int .i64 0),(.slice none 0 0)]⟩
def tbl:lO:=[⟨.other,(.sc .any),1,0,[(.tuple #[])]⟩,aP,ti1,ti1,⟨.bool,(.sc .bool),1,1,[(.bool .false)]⟩,ti2,ti2,⟨.struct [(0,2),(1,3),(2,4),(3,6)],(.agg [(.int .i64),(.int .i64),.bool,(.int .u8)]),4,24,[(.int .i64 0),(.int .i64 0),(.bool .false),(.int .u8 0)]⟩,⟨.struct [(0,2),(1,3),(2,4),(3,6)],(.agg [(.int .i64),(.int .i64),.bool,(.int .u8)]),4,24,[(.int .i64 0),(.int .i64 0),(.bool .false),(.int .u8 0)]⟩,ti3,ti3,ti3,ti4,⟨.struct [(0,9),(1,12)],(.agg [.str,(.int .u64)]),2,24,[(.string ⟨#[]⟩),(.int .u64 0)]⟩,⟨.struct [(0,9),(1,12)],(.agg [.str,(.int .u64)]),2,24,[(.string ⟨#[]⟩),(.int .u64 0)]⟩,⟨.ptr 412,(.sc .ptr),1,8,[(.pointer none)]⟩,⟨.ptr 415,(.sc .ptr),1,8,[(.pointer none)]⟩,⟨.ptr 422,(.sc .ptr),1,8,[(.pointer none)]⟩,⟨.struct [(0,17)],(.agg [.ptr]),1,8,[(.pointer none)]⟩,⟨.struct [(0,17)],(.agg [.ptr]),1,8,[(.pointer none)]⟩,⟨.other,(.sc .any),1,16,[.nilIface]⟩,ti5,⟨.slice 3,(.sc .slc),1,24,[(.slice none 0 0)]⟩,⟨.struct [(0,3),(1,3),(2,3)],(.agg [(.int .i64),(.int .i64),(.int .i64)]),3,24,[(.int .i64 0),(.int .i64 0),(.int .i64 0)]⟩,⟨.struct [(0,3),(1,3),(2,3)],(.agg [(.int .i64),(.int .i64),(.int .i64)]),3,24,[(.int .i64 0),(.int .i64 0),(.int .i64 0)]⟩,⟨.other,(.sc .any),1,0,[(.tuple #[(.agg #[(.int .i64 0),(.int .i64 0),(.int .i64 0)]),(.int .i64 0),(.slice none 0 0)])]⟩,aP,⟨.ptr 80,(.sc .ptr),1,8,[(.pointer none)]⟩,aP,⟨.ptr 87,(.sc .ptr),1,8,[(.pointer none)]⟩,ti1,ti6,aP,aP,⟨.ptr 93,(.sc .ptr),1,8,[(.pointer none)]⟩,aP,aP,aP,⟨.slice 5,(.sc .slc),1,24,[(.slice none 0 0)]⟩,aP,⟨.slice 34,(.sc .slc),1,24,[(.slice none 0 0)]⟩,aP,aP,aP,aP,⟨.slice 96,(.sc .slc),1,24,[(.slice none 0 0)]⟩,⟨.struct [(0,3),(1,3),(2,24),(5,3),(6,22),(7,45)],(.agg [(.int .i64),(.int .i64),(.int .i64),(.int .i64),(.int .i64),(.int .i64),.slc,.slc]),8,96,[(.int .i64 0),(.int .i64 0),(.int .i64 0),(.int .i64 0),(.int .i64 0),(.int .i64 0),(.slice none 0 0),(.slice none 0 0)]⟩,⟨.struct [(0,3),(1,3),(2,24),(5,3),(6,22),(7,45)],(.agg [(.int .i64),(.int .i64),(.int .i64),(.int .i64),(.int .i64),(.int .i64),.slc,.slc]),8,96,[(.int .i64 0),(.int .i64 0),(.int .i64 0),(.int .i64 0),(.int .i64 0),(.int .i64 0),(.slice none 0 0),(.slice none 0 0)]⟩,aP,aP,aP,aP,aP,⟨.slice 57,(.sc .slc),1,24,[(.slice none 0 0)]⟩,aP,⟨.int .u32,(.sc (.int .u32)),1,4,[(.int .u32 0)]⟩,⟨.struct [(0,3),(1,9),(2,38),(3,3),(4,3),(5,3),(6,55),(7,22),(8,22)],(.agg [(.int .i64),.str,.slc,(.int .i64),(.int .i64),(.int .i64),(.int .u32),.slc,.slc]),9,128,[(.int .i64 0),(.string ⟨#[]⟩),(.slice none 0 0),(.int .i64 0),(.int .i64 0),(.int .i64 0),(.int .u32 0),(.slice none 0 0),(.slice none 0 0)]⟩,⟨.struct [(0,3),(1,9),(2,38),(3,3),(4,3),(5,3),(6,55),(7,22),(8,22)],(.agg [(.int .i64),.str,.slc,(.int .i64),(.int .i64),(.int .i64),(.int .u32),.slc,.slc]),9,128,[(.int .i64 0),(.string ⟨#[]⟩),(.slice none 0 0),(.int .i64 0),(.int .i64 0),(.int .i64 0),(.int .u32 0),(.slice none 0 0),(.slice none 0 0)]⟩,aP,⟨.slice 38,(.sc .slc),1,24,[(.slice none 0 0)]⟩,⟨.slice 9,(.sc .slc),1,24,[(.slice none 0 0)]⟩,aP,ti7,aP,aP,aP,⟨.mp,(.sc .mp),1,8,[(.map none)]⟩,ti8,⟨.struct [(0,3),(1,3),(2,3),(3,22)],(.agg [(.int .i64),(.int .i64),(.int .i64),.slc]),4,48,[(.int .i64 0),(.int .i64 0),(.int .i64 0),(.slice none 0 0)]⟩,⟨.struct [(0,3),(1,3),(2,3),(3,22)],(.agg [(.int .i64),(.int .i64),(.int .i64),.slc]),4,48,[(.int .i64 0),(.int .i64 0),(.int .i64 0),(.slice none 0 0)]⟩,⟨.other,(.sc .any),1,0,[(.tuple #[(.agg #[(.int .i64 0),(.int .i64 0),(.int .i64 0),(.slice none 0 0)]),(.int .i64 0)])]⟩,aP,aP,aP,ti9,aP,aP,aP,aP,⟨.struct [(0,4),(1,4),(2,3),(3,3)],(.agg [.bool,.bool,(.int .i64),(.int .i64)]),4,24,[(.bool .false),(.bool .false),(.int .i64 0),(.int .i64 0)]⟩,⟨.struct [(0,4),(1,4),(2,3),(3,3)],(.agg [.bool,.bool,(.int .i64),(.int .i64)]),4,24,[(.bool .false),(.bool .false),(.int .i64 0),(.int .i64 0)]⟩,ti8,aP,aP,aP,⟨.array 64 34,(.arr .ptr),64,512,qh 64 (.pointer none)⟩,⟨.struct [(0,47),(8,27),(9,3),(10,85)],(.arr .any),74,624,[(.int .i64 0),(.int .i64 0),(.int .i64 0),(.int .i64 0),(.int .i64 0),(.int .i64 0),(.slice none 0 0),(.slice none 0 0),(.pointer none),(.int .i64 0)]++qh 64 (.pointer none)⟩,⟨.struct [(0,47),(8,27),(9,3),(10,85)],(.arr .any),74,624,[(.int .i64 0),(.int .i64 0),(.int .i64 0),(.int .i64 0),(.int .i64 0),(.int .i64 0),(.slice none 0 0),(.slice none 0 0),(.pointer none),(.int .i64 0)]++qh 64 (.pointer none)⟩,aP,aP,⟨.slice 102,(.sc .slc),1,24,[(.slice none 0 0)]⟩,aP,⟨.struct [(0,27),(1,3),(2,59),(3,3),(4,59),(5,4),(6,4)],(.agg [.ptr,(.int .i64),.slc,(.int .i64),.slc,.bool,.bool]),7,80,[(.pointer none),(.int .i64 0),(.slice none 0 0),(.int .i64 0),(.slice none 0 0),(.bool .false),(.bool .false)]⟩,⟨.struct [(0,27),(1,3),(2,59),(3,3),(4,59),(5,4),(6,4)],(.agg [.ptr,(.int .i64),.slc,(.int .i64),.slc,.bool,.bool]),7,80,[(.pointer none),(.int .i64 0),(.slice none 0 0),(.int .i64 0),(.slice none 0 0),(.bool .false),(.bool .false)]⟩,aP,⟨.struct [(0,9),(1,3),(2,3),(3,22)],(.agg [.str,(.int .i64),(.int .i64),.slc]),4,56,[(.string ⟨#[]⟩),(.int .i64 0),(.int .i64 0),(.slice none 0 0)]⟩,⟨.struct [(0,9),(1,3),(2,3),(3,22)],(.agg [.str,(.int .i64),(.int .i64),.slc]),4,56,[(.string ⟨#[]⟩),(.int .i64 0),(.int .i64 0),(.slice none 0 0)]⟩,aP,ti8,aP,aP,XF,XF,aP,aP,aP,aP,⟨.other,(.sc .any),1,0,[(.tuple #[(.agg #[(.int .i64 0),(.int .i64 0),(.int .i64 0),(.int .i64 0),(.int .i64 0),(.int .i64 0),(.slice none 0 0),(.slice none 0 0)]),(.bool .false)])]⟩,aP,aP,aP,aP,aP,aP,aP,aP,aP,aP,aP,aP,aP,aP,aP,aP,aP,⟨.slice 176,(.sc .slc),1,24,[(.slice none 0 0)]⟩,aP,aP,aP,aP,aP,⟨.slice 134,(.sc .slc),1,24,[(.slice none 0 0)]⟩,aP,⟨.struct [(0,3),(1,3),(2,3),(3,24),(6,55),(7,38)],(.agg [(.int .i64),(.int .i64),(.int .i64),(.int .i64),(.int .i64),(.int .i64),(.int .u32),.slc]),8,80,[(.int .i64 0),(.int .i64 0),(.int .i64 0),(.int .i64 0),(.int .i64 0),(.int .i64 0),(.int .u32 0),(.slice none 0 0)]⟩,⟨.struct [(0,3),(1,3),(2,3),(3,24),(6,55),(7,38)],(.agg [(.int .i64),(.int .i64),(.int .i64),(.int .i64),(.int .i64),(.int .i64),(.int .u32),.slc]),8,80,[(.int .i64 0),(.int .i64 0),(.int .i64 0),(.int .i64 0),(.int .i64 0),(.int .i64 0),(.int .u32 0),(.slice none 0 0)]⟩,aP,⟨.ptr 138,(.sc .ptr),1,8,[(.pointer none)]⟩,⟨.struct [(0,29),(1,47),(9,22),(10,3),(11,3),(12,3)],(.agg [.ptr,(.int .i64),(.int .i64),(.int .i64),(.int .i64),(.int .i64),(.int .i64),.slc,.slc,.slc,(.int .i64),(.int .i64),(.int .i64)]),13,152,[(.pointer none),(.int .i64 0),(.int .i64 0),(.int .i64 0),(.int .i64 0),(.int .i64 0),(.int .i64 0),(.slice none 0 0),(.slice none 0 0),(.slice none 0 0),(.int .i64 0),(.int .i64 0),(.int .i64 0)]⟩,⟨.struct [(0,29),(1,47),(9,22),(10,3),(11,3),(12,3)],(.agg [.ptr,(.int .i64),(.int .i64),(.int .i64),(.int .i64),(.int .i64),(.int .i64),.slc,.slc,.slc,(.int .i64),(.int .i64),(.int .i64)]),13,152,[(.pointer none),(.int .i64 0),(.int .i64 0),(.int .i64 0),(.int .i64 0),(.int .i64 0),(.int .i64 0),(.slice none 0 0),(.slice none 0 0),(.slice none 0 0),(.int .i64 0),(.int .i64 0),(.int .i64 0)]⟩,aP,aP,aP,aP,aP,aP,aP,aP,aP,⟨.other,(.sc .any),1,0,[(.tuple #[(.int .i64 0),(.bool .false)])]⟩,aP,aP,⟨.ptr 211,(.sc .ptr),1,8,[(.pointer none)]⟩,ti6,aP,aP,aP,aP,aP,aP,aP,aP,aP,aP,aP,⟨.slice 47,(.sc .slc),1,24,[(.slice none 0 0)]⟩,aP,aP,aP,aP,aP,aP,aP,aP,aP,aP,XF,XF,aP,aP,aP,aP,aP,ti7,aP,aP,⟨.other,(.sc .any),1,0,[(.tuple #[(.agg #[(.int .i64 0),(.int .i64 0),(.int .i64 0),(.int .i64 0),(.int .i64 0),(.int .i64 0),(.int .u32 0),(.slice none 0 0)]),(.bool .false)])]⟩,aP,aP,aP,aP,aP,aP,aP,⟨.ptr 199,(.sc .ptr),1,8,[(.pointer none)]⟩,ti6,aP,aP,⟨.slice 22,(.sc .slc),1,24,[(.slice none 0 0)]⟩,⟨.struct [(0,3),(1,3),(2,55),(3,151),(4,197),(5,22)],(.agg [(.int .i64),(.int .i64),(.int .u32),.ptr,.slc,.slc]),6,80,[(.int .i64 0),(.int .i64 0),(.int .u32 0),(.pointer none),(.slice none 0 0),(.slice none 0 0)]⟩,⟨.struct [(0,3),(1,3),(2,55),(3,151),(4,197),(5,22)],(.agg [(.int .i64),(.int .i64),(.int .u32),.ptr,.slc,.slc]),6,80,[(.int .i64 0),(.int .i64 0),(.int .u32 0),(.pointer none),(.slice none 0 0),(.slice none 0 0)]⟩,aP,ti4,aP,aP,aP,aP,⟨.ptr 275,(.sc .ptr),1,8,[(.pointer none)]⟩,aP,aP,aP,⟨.struct [(0,24),(3,55),(4,59)],(.agg [(.int .i64),(.int .i64),(.int .i64),(.int .u32),.slc]),5,56,[(.int .i64 0),(.int .i64 0),(.int .i64 0),(.int .u32 0),(.slice none 0 0)]⟩,⟨.struct [(0,24),(3,55),(4,59)],(.agg [(.int .i64),(.int .i64),(.int .i64),(.int .u32),.slc]),5,56,[(.int .i64 0),(.int .i64 0),(.int .i64 0),(.int .u32 0),(.slice none 0 0)]⟩,⟨.cpx,(.sc (.cpx .f64)),1,16,[(.complex Go.FloatKind.f64 0 0)]⟩,aP,⟨.slice 219,(.sc .slc),1,24,[(.slice none 0 0)]⟩,⟨.array 64 4,(.arr .bool),64,64,qh 64 (.bool .false)⟩,⟨.flt,(.sc (.flt .f64)),1,8,[(.float Go.FloatKind.f64 0)]⟩,aP,⟨.struct [(0,3),(1,216)],(.agg [(.int .i64),(.flt .f64)]),2,16,[(.int .i64 0),(.float Go.FloatKind.f64 0)]⟩,⟨.struct [(0,3),(1,216)],(.agg [(.int .i64),(.flt .f64)]),2,16,[(.int .i64 0),(.float Go.FloatKind.f64 0)]⟩,aP,aP,aP,aP,aP,aP,aP,aP,aP,aP,⟨.ptr 5,(.sc .ptr),1,8,[(.pointer none)]⟩,aP,aP,⟨.slice 235,(.sc .slc),1,24,[(.slice none 0 0)]⟩,⟨.struct [(0,22),(1,38)],(.agg [.slc,.slc]),2,48,[(.slice none 0 0),(.slice none 0 0)]⟩,⟨.struct [(0,22),(1,38)],(.agg [.slc,.slc]),2,48,[(.slice none 0 0),(.slice none 0 0)]⟩,⟨.ptr 241,(.sc .ptr),1,8,[(.pointer none)]⟩,⟨.slice 315,(.sc .slc),1,24,[(.slice none 0 0)]⟩,⟨.struct [(0,237),(1,22),(2,22)],(.agg [.slc,.slc,.slc]),3,72,[(.slice none 0 0),(.slice none 0 0),(.slice none 0 0)]⟩,⟨.struct [(0,237),(1,22),(2,22)],(.agg [.slc,.slc,.slc]),3,72,[(.slice none 0 0),(.slice none 0 0),(.slice none 0 0)]⟩,⟨.struct [(0,206),(1,24),(4,59),(5,233),(6,239),(9,59),(10,59)],(.agg [.ptr,(.int .i64),(.int .i64),(.int .i64),.slc,.slc,.slc,.slc,.slc,.slc,.slc]),11,200,[(.pointer none),(.int .i64 0),(.int .i64 0),(.int .i64 0),(.slice none 0 0),(.slice none 0 0),(.slice none 0 0),(.slice none 0 0),(.slice none 0 0),(.slice none 0 0),(.slice none 0 0)]⟩,⟨.struct [(0,206),(1,24),(4,59),(5,233),(6,239),(9,59),(10,59)],(.agg [.ptr,(.int .i64),(.int .i64),(.int .i64),.slc,.slc,.slc,.slc,.slc,.slc,.slc]),11,200,[(.pointer none),(.int .i64 0),(.int .i64 0),(.int .i64 0),(.slice none 0 0),(.slice none 0 0),(.slice none 0 0),(.slice none 0 0),(.slice none 0 0),(.slice none 0 0),(.slice none 0 0)]⟩,⟨.slice 4,(.sc .slc),1,24,[(.slice none 0 0)]⟩,⟨.other,(.sc .any),1,0,[(.tuple #[(.slice none 0 0),(.slice none 0 0),(.slice none 0 0),(.int .i64 0)])]⟩,aP,aP,⟨.other,(.sc .any),1,0,[(.tuple #[(.slice none 0 0),(.slice none 0 0)])]⟩,aP,aP,aP,⟨.ptr 328,(.sc .ptr),1,8,[(.pointer none)]⟩,aP,aP,aP,aP,aP,⟨.other,(.sc .any),1,0,[(.tuple #[(.int .i64 0),(.slice none 0 0),(.bool .false)])]⟩,aP,aP,aP,aP,⟨.other,(.sc .any),1,0,[(.tuple #[(.slice none 0 0),(.bool .false),(.int .i64 0)])]⟩,aP,aP,aP,aP,aP,aP,aP,aP,⟨.array 255 5,(.arr (.int .u8)),255,255,qh 255 (.int .u8 0)⟩,aP,⟨.array 256 3,(.arr (.int .i64)),256,2048,qh 256 (.int .i64 0)⟩,aP,⟨.struct [(0,270),(255,272)],(.arr .any),511,2304,qh 255 (.int .u8 0)++qh 256 (.int .i64 0)⟩,⟨.struct [(0,270),(255,272)],(.arr .any),511,2304,qh 255 (.int .u8 0)++qh 256 (.int .i64 0)⟩,aP,aP,⟨.ptr 281,(.sc .ptr),1,8,[(.pointer none)]⟩,aP,⟨.struct [(0,212),(1,212),(2,3),(3,3),(4,4)],(.agg [(.cpx .f64),(.cpx .f64),(.int .i64),(.int .i64),.bool]),5,56,[(.complex Go.FloatKind.f64 0 0),(.complex Go.FloatKind.f64 0 0),(.int .i64 0),(.int .i64 0),(.bool .false)]⟩,⟨.struct [(0,212),(1,212),(2,3),(3,3),(4,4)],(.agg [(.cpx .f64),(.cpx .f64),(.int .i64),(.int .i64),.bool]),5,56,[(.complex Go.FloatKind.f64 0 0),(.complex Go.FloatKind.f64 0 0),(.int .i64 0),(.int .i64 0),(.bool .false)]⟩,aP,aP,aP,ti1,ti9,aP,aP,aP,aP,aP,aP,ti4,⟨.slice 296,(.sc .slc),1,24,[(.slice none 0 0)]⟩,⟨.struct [(0,3),(1,3),(2,3),(3,38),(4,38)],(.agg [(.int .i64),(.int .i64),(.int .i64),.slc,.slc]),5,72,[(.int .i64 0),(.int .i64 0),(.int .i64 0),(.slice none 0 0),(.slice none 0 0)]⟩,⟨.struct [(0,3),(1,3),(2,3),(3,38),(4,38)],(.agg [(.int .i64),(.int .i64),(.int .i64),.slc,.slc]),5,72,[(.int .i64 0),(.int .i64 0),(.int .i64 0),(.slice none 0 0),(.slice none 0 0)]⟩,⟨.other,(.sc .any),1,0,[(.tuple #[(.agg #[(.int .i64 0),(.int .i64 0),(.int .i64 0),(.slice none 0 0),(.slice none 0 0)]),(.bool .false)])]⟩,aP,⟨.mp,(.sc .mp),1,8,[(.map none)]⟩,ti8,aP,aP,aP,aP,aP,aP,⟨.ptr 309,(.sc .ptr),1,8,[(.pointer none)]⟩,⟨.struct [(0,233),(1,242),(2,59)],(.agg [.slc,.slc,.slc]),3,72,[(.slice none 0 0),(.slice none 0 0),(.slice none 0 0)]⟩,⟨.struct [(0,233),(1,242),(2,59)],(.agg [.slc,.slc,.slc]),3,72,[(.slice none 0 0),(.slice none 0 0),(.slice none 0 0)]⟩,aP,⟨.other,(.sc .any),1,0,[(.tuple #[(.agg #[(.slice none 0 0),(.slice none 0 0),(.slice none 0 0)]),(.bool .false)])]⟩,aP,aP,⟨.struct [(0,3),(1,3)],(.agg [(.int .i64),(.int .i64)]),2,16,[(.int .i64 0),(.int .i64 0)]⟩,⟨.struct [(0,3),(1,3)],(.agg [(.int .i64),(.int .i64)]),2,16,[(.int .i64 0),(.int .i64 0)]⟩,aP,aP,aP,aP,⟨.array 256 4,(.arr .bool),256,256,qh 256 (.bool .false)⟩,⟨.array 256 4,(.arr .bool),256,256,qh 256 (.bool .false)⟩,⟨.other,(.sc .any),1,0,[(.tuple #[(.agg #[(.bool .false),(.bool .false),(.bool .false),(.bool .false),(.bool .false),(.bool .false),(.bool .false),(.bool .false),(.bool .false),(.bool .false),(.bool .false),(.bool .false),(.bool .false),(.bool .false),(.bool .false),(.bool .false),(.bool .false),(.bool .false),(.bool .false),(.bool .false),(.bool .false),(.bool .false),(.bool .false),(.bool .false),(.bool .false),(.bool .false),(.bool .false),(.bool .false),(.bool .false),(.bool .false),(.bool .false),(.bool .false),(.bool .false),(.bool .false),(.bool .false),(.bool .false),(.bool .false),(.bool .false),(.bool .false),(.bool .false),(.bool .false),(.bool .false),(.bool .false),(.bool .false),(.bool .false),(.bool .false),(.bool .false),(.bool .false),(.bool .false),(.bool .false),(.bool .false),(.bool .false),(.bool .false),(.bool .false),(.bool .false),(.bool .false),(.bool .false),(.bool .false),(.bool .false),(.bool .false),(.bool .false),(.bool .false),(.bool .false),(.bool .false),(.bool .false),(.bool .false),(.bool .false),(.bool .false),(.bool .false),(.bool .false),(.bool .false),(.bool .false),(.bool .false),(.bool .false),(.bool .false),(.bool .false),(.bool .false),(.bool .false),(.bool .false),(.bool .false),(.bool .false),(.bool .false),(.bool .false),(.bool .false),(.bool .false),(.bool .false),(.bool .false),(.bool .false),(.bool .false),(.bool .false),(.bool .false),(.bool .false),(.bool .false),(.bool .false),(.bool .false),(.bool .false),(.bool .false),(.bool .false),(.bool .false),(.bool .false),(.bool .false),(.bool .false),(.bool .false),(.bool .false),(.bool .false),(.bool .false),(.bool .false),(.bool .false),(.bool .false),(.bool .false),(.bool .false),(.bool .false),(.bool .false),(.bool .false),(.bool .false),(.bool .false),(.bool .false),(.bool .false),(.bool .false),(.bool .false),(.bool .false),(.bool .false),(.bool .false),(.bool .false),(.bool .false),(.bool .false),(.bool .false),(.bool .false),(.bool .false),(.bool .false),(.bool .false),(.bool .false),(.bool .false),(.bool .false),(.bool .false),(.bool .false),(.bool .false),(.bool .false),(.bool .false),(.bool .false),(.bool .false),(.bool .false),(.bool .false),(.bool .false),(.bool .false),(.bool .false),(.bool .false),(.bool .false),(.bool .false),(.bool .false),(.bool .false),(.bool .false),(.bool .false),(.bool .false),(.bool .false),(.bool .false),(.bool .false),(.bool .false),(.bool .false),(.bool .false),(.bool .false),(.bool .false),(.bool .false),(.bool .false),(.bool .false),(.bool .false),(.bool .false),(.bool .false),(.bool .false),(.bool .false),(.bool .false),(.bool .false),(.bool .false),(.bool .false),(.bool .false),(.bool .false),(.bool .false),(.bool .false),(.bool .false),(.bool .false),(.bool .false),(.bool .false),(.bool .false),(.bool .false),(.bool .false),(.bool .false),(.bool .false),(.bool .false),(.bool .false),(.bool .false),(.bool .false),(.bool .false),(.bool .false),(.bool .false),(.bool .false),(.bool .false),(.bool .false),(.bool .false),(.bool .false),(.bool .false),(.bool .false),(.bool .false),(.bool .false),(.bool .false),(.bool .false),(.bool .false),(.bool .false),(.bool .false),(.bool .false),(.bool .false),(.bool .false),(.bool .false),(.bool .false),(.bool .false),(.bool .false),(.bool .false),(.bool .false),(.bool .false),(.bool .false),(.bool .false),(.bool .false),(.bool .false),(.bool .false),(.bool .false),(.bool .false),(.bool .false),(.bool .false),(.bool .false),(.bool .false),(.bool .false),(.bool .false),(.bool .false),(.bool .false),(.bool .false),(.bool .false),(.bool .false),(.bool .false),(.bool .false),(.bool .false),(.bool .false),(.bool .false),(.bool .false),(.bool .false),(.bool .false),(.bool .false),(.bool .false),(.bool .false),(.bool .false),(.bool .false),(.bool .false),(.bool .false),(.bool .false),(.bool .false),(.bool .false),(.bool .false),(.bool .false)]),(.bool .false)])]⟩,aP,aP,⟨.ptr 321,(.sc .ptr),1,8,[(.pointer none)]⟩,aP,⟨.struct [(0,293)],(.agg [(.int .u64)]),1,8,[(.int .u64 0)]⟩,⟨.struct [(0,293)],(.agg [(.int .u64)]),1,8,[(.int .u64 0)]⟩,aP,aP,ti7,aP,⟨.ptr 381,(.sc .ptr),1,8,[(.pointer none)]⟩,aP,⟨.slice 59,(.sc .slc),1,24,[(.slice none 0 0)]⟩,aP,aP,aP,aP,aP,aP,aP,aP,aP,aP,aP,aP,aP,aP,aP,aP,aP,aP,aP,aP,ti4,aP,aP,aP,⟨.ptr 3,(.sc .ptr),1,8,[(.pointer none)]⟩,aP,aP,aP,aP,aP,aP,aP,aP,aP,⟨.ptr 372,(.sc .ptr),1,8,[(.pointer none)]⟩,⟨.struct [(0,197),(1,242),(2,242)],(.agg [.slc,.slc,.slc]),3,72,[(.slice none 0 0),(.slice none 0 0),(.slice none 0 0)]⟩,⟨.struct [(0,197),(1,242),(2,242)],(.agg [.slc,.slc,.slc]),3,72,[(.slice none 0 0),(.slice none 0 0),(.slice none 0 0)]⟩,aP,⟨.other,(.sc .any),1,0,[(.tuple #[(.agg #[(.int .i64 0),(.int .i64 0)]),(.bool .false)])]⟩,aP,aP,⟨.other,(.sc .any),1,0,[(.tuple #[(.int .i32 0),(.int .i64 0)])]⟩,aP,aP,⟨.struct [(0,206),(1,3),(2,59)],(.agg [.ptr,(.int .i64),.slc]),3,40,[(.pointer none),(.int .i64 0),(.slice none 0 0)]⟩,⟨.struct [(0,206),(1,3),(2,59)],(.agg [.ptr,(.int .i64),.slc]),3,40,[(.pointer none),(.int .i64 0),(.slice none 0 0)]⟩,aP,aP,aP,aP,aP,aP,aP,aP,⟨.ptr 356,(.sc .ptr),1,8,[(.pointer none)]⟩,ti9,aP,⟨.ptr 395,(.sc .ptr),1,8,[(.pointer none)]⟩,⟨.struct [(0,38),(1,4)],(.agg [.slc,.bool]),2,32,[(.slice none 0 0),(.bool .false)]⟩,⟨.struct [(0,38),(1,4)],(.agg [.slc,.bool]),2,32,[(.slice none 0 0),(.bool .false)]⟩,aP,aP,aP,aP,aP,aP,aP,aP,aP,⟨.array 256 5,(.arr (.int .u8)),256,256,qh 256 (.int .u8 0)⟩,⟨.struct [(0,5),(1,5)],(.agg [(.int .u8),(.int .u8)]),2,2,[(.int .u8 0),(.int .u8 0)]⟩,⟨.struct [(0,5),(1,5)],(.agg [(.int .u8),(.int .u8)]),2,2,[(.int .u8 0),(.int .u8 0)]⟩,⟨.array 16 407,(.arr (.int .u8)),32,32,qh 32 (.int .u8 0)⟩,aP,aP,⟨.struct [(0,17),(1,17),(2,17),(3,9)],(.agg [.ptr,.ptr,.ptr,.str]),4,40,[(.pointer none),(.pointer none),(.pointer none),(.string ⟨#[]⟩)]⟩,⟨.struct [(0,17),(1,17),(2,17),(3,9)],(.agg [.ptr,.ptr,.ptr,.str]),4,40,[(.pointer none),(.pointer none),(.pointer none),(.string ⟨#[]⟩)]⟩,⟨.array 0 16,(.arr .ptr),0,0,[]⟩,⟨.struct [(0,413)],(.agg []),0,0,[]⟩,⟨.struct [(0,413)],(.agg []),0,0,[]⟩,ti2,ti2,aP,ti5,ti5,⟨.struct [(0,12),(1,12),(2,55),(3,416),(4,5),(5,5),(6,417),(7,418),(8,230),(9,419),(10,420)],(.agg [(.int .u64),(.int .u64),(.int .u32),(.int .u8),(.int .u8),(.int .u8),(.int .u8),.fn,.ptr,(.int .i32),(.int .i32)]),11,48,[(.int .u64 0),(.int .u64 0),(.int .u32 0),(.int .u8 0),(.int .u8 0),(.int .u8 0),(.int .u8 0),.nilFunc,(.pointer none),(.int .i32 0),(.int .i32 0)]⟩,⟨.struct [(0,12),(1,12),(2,55),(3,416),(4,5),(5,5),(6,417),(7,418),(8,230),(9,419),(10,420)],(.agg [(.int .u64),(.int .u64),(.int .u32),(.int .u8),(.int .u8),(.int .u8),(.int .u8),.fn,.ptr,(.int .i32),(.int .i32)]),11,48,[(.int .u64 0),(.int .u64 0),(.int .u32 0),(.int .u8 0),(.int .u8 0),(.int .u8 0),(.int .u8 0),.nilFunc,(.pointer none),(.int .i32 0),(.int .i32 0)]⟩,⟨.other,(.sc .any),1,8,[(.pointer none)]⟩]
def C:Ctx:={P:=vV,T:=tbl,tup:=[(0,[]),(25,[(.agg [(.int .i64),(.int .i64),(.int .i64)]),(.sc (.int .i64)),(.sc .slc)]),(31,[(.sc .ptr),(.sc (.int .i64))]),(62,[(.sc .slc),(.sc (.int .i64))]),(67,[(.sc .slc),(.sc .bool)]),(70,[(.agg [(.int .i64),(.int .i64),(.int .i64),.slc]),(.sc (.int .i64))]),(74,[(.sc (.int .i64)),(.sc (.int .i64))]),(81,[(.sc .slc),(.sc .bool)]),(98,[(.sc .slc),(.sc .bool)]),(107,[(.agg [(.int .i64),(.int .i64),(.int .i64),(.int .i64),(.int .i64),(.int .i64),.slc,.slc]),(.sc .bool)]),(148,[(.sc (.int .i64)),(.sc .bool)]),(152,[(.sc .ptr),(.sc (.int .i64))]),(182,[(.sc .slc),(.sc (.int .i64))]),(185,[(.agg [(.int .i64),(.int .i64),(.int .i64),(.int .i64),(.int .i64),(.int .i64),(.int .u32),.slc]),(.sc .bool)]),(194,[(.sc .ptr),(.sc (.int .i64))]),(243,[(.sc .slc),(.sc .slc),(.sc .slc),(.sc (.int .i64))]),(246,[(.sc .slc),(.sc .slc)]),(256,[(.sc (.int .i64)),(.sc .slc),(.sc .bool)]),(261,[(.sc .slc),(.sc .bool),(.sc (.int .i64))]),(286,[(.sc (.int .i64)),(.sc (.int .i64))]),(297,[(.agg [(.int .i64),(.int .i64),(.int .i64),.slc,.slc]),(.sc .bool)]),(300,[(.sc .slc),(.sc .bool)]),(311,[(.agg [.slc,.slc,.slc]),(.sc .bool)]),(322,[(.arr .bool),(.sc .bool)]),(331,[(.sc .slc),(.sc (.int .i64))]),(374,[(.agg [(.int .i64),(.int .i64)]),(.sc .bool)]),(377,[(.sc (.int .i32)),(.sc (.int .i64))]),(391,[(.sc (.int .i64)),(.sc (.int .i64))])],fns:=[false,false]++qh 336 true++qh 23 false++[true]}
theorem agt:(qC C.T.length).map (lO.seen C.P)=C.T.map lO.told:=by kernel_rfl
theorem aex:C.P.follows .mixedOrders=true:=by kernel_rfl
theorem agu:(C.P.funcs.toList.map fun f=>!(f.name== "runtime.NumGoroutine")&&f.body.isSome)=C.fns:=by kernel_rfl
theorem ae:C.Ok:={tbl:=agt,mixed:=aex,fns:=agu}
abbrev kv:FuncId:=4
def kL(cd:Sl)(bq:Sl)(br:Int)(a8:Int):Prop:=
 af vV 7 #[cd] (.many [(.agg [(.int .i64),(.int .i64),(.int .i64)]),aY,ct]) h fun m h1=>
 aO vV (qJ 24 true (.tuple #[])) h1 fun o h2=>
 ag vV (qf 24 o m.1) h2 fun _ h3=>
 aL (σ:=Int) (fun n K1 Z=>
 Br (n<(m.2.2.len:Int))
 (∃a4,(m.2.2.ptr=some a4/\0<=n/\n<(m.2.2.len:Int))/\
 ∃x5,cellOf Z (a4.add (n.toNat*1))=some (vL vR x5)/\
 af vV 10 #[x5,(vL vR (25:Int))] bs Z fun r6 h5=>
 ∃a7,(m.2.2.ptr=some a7/\0<=n/\n<(m.2.2.len:Int))/\
 ag vV (qf 3 (a7.add (n.toNat*1)) (qc vR (6+r6))) h5 fun _ h6=>
 K1 (qc vR (n+1)) h6)
 (bf (σ:=Option Addr×Int) (fun b h9=>
 bf (σ:=Unit) (fun _ Y=>
 ∃Q:bF,aj Y o 0 Q/\
 af vV 23 #[Q,bq,(vL vR (8:Int)),false] aJ Y fun y ad=>
 aL (σ:=Int) (fun j K4 x=>
 Br (j<(y.len:Int))
 (∃F,(y.ptr=some F/\0<=j/\j<(y.len:Int))/\
 ∃T:Ca,aj x (F.add (j.toNat*9)) 0 T/\
 aO vV (qJ 57 true (.tuple #[])) x fun k bk=>
 ag vV (qf 57 k T) bk fun _ i=>
 ∃p,cellOf i k=some (vL vR p)/\
 Br (p==1)
 (∃V:ByteArray,cellOf i (k.add 1)=some (vO V)/\
 ∃H:Sl,cellOf i (k.add 2)=some (H:Value)/\
 af vV 13 #[b.1,V,H] bs i fun _ a3=>
 K4 (qc vR (j+1)) a3)
 (Br (p==3)
 (∃G:ByteArray,cellOf i (k.add 1)=some (vO G)/\
 af vV 24 #[b.1,G] bs i fun _ ap=>
 K4 (qc vR (j+1)) ap)
 (K4 (qc vR (j+1)) i)))
 (af vV 19 #[b.1] DE x fun cc b4=>
 aO vV (qJ 47 true (.tuple #[])) b4 fun a a0=>
 ag vV (qf 47 a cc) a0 fun _ bb=>
 af vV 25 #[b.1] aJ bb fun z b7=>
 aL (σ:=Sl×Int) (fun e K5 l=>
 Br (e.2<(z.len:Int))
 (∃K,(z.ptr=some K/\0<=e.2/\e.2<(z.len:Int))/\
 ∃P:ByteArray,cellOf l (K.add (e.2.toNat*1))=some (vO P)/\
 af vV 26 #[b.1,P] (.many [ct,aY]) l fun L N=>
 Br (L.2 !=0)
 (R false N)
 (aw vV (qt 59 1 #[(0,L.1)]) aJ N fun bd a9=>
 aw vV (qq #[59,59] 59 #[e.1,bd]) aJ a9 fun t ah=>
 K5 ((⟨t.ptr,t.len,t.cap⟩:Sl),qc vR (e.2+1)) ah))
 (∃W,cellOf l o=some (vL vR W)/\
 ∃S,cellOf l (o.add 2)=some (vL vR S)/\
 af vV 10 #[br,(qc vR ((qc vR (6*W))*S))] bs l fun a6 cf=>
 af vV 14 #[a6,a8] aJ cf fun a1 a5=>
 af vV 13 #[b.1,kK,a1] bs a5 fun s f=>
 Br (s==0)
 (af vV 25 #[b.1] aJ f fun ax B=>
 Br ((ax.len:Int)==(qc vR ((e.1.len:Int)+1))) (af vV 27 #[] bO B fun b9 b0=>
 R b9 b0) (R false B))
 (bf (σ:=Unit) (fun _ b2=>
 af vV 25 #[b.1] aJ b2 fun v bl=>
 aL (σ:=Int) (fun g K7 q=>
 Br (g<(v.len:Int))
 (∃a50,(v.ptr=some a50/\0<=g/\g<(v.len:Int))/\
 ∃U:ByteArray,cellOf q (a50.add (g.toNat*1))=some (vO U)/\
 af vV 26 #[b.1,U] (.many [ct,aY]) q fun J r=>
 Br (J.2 !=0) (R false r) (∃a53,(e.1.ptr=some a53/\0<=g/\g<(e.1.len:Int))/\
 ∃A:Sl,cellOf r (a53.add (g.toNat*1))=some (A:Value)/\
 af vV 28 #[J.1,A] bO r fun am D=>
 Br (!am)
 (R false D)
 (K7 (qc vR (g+1)) D)))
 (af vV 25 #[b.1] aJ q fun b6 E=>
 Br ((b6.len:Int)==(e.1.len:Int)) (af vV 27 #[] bO E fun b1 ao=>
 R b1 ao) (R false E))) (0:Int) bl)
 (fun K6=>
 Br (s !=7) (Br (s !=8) ((aq.ok [] f)/\
 (aq.ok [] f)/\
 R false f) (∃d:cz,aj f a 0 d/\
 af vV 19 #[b.1] DE f fun ab X=>
 (aq.ok [(a,d.1),(a.add 1,d.2.1),(a.add 2,d.2.2.1),(a.add 3,d.2.2.2.1),(a.add 4,d.2.2.2.2.1),(a.add 5,d.2.2.2.2.2.1),(a.add 6,d.2.2.2.2.2.2.1),(a.add 7,d.2.2.2.2.2.2.2)] X)/\
 af vV 18 #[ab,d] bO X fun b5 w=>
 (aq.ok [] w)/\
 Br (!b5)
 (R false w)
 (K6 () w))) (∃c:cz,aj f a 0 c/\
 af vV 19 #[b.1] DE f fun b3 I=>
 (aq.ok [(a,c.1),(a.add 1,c.2.1),(a.add 2,c.2.2.1),(a.add 3,c.2.2.2.1),(a.add 4,c.2.2.2.2.1),(a.add 5,c.2.2.2.2.2.1),(a.add 6,c.2.2.2.2.2.2.1),(a.add 7,c.2.2.2.2.2.2.2)] I)/\
 af vV 18 #[b3,c] bO I fun ay u=>
 (aq.ok [] u)/\
 Br (!ay)
 (R false u)
 (K6 () u)))))) ((⟨none,0,0⟩:Sl),(0:Int)) b7)) (0:Int) ad)
 (fun K3=>
 Br (b.2 !=0) (R false h9) (Br (zg b.1)
 (R false h9)
 (K3 () h9))))
 (fun K2=>
 ∃M:bF,aj Z o 0 M/\
 af vV 8 #[] na Z fun r9 h7=>
 (aq.ok [(o,M.1),(o.add 1,M.2.1),(o.add 2,M.2.2)] h7)/\
 af vV 9 #[M,m.2.1,r9,m.2.2] (.many [OV,aY]) h7 fun O h8=>
 (aq.ok [] h8)/\
 K2 (O.1,O.2) h8))) (0:Int) h3
theorem pT(d:Sl)(b:Sl)(a:Int)(c:Int)(e: @kL R h d b a c):ac vV 4 #[d,b,a,c] h R:=ar ae Tryz.func4 (al.tn (al.tn (.two (al.tn (.inn (.loop [(36,aY)] [(12,13),(36,49)] .n))) (.two (.join [(13,OV),(14,aY)] [(13,15),(49,57)] .n) (.two (.join [] [(8,9),(57,63)] .n) (.two (al.tn (.inn (.loop [(67,aY)] [(16,17),(67,88)] .n))) (al.tn (al.tn (.two (al.tn (.inn (.loop [(18,ct),(93,aY)] [(8,9),(18,19),(20,23),(93,110)] .n))) (al.tn (al.tn (.two (.join [] [(8,9),(134,147)] .n) (.two (al.tn (.inn (.loop [(150,aY)] [(8,9),(24,28),(150,173)] .n))) .n))))))))))))) e
abbrev ww:FuncId:=7
def nc(b:Sl):Prop:=
 aO vV (qJ 24 true (.tuple #[])) h fun u I=>
 af vV 37 #[b,(vL vR (0:Int))] bs I fun E x=>
 af vV 37 #[b,(vL vR (1:Int))] bs x fun y h3=>
 af vV 37 #[b,(vL vR (2:Int))] bs h3 fun D z=>
 af vV 36 #[E,y,D] (.one (.agg [(.int .i64),(.int .i64),(.int .i64)])) z fun J G=>
 aO vV (qJ 24 true (.tuple #[])) G fun d A=>
 ag vV (qf 24 d J) A fun _ w=>
 aL (σ:=Sl×Int) (fun i v h8=>
 af vV 37 #[b,(vL vR (4:Int))] bs h8 fun B F=>
 af vV 10 #[B,(vL vR (4:Int))] bs F fun H f=>
 Br (i.2<(qc vR (2+H)))
 (af vV 37 #[b,(qc vR (5+i.2))] bs f fun t m=>
 af vV 10 #[t,(vL vR (50:Int))] bs m fun p l=>
 aw vV (qt 22 1 #[(0,(qc vR (8+p)))]) aJ l fun n o=>
 aw vV (qq #[22,22] 22 #[i.1,n]) aJ o fun g s=>
 v ((⟨g.ptr,g.len,g.cap⟩:Sl),qc vR (i.2+1)) s)
 (∃a:bF,aj f d 0 a/\
 af vV 37 #[b,(vL vR (3:Int))] bs f fun q j=>
 (aq.ok [(d,a.1),(d.add 1,a.2.1),(d.add 2,a.2.2)] j)/\
 af vV 10 #[q,(vL vR (7:Int))] bs j fun r k=>
 (aq.ok [(d,a.1),(d.add 1,a.2.1),(d.add 2,a.2.2)] k)/\
 ag vV (qf 24 u a) k fun _ e=>
 (aq.ok [] e)/\
 ∃c:bF,aj e u 0 c/\
 R (.tuple #[c,r,i.1]) e)) ((⟨none,0,0⟩:Sl),(0:Int)) w
theorem uo(a:Sl)(b: @nc R h a):ac vV 7 #[a] h R:=ar ae Tryz.func7 (al.tn (al.tn (al.tn (al.tn (.two (al.tn (.inn (.loop [(7,ct),(8,aY)] [(7,9),(16,35)] .n))) .n))))) b
abbrev Sh:FuncId:=8
def IK:Prop:=
 aO vV (qL 80 (vQ #[false,false,(vL vR (0:Int)),(vL vR (0:Int))])) h fun a b=>
 R a b
theorem PQ(a: @IK R h):ac vV 8 #[] h R:=ar ae Tryz.func8 .n a
abbrev AB:FuncId:=9
def Cb(F:bF)(b:Int)(d:Option Addr)(a:Sl):Prop:=
 aO vV (qL 24 F) h fun m U=>
 af vV 38 #[a] (.many [ct,ms]) U fun l D=>
 bf (σ:=Unit) (fun _ K=>
 bf (σ:=Option Addr) (fun i N=>
 aL (σ:=Int) (fun f T h8=>
 Br (f<(l.1.len:Int))
 (∃t,(l.1.ptr=some t/\0<=f/\f<(l.1.len:Int))/\
 ∃g,cellOf h8 (t.add (f.toNat*1))=some (vL vR g)/\
 ∃o,(a.ptr=some o/\0<=g/\g<(a.len:Int))/\
 ∃n,cellOf h8 (o.add (g.toNat*1))=some (vL vR n)/\
 ∃v,(i=some v)/\
 ∃s:cz,aj h8 v 0 s/\
 af vV 41 #[s] aJ h8 fun G I=>
 (aq.ok [(o.add (g.toNat*1),n)] I)/\
 Br (n<(G.len:Int))
 (R (.tuple #[(vN none),(vL vR (7:Int))]) I)
 (T (qc vR (f+1)) I))
 (aL (σ:=Int) (fun e P j=>
 Br (e<(l.1.len:Int))
 (∃x,(l.1.ptr=some x/\0<=e/\e<(l.1.len:Int))/\
 ∃c,cellOf j (x.add (e.toNat*1))=some (vL vR c)/\
 ∃a22,(a.ptr=some a22/\0<=c/\c<(a.len:Int))/\
 ∃y,cellOf j (a22.add (c.toNat*1))=some (vL vR y)/\
 ∃r,(i=some r)/\
 af vV 16 #[y,d] na j fun H q=>
 (aq.ok [] q)/\
 (0<=c/\c<((64:Nat):Int))/\
 ag vV (qf 34 ((r.add 10).add (c.toNat*1)) H) q fun _ p=>
 (aq.ok [] p)/\
 P (qc vR (e+1)) p)
 (∃u,(i=some u)/\
 ∃w:cz,aj j u 0 w/\
 af vV 43 #[w,l.1] aJ j fun B E=>
 af vV 42 #[(.func (.func 11) #[i] #[]),B] bs E fun A z=>
 Br (A !=0)
 (R (.tuple #[(vN none),A]) z)
 (R (.tuple #[i,(vL vR (0:Int))]) z))) (0:Int) h8)) (0:Int) N)
 (fun Q=>
 ∃k:bF,aj K m 0 k/\
 af vV 40 #[d] bs K fun V M=>
 (aq.ok [(m,k.1),(m.add 1,k.2.1),(m.add 2,k.2.2)] M)/\
 ∃J:Value,(aI vV (vy 87 #[(0,(vQ #[(vL vR (1:Int)),(vL vR (0:Int)),k.1,k.2.1,k.2.2,b,l.1,(vM none 0 0)])),(1,d),(2,V)]) J)/\
 aO vV (qL 87 J) M fun a9 L=>
 (aq.ok [(m,k.1),(m.add 1,k.2.1),(m.add 2,k.2.2)] L)/\
 Q (some a9) L))
 (fun O=>
 Br (!l.2) (R (.tuple #[(vN none),(vL vR (1:Int))]) D) (∃x3:bF,aj D m 0 x3/\
 af vV 39 #[x3] bO D fun S h3=>
 Br (!S) (R (.tuple #[(vN none),(vL vR (1:Int))]) h3) (Br (b<0) (R (.tuple #[(vN none),(vL vR (1:Int))]) h3) (Br (b>16) (R (.tuple #[(vN none),(vL vR (1:Int))]) h3) (Br (zg d)
 (R (.tuple #[(vN none),(vL vR (1:Int))]) h3)
 (O () h3))))))
theorem JD(d:bF)(b:Int)(c:Option Addr)(a:Sl)(e: @Cb R h d b c a):ac vV 9 #[d,b,c,a] h R:=ar ae Tryz.func9 (al.tn (al.tn (.two (.join [] [(8,10),(23,42)] .n) (.two (.join [(12,OV)] [(12,13),(42,51)] .n) (.two (al.tn (.inn (.loop [(53,aY)] [(8,10),(14,15),(53,69)] .n))) (.two (al.tn (.inn (.loop [(71,aY)] [(16,17),(71,87)] .n))) .n)))))) e
abbrev xd:FuncId:=10
def ne(b:Int)(a:Int):Prop:=
 (a≠0)/\
 bf (σ:=Int) (fun e d=>
 R e d)
 (fun c=>
 Br ((zW b a)<0)
 (c (qc vR ((zW b a)+a)) h)
 (c (zW b a) h))
theorem uq(a:Int)(b:Int)(c: @ne R h a b):ac vV 10 #[a,b] h R:=ar ae Tryz.func10 (al.tn (al.tn (.two (.join [(0,aY)] [(0,1),(8,13)] .n) .n))) c
abbrev cZ:FuncId:=11
def pY(b:Option Addr)(a:Int):Prop:=
 bf (σ:=Unit) (fun _ c=>
 ∃d,(b=some d)/\
 (0<=a/\a<((64:Nat):Int))/\
 ∃x3:Option Addr,cellOf c ((d.add 10).add (a.toNat*1))=some (.pointer x3)/\
 R x3 c)
 (fun e=>
 Br (zg b) (R (vN none) h) (Br (a<0) (R (vN none) h) (Br (a>=64)
 (R (vN none) h)
 (e () h))))
theorem Cc(b:Option Addr)(a:Int)(c: @pY R h b a):ac vV 11 #[b,a] h R:=ar ae Tryz.func11 (al.tn (.two (.join [] [(4,15)] .n) .n)) c
abbrev sD:FuncId:=13
def tV(a:Option Addr)(e:ByteArray)(k:Sl):Prop:=
 af vV 45 #[a,e,k] bs h fun r1 Z=>
 Br (r1 !=0)
 (R r1 Z)
 (∃a2,(a=some a2)/\
 ∃x3,cellOf Z (a2.add 1)=some (vL vR x3)/\
 aO vV (qJ 96 true (.tuple #[])) Z fun a4 h2=>
 ag vV (qf 96 a4 (vQ #[e,x3,(vL vR (k.len:Int)),(vM none 0 0)])) h2 fun _ h3=>
 bf (σ:=Sl×Bool) (fun J h6=>
 Br (!J.2)
 (R (vL vR (8:Int)) h6)
 (ag vV (qf 22 (a4.add 3) J.1) h6 fun _ h7=>
 ∃F:iD,aj h7 a4 0 F/\
 af vV 47 #[a,F,k] (.many [ct,ms]) h7 fun D h8=>
 aO vV (qJ 90 true (.tuple #[])) h8 fun i h9=>
 ag vV (qf 90 i D.1) h9 fun _ g=>
 Br (!D.2)
 (R (vL vR (8:Int)) g)
 (bf (σ:=Addr×Sl) (fun f N=>
 ∃w:cz,aj N f.1 0 w/\
 af vV 41 #[w] aJ N fun ad V=>
 aO vV (qJ 3 true (.tuple #[])) V fun o S=>
 ag vV (qf 3 o (vL vR (ad.len:Int))) S fun _ ah=>
 af vV 50 #[a,f.2,(.func (.func 49) #[] #[o,i])] bO ah fun W A=>
 Br (!W)
 (R (vL vR (7:Int)) A)
 (af vV 51 #[a,f.2,(.func (.func 49) #[] #[o,i])] bs A fun x m=>
 Br (x !=0)
 (R x m)
 (∃v:Sl,cellOf m i=some (v:Value)/\
 af vV 42 #[(.func (.func 11) #[a] #[]),v] bs m fun P n=>
 Br (P !=0)
 (R P n)
 (∃G:cz,aj n f.1 0 G/\
 af vV 52 #[a,G,f.2] bs n fun T Y=>
 R T Y))))
 (fun U=>
 ∃c,(a=some c)/\
 ∃b:cz,aj g c 0 b/\
 ∃d:iD,aj g a4 0 d/\
 (af vV 48 #[b,d] DE g fun O l=>
 (aq.ok [] l)/\
 (af vV 21 #[a] aJ l fun q s=>
 (aq.ok [] s)/\
 aO vV (qJ 47 true (.tuple #[])) s fun L H=>
 (aq.ok [] H)/\
 ag vV (qf 47 L O) H fun _ M=>
 (aq.ok [] M)/\
 U (L,(⟨q.ptr,q.len,q.cap⟩:Sl)) M)/\(aO vV (qJ 47 true (.tuple #[])) l fun a22 y=>
 (aq.ok [] y)/\
 af vV 21 #[a] aJ y fun p K=>
 (aq.ok [] K)/\
 ag vV (qf 47 a22 O) K fun _ E=>
 (aq.ok [] E)/\
 U (a22,(⟨p.ptr,p.len,p.cap⟩:Sl)) E))/\(aO vV (qJ 47 true (.tuple #[])) g fun t u=>
 (aq.ok [(a4,d.1),(a4.add 1,d.2.1),(a4.add 2,d.2.2.1),(a4.add 3,d.2.2.2),(c,b.1),(c.add 1,b.2.1),(c.add 2,b.2.2.1),(c.add 3,b.2.2.2.1),(c.add 4,b.2.2.2.2.1),(c.add 5,b.2.2.2.2.2.1),(c.add 6,b.2.2.2.2.2.2.1),(c.add 7,b.2.2.2.2.2.2.2)] u)/\
 af vV 48 #[b,d] DE u fun X z=>
 (aq.ok [] z)/\
 af vV 21 #[a] aJ z fun r I=>
 (aq.ok [] I)/\
 ag vV (qf 47 t X) I fun _ Q=>
 (aq.ok [] Q)/\
 U (t,(⟨r.ptr,r.len,r.cap⟩:Sl)) Q)))))
 (fun K1=>
 ∃a5,(a=some a5)/\
 ∃B:bF,aj h3 (a5.add 2) 0 B/\
 ∃x7,cellOf h3 (a4.add 1)=some (vL vR x7)/\
 ∃a8,(a=some a8)/\
 ∃x9:bF,aj h3 (a8.add 2) 0 x9/\
 af vV 30 #[x9,(vL vR (k.len:Int))] bs h3 fun ab h4=>
 (aq.ok [(a4.add 1,x7),(a5.add 2,B.1),((a5.add 2).add 1,B.2.1),((a5.add 2).add 2,B.2.2)] h4)/\
 af vV 46 #[B,x7,ab] (.many [ct,ms]) h4 fun j h5=>
 (aq.ok [] h5)/\
 K1 ((⟨j.1.ptr,j.1.len,j.1.cap⟩:Sl),j.2) h5))
theorem Fb(c:Option Addr)(a:ByteArray)(b:Sl)(d: @tV R h c a b):ac vV 13 #[c,a,b] h R:=ar ae Tryz.func13 (al.tn (al.tn (al.tn (.two (.join [(9,ct),(10,ms)] [(9,11),(34,53)] .n) (al.tn (al.tn (al.tn (al.tn (.two (.join [(12,(.sc .adr)),(13,ct)] [(12,14),(66,74)] .n) .n))))))))) d
abbrev Bd:FuncId:=14
def oy(c:Int)(b:Int):Prop:=
 aL (σ:=Sl×Int) (fun a g d=>
 Br (a.2<c)
 (((7:Int)≠0)/\
 (0<=(zW a.2 7))/\
 aw vV (qt 38 1 #[(0,(vL vS (qc vS (qc vR ((qS b (2^min (zW a.2 7).toNat (qk vR)))+(qc vR (a.2*(qc vR ((qA (qk vR) b|||(qA (qk vR) (1:Int))).toNat:Nat)))))))))]) aJ d fun e f=>
 aw vV (qq #[38,38] 38 #[a.1,e]) aJ f fun v3 h3=>
 g ((⟨v3.ptr,v3.len,v3.cap⟩:Sl),qc vR (a.2+1)) h3)
 (R a.1 d)) ((⟨none,0,0⟩:Sl),(0:Int)) h
theorem xP(a:Int)(b:Int)(c: @oy R h a b):ac vV 14 #[a,b] h R:=ar ae Tryz.func14 (al.tn (al.tn (.two (al.tn (.inn (.loop [(5,ct),(6,aY)] [(5,25)] .n))) .n))) c
abbrev Si:FuncId:=16
def IL(a:Int)(b:Option Addr):Prop:=
 bf (σ:=Unit) (fun _ c=>
 aO vV (qL 93 (vQ #[b,a,(vM none 0 0),(vL vR (0:Int)),(vM none 0 0),false,false])) c fun e d=>
 R e d)
 (fun f=>
 Br (a<1) (R (vN none) h) (Br (a>512) (R (vN none) h) (Br (zg b)
 (R (vN none) h)
 (f () h))))
theorem PR(a:Int)(b:Option Addr)(c: @IL R h a b):ac vV 16 #[a,b] h R:=ar ae Tryz.func16 (al.tn (.two (.join [] [(4,15)] .n) .n)) c
abbrev sE:FuncId:=18
def lp(P:cz)(N:cz):Prop:=
 aO vV (qL 47 P) h fun m h1=>
 aO vV (qL 47 N) h1 fun l j=>
 bf (σ:=Unit) (fun _ U=>
 ∃z:Sl,cellOf U (m.add 7)=some (z:Value)/\
 aL (σ:=Int) (fun a K2 n=>
 Br (a<(z.len:Int))
 (bf (σ:=Addr×Addr) (fun i f=>
 ∃v:ByteArray,cellOf f i.1=some (vO v)/\
 ∃K:ByteArray,cellOf f i.2=some (vO K)/\
 Br (!(v.toList==K.toList)) (R false f) (∃q,cellOf f (i.1.add 1)=some (vL vR q)/\
 ∃I,cellOf f (i.2.add 1)=some (vL vR I)/\
 Br (q !=I) (R false f) (∃B,cellOf f (i.1.add 2)=some (vL vR B)/\
 ∃G,cellOf f (i.2.add 2)=some (vL vR G)/\
 Br (B !=G) (R false f) (∃F:Sl,cellOf f (i.1.add 3)=some (F:Value)/\
 ∃J:Sl,cellOf f (i.2.add 3)=some (J:Value)/\
 af vV 61 #[F,J] bO f fun O u=>
 Br (!O)
 (R false u)
 (K2 (qc vR (a+1)) u)))))
 (fun Y=>
 ∃k:Sl,cellOf n (m.add 7)=some (k:Value)/\
 ∃e,(k.ptr=some e/\0<=a/\a<(k.len:Int))/\
 ∃d:iD,aj n (e.add (a.toNat*4)) 0 d/\
 ∃g:Sl,cellOf n (l.add 7)=some (g:Value)/\
 ∃c,(g.ptr=some c/\0<=a/\a<(g.len:Int))/\
 ∃b:iD,aj n (c.add (a.toNat*4)) 0 b/\
 (aO vV (qJ 96 true (.tuple #[])) n fun A V=>
 (aq.ok [(c.add (a.toNat*4),b.1),((c.add (a.toNat*4)).add 1,b.2.1),((c.add (a.toNat*4)).add 2,b.2.2.1),((c.add (a.toNat*4)).add 3,b.2.2.2),(l.add 7,g),(e.add (a.toNat*4),d.1),((e.add (a.toNat*4)).add 1,d.2.1),((e.add (a.toNat*4)).add 2,d.2.2.1),((e.add (a.toNat*4)).add 3,d.2.2.2),(m.add 7,k)] V)/\
 aO vV (qJ 96 true (.tuple #[])) V fun y T=>
 (aq.ok [(c.add (a.toNat*4),b.1),((c.add (a.toNat*4)).add 1,b.2.1),((c.add (a.toNat*4)).add 2,b.2.2.1),((c.add (a.toNat*4)).add 3,b.2.2.2),(l.add 7,g),(e.add (a.toNat*4),d.1),((e.add (a.toNat*4)).add 1,d.2.1),((e.add (a.toNat*4)).add 2,d.2.2.1),((e.add (a.toNat*4)).add 3,d.2.2.2),(m.add 7,k)] T)/\
 ag vV (qf 96 A d) T fun _ h8=>
 (aq.ok [(c.add (a.toNat*4),b.1),((c.add (a.toNat*4)).add 1,b.2.1),((c.add (a.toNat*4)).add 2,b.2.2.1),((c.add (a.toNat*4)).add 3,b.2.2.2),(l.add 7,g)] h8)/\
 ag vV (qf 96 y b) h8 fun _ Z=>
 (aq.ok [] Z)/\
 Y (A,y) Z)/\(aO vV (qJ 96 true (.tuple #[])) n fun a28 L=>
 (aq.ok [(c.add (a.toNat*4),b.1),((c.add (a.toNat*4)).add 1,b.2.1),((c.add (a.toNat*4)).add 2,b.2.2.1),((c.add (a.toNat*4)).add 3,b.2.2.2),(l.add 7,g),(e.add (a.toNat*4),d.1),((e.add (a.toNat*4)).add 1,d.2.1),((e.add (a.toNat*4)).add 2,d.2.2.1),((e.add (a.toNat*4)).add 3,d.2.2.2),(m.add 7,k)] L)/\
 aO vV (qJ 96 true (.tuple #[])) L fun H p=>
 (aq.ok [(c.add (a.toNat*4),b.1),((c.add (a.toNat*4)).add 1,b.2.1),((c.add (a.toNat*4)).add 2,b.2.2.1),((c.add (a.toNat*4)).add 3,b.2.2.2),(l.add 7,g),(e.add (a.toNat*4),d.1),((e.add (a.toNat*4)).add 1,d.2.1),((e.add (a.toNat*4)).add 2,d.2.2.1),((e.add (a.toNat*4)).add 3,d.2.2.2),(m.add 7,k)] p)/\
 ag vV (qf 96 H d) p fun _ o=>
 (aq.ok [(c.add (a.toNat*4),b.1),((c.add (a.toNat*4)).add 1,b.2.1),((c.add (a.toNat*4)).add 2,b.2.2.1),((c.add (a.toNat*4)).add 3,b.2.2.2),(l.add 7,g)] o)/\
 ag vV (qf 96 a28 b) o fun _ E=>
 (aq.ok [] E)/\
 Y (H,a28) E)))
 (R true n)) (0:Int) U)
 (fun K1=>
 ∃x3,cellOf j m=some (vL vR x3)/\
 ∃X,cellOf j l=some (vL vR X)/\
 Br (x3 !=X) (R false j) (∃x5,cellOf j (m.add 1)=some (vL vR x5)/\
 ∃S,cellOf j (l.add 1)=some (vL vR S)/\
 Br (x5 !=S) (R false j) (∃x7:bF,aj j (m.add 2) 0 x7/\
 ∃W:bF,aj j (l.add 2) 0 W/\
 ∃Q:Bool,(jC vV .neq 24 (.tmp 22) (.tmp 24) x7 W (vP Q))/\
 Br Q (R false j) (∃r,cellOf j (m.add 5)=some (vL vR r)/\
 ∃s,cellOf j (l.add 5)=some (vL vR s)/\
 Br (r !=s) (R false j) (∃D:Sl,cellOf j (m.add 6)=some (D:Value)/\
 ∃w:Sl,cellOf j (l.add 6)=some (w:Value)/\
 af vV 61 #[D,w] bO j fun M h3=>
 Br (!M) (R false h3) (∃x:Sl,cellOf h3 (m.add 7)=some (x:Value)/\
 ∃t:Sl,cellOf h3 (l.add 7)=some (t:Value)/\
 Br ((x.len:Int) !=(t.len:Int))
 (R false h3)
 (K1 () h3)))))))
theorem rD(b:cz)(a:cz)(c: @lp R h b a):ac vV 18 #[b,a] h R:=ar ae Tryz.func18 (al.tn (.two (.join [] [(4,5),(8,51)] .n) (.two (al.tn (.inn (.loop [(54,aY)] [(4,8),(54,95)] (al.tn (al.tn (.two (.inn (al.tn (.two (.join [(6,(.sc .adr)),(7,(.sc .adr))] [(6,8),(57,67)] .n) .n))) .n)))))) .n))) c
abbrev nf:FuncId:=19
def nH(c:Option Addr):Prop:=
 aO vV (qJ 47 true (.tuple #[])) h fun d e=>
 Br (zg c)
 (ag vV (qf 47 d (vQ #[(vL vR (0:Int)),(vL vR (0:Int)),(vL vR (0:Int)),(vL vR (0:Int)),(vL vR (0:Int)),(vL vR (0:Int)),(vM none 0 0),(vM none 0 0)])) e fun _ f=>
 ∃b:cz,aj f d 0 b/\
 R b f)
 (∃a3,(c=some a3)/\
 ∃i:cz,aj e a3 0 i/\
 af vV 62 #[i] DE e fun j h3=>
 ag vV (qf 47 d j) h3 fun _ g=>
 ∃a:cz,aj g d 0 a/\
 R a g)
theorem xf(a:Option Addr)(b: @nH R h a):ac vV 19 #[a] h R:=ar ae Tryz.func19 .n b
abbrev Eu:FuncId:=20
def Gp(c:Option Addr)(f:cz):Prop:=
 aO vV (qL 47 f) h fun k n=>
 ∃x2:cz,aj n k 0 x2/\
 af vV 63 #[x2] bO n fun q j=>
 Br (!q)
 (R false j)
 (af vV 57 #[c] aJ j fun t h3=>
 ∃m:cz,aj h3 k 0 m/\
 af vV 41 #[m] aJ h3 fun g r=>
 aL (σ:=Int) (fun b o e=>
 Br (b<(g.len:Int))
 (∃l,(g.ptr=some l/\0<=b/\b<(g.len:Int))/\
 ∃i:Sl,cellOf e (l.add (b.toNat*1))=some (i:Value)/\
 aO vV (qJ 38 true (.tuple #[])) e fun a s=>
 ag vV (qf 38 a i) s fun _ p=>
 af vV 64 #[t,(.func (.func 65) #[] #[a])] bO p fun d h8=>
 Br (!d)
 (R false h8)
 (o (qc vR (b+1)) h8))
 (R true e)) (0:Int) r)
theorem Nq(b:Option Addr)(a:cz)(c: @Gp R h b a):ac vV 20 #[b,a] h R:=ar ae Tryz.func20 (al.tn (al.tn (al.tn (.two (al.tn (.inn (.loop [(16,aY)] [(4,5),(7,8),(16,25)] .n))) .n)))) c
abbrev Fc:FuncId:=21
def sF(a:Option Addr):Prop:=
 Br (zg a)
 (R (vM none 0 0) h)
 (∃b,(a=some b)/\
 ∃x2:Sl,cellOf h (b.add 6)=some (x2:Value)/\
 af vV 66 #[(.func (.func 11) #[a] #[]),x2] aJ h fun d c=>
 R d c)
theorem DF(a:Option Addr)(b: @sF R h a):ac vV 21 #[a] h R:=ar ae Tryz.func21 .n b
abbrev xQ:FuncId:=23
def nI(F:bF)(b:Sl)(f:Int)(e:Bool):Prop:=
 aO vV (qL 24 F) h fun S V=>
 bf (σ:=Sl) (fun D E=>
 R D E)
 (fun J=>
 aL (σ:=Sl×Int) (fun a L B=>
 bf (σ:=Unit) (fun _ h3=>
 bf (σ:=Sl) (fun H u=>
 ∃q:bF,aj u S 0 q/\
 ∃c,(b.ptr=some c/\0<=a.2/\a.2<(b.len:Int))/\
 ∃d,cellOf u (c.add (a.2.toNat*1))=some (vL vR d)/\
 ((5:Int)≠0)/\
 ∃t,(b.ptr=some t/\0<=(qc vR (a.2+1))/\(qc vR (a.2+1))<(b.len:Int))/\
 ∃w:Int,cellOf u (t.add ((qc vR (a.2+1)).toNat*1))=some (vL vR w)/\
 ∃r,(b.ptr=some r/\0<=(qc vR (a.2+2))/\(qc vR (a.2+2))<(b.len:Int))/\
 ∃x:Int,cellOf u (r.add ((qc vR (a.2+2)).toNat*1))=some (vL vR x)/\
 af vV 68 #[q,(qc vR (wC d 5)),w,x] (.one (.agg [(.int .i64),.str,.slc,(.int .i64),(.int .i64),(.int .i64),(.int .u32),.slc,.slc])) u fun G y=>
 (aq.ok [(c.add (a.2.toNat*1),d)] y)/\
 aw vV (qt 53 1 #[(0,G)]) aJ y fun z k=>
 (aq.ok [(c.add (a.2.toNat*1),d)] k)/\
 aw vV (qq #[53,53] 53 #[H,z]) aJ k fun g j=>
 (aq.ok [(c.add (a.2.toNat*1),d)] j)/\
 L ((⟨g.ptr,g.len,g.cap⟩:Sl),qc vR (a.2+3)) j)
 (fun Q=>
 bf (σ:=Bool) (fun P v=>
 Br P
 (∃s,(b.ptr=some s/\0<=a.2/\a.2<(b.len:Int))/\
 ∃o,cellOf v (s.add (a.2.toNat*1))=some (vL vR o)/\
 ((5:Int)≠0)/\
 ∃l,(b.ptr=some l/\0<=(qc vR (a.2+1))/\(qc vR (a.2+1))<(b.len:Int))/\
 ∃m:Int,cellOf v (l.add ((qc vR (a.2+1)).toNat*1))=some (vL vR m)/\
 ∃n,(b.ptr=some n/\0<=(qc vR (a.2+2))/\(qc vR (a.2+2))<(b.len:Int))/\
 ∃p:Int,cellOf v (n.add ((qc vR (a.2+2)).toNat*1))=some (vL vR p)/\
 af vV 67 #[(qc vR (wC o 5)),m,p] (.one (.agg [(.int .i64),.str,.slc,(.int .i64),(.int .i64),(.int .i64),(.int .u32),.slc,.slc])) v fun A M=>
 (aq.ok [(s.add (a.2.toNat*1),o)] M)/\
 aw vV (qt 53 1 #[(0,A)]) aJ M fun I K=>
 (aq.ok [(s.add (a.2.toNat*1),o)] K)/\
 aw vV (qq #[53,53] 53 #[a.1,I]) aJ K fun i h8=>
 (aq.ok [(s.add (a.2.toNat*1),o)] h8)/\
 L ((⟨i.ptr,i.len,i.cap⟩:Sl),qc vR (a.2+3)) h8)
 (Q (⟨a.1.ptr,a.1.len,a.1.cap⟩:Sl) v))
 (fun O=>
 Br e (∃a4,(b.ptr=some a4/\0<=a.2/\a.2<(b.len:Int))/\
 ∃N,cellOf h3 (a4.add (a.2.toNat*1))=some (vL vR N)/\
 af vV 10 #[N,(vL vR (5:Int))] bs h3 fun W T=>
 O (W==4) T) (O false h3))))
 (fun U=>
 Br ((qc vR (a.2+2))<(b.len:Int)) (Br ((a.1.len:Int)<f)
 (U () B)
 (J (⟨a.1.ptr,a.1.len,a.1.cap⟩:Sl) B)) (J (⟨a.1.ptr,a.1.len,a.1.cap⟩:Sl) B))) ((⟨none,0,0⟩:Sl),(0:Int)) V)
theorem xg(d:bF)(c:Sl)(b:Int)(a:Bool)(e: @nI R h d c b a):ac vV 23 #[d,c,b,a] h R:=ar ae Tryz.func23 (al.tn (al.tn (.two (.join [(9,ct)] [(9,72)] (al.tn (.inn (.loop [(9,ct),(10,aY)] [(9,72)] (.two (.join [] [(11,22)] .n) (.two (.inn (.two (.join [(9,ct)] [(9,10),(24,52)] (.two (.join [(32,ms)] [(24,33)] .n) .n)) .n)) .n)))))) .n))) e
abbrev oz:FuncId:=24
def po(a:Option Addr)(b:ByteArray):Prop:=
 af vV 69 #[a] bO h fun q p=>
 Br q
 (R (vL vR (14:Int)) p)
 (af vV 70 #[a,b] bs p fun i e=>
 Br (i<0)
 (R (vL vR (5:Int)) e)
 (∃a3,(a=some a3)/\
 ∃n,cellOf e a3=some (vL vR n)/\
 Br (n>=2147483647)
 (R (vL vR (7:Int)) e)
 (∃a5,(a=some a5)/\
 ∃k:cz,aj e a5 0 k/\
 af vV 62 #[k] DE e fun u h3=>
 aO vV (qJ 47 true (.tuple #[])) h3 fun c s=>
 ag vV (qf 47 c u) s fun _ o=>
 ∃l,cellOf o c=some (vL vR l)/\
 ag vV (qf 3 c (qc vR (l+1))) o fun _ m=>
 ∃d:Sl,cellOf m (c.add 7)=some (d:Value)/\
 af vV 71 #[d,i,(qc vR (i+1))] aJ m fun g r=>
 ag vV (qf 45 (c.add 7) g) r fun _ h8=>
 ∃f:cz,aj h8 c 0 f/\
 af vV 72 #[a,f] bs h8 fun j t=>
 R j t)))
theorem Be(b:Option Addr)(a:ByteArray)(c: @po R h b a):ac vV 24 #[b,a] h R:=ar ae Tryz.func24 .n c
abbrev jq:FuncId:=25
def mu(c:Option Addr):Prop:=
 af vV 69 #[c] bO h fun m e=>
 Br m
 (R (vM none 0 0) e)
 (∃l,(c=some l)/\
 ∃x3:Sl,cellOf e (l.add 7)=some (x3:Value)/\
 aL (σ:=Sl×Int) (fun b n d=>
 Br (b.2<(x3.len:Int))
 (∃a5,(x3.ptr=some a5/\0<=b.2/\b.2<(x3.len:Int))/\
 ∃g:iD,aj d (a5.add (b.2.toNat*4)) 0 g/\
 aO vV (qJ 96 true (.tuple #[])) d fun j h3=>
 ag vV (qf 96 j g) h3 fun _ i=>
 ∃k:ByteArray,cellOf i j=some (vO k)/\
 af vV 73 #[k] (.one KX) i fun r q=>
 aw vV (qt 60 1 #[(0,r)]) aJ q fun f p=>
 aw vV (qq #[60,60] 60 #[b.1,f]) aJ p fun a o=>
 n ((⟨a.ptr,a.len,a.cap⟩:Sl),qc vR (b.2+1)) o)
 (R b.1 d)) ((⟨none,0,0⟩:Sl),(0:Int)) e)
theorem pq(a:Option Addr)(b: @mu R h a):ac vV 25 #[a] h R:=ar ae Tryz.func25 (al.tn (al.tn (al.tn (.two (al.tn (.inn (.loop [(3,ct),(14,aY)] [(3,4),(5,6),(14,25)] .n))) .n)))) b
abbrev sG:FuncId:=26
def tW(c:Option Addr)(g:ByteArray):Prop:=
 af vV 69 #[c] bO h fun Q O=>
 Br Q
 (R (.tuple #[(vM none 0 0),(vL vR (14:Int))]) O)
 (af vV 70 #[c,g] bs O fun A L=>
 Br (A<0)
 (R (.tuple #[(vM none 0 0),(vL vR (5:Int))]) L)
 (af vV 74 #[c] bO L fun T h3=>
 Br (!T)
 (R (.tuple #[(vM none 0 0),(vL vR (11:Int))]) h3)
 (∃a4,(c=some a4)/\
 ∃J:Sl,cellOf h3 (a4.add 7)=some (J:Value)/\
 ∃M,(J.ptr=some M/\0<=A/\A<(J.len:Int))/\
 ∃P:iD,aj h3 (M.add (A.toNat*4)) 0 P/\
 aO vV (qJ 96 true (.tuple #[])) h3 fun n U=>
 ag vV (qf 96 n P) U fun _ N=>
 ∃z:Sl,cellOf N (n.add 3)=some (z:Value)/\
 aL (σ:=Sl×Int) (fun d S l=>
 Br (d.2<(z.len:Int))
 (∃v,(z.ptr=some v/\0<=d.2/\d.2<(z.len:Int))/\
 ∃u,cellOf l (v.add (d.2.toNat*1))=some (vL vR u)/\
 bf (σ:=Sl) (fun B G=>
 bf (σ:=Sl×Int) (fun t o=>
 Br (t.2 !=0)
 (R (.tuple #[(vM none 0 0),(vL vR (11:Int))]) o)
 (aw vV (qt 59 1 #[(0,t.1)]) aJ o fun v25 E=>
 aw vV (qq #[59,59] 59 #[d.1,v25]) aJ E fun j H=>
 S ((⟨j.ptr,j.len,j.cap⟩:Sl),qc vR (d.2+1)) H))
 (fun W=>
 ∃e,(c=some e)/\
 ∃f:bF,aj G (e.add 2) 0 f/\
 ∃x,cellOf G (n.add 1)=some (vL vR x)/\
 af vV 77 #[x,d.2,u] (.one (.sc (.int .u32))) G fun I y=>
 (aq.ok [(e.add 2,f.1),((e.add 2).add 1,f.2.1),((e.add 2).add 2,f.2.2)] y)/\
 af vV 76 #[f,(vL vT I),B] (.many [ct,aY]) y fun i p=>
 (aq.ok [] p)/\
 W ((⟨i.1.ptr,i.1.len,i.1.cap⟩:Sl),i.2) p))
 (fun V=>
 ∃b,(c=some b)/\
 ∃a:cz,aj l b 0 a/\
 ∃k,cellOf l (n.add 1)=some (vL vR k)/\
 af vV 21 #[c] aJ l fun F K=>
 (aq.ok [(n.add 1,k),(b,a.1),(b.add 1,a.2.1),(b.add 2,a.2.2.1),(b.add 3,a.2.2.2.1),(b.add 4,a.2.2.2.2.1),(b.add 5,a.2.2.2.2.2.1),(b.add 6,a.2.2.2.2.2.2.1),(b.add 7,a.2.2.2.2.2.2.2)] K)/\
 af vV 75 #[(.func (.func 11) #[c] #[]),F,a,k,d.2] aJ K fun m h8=>
 (aq.ok [] h8)/\
 V (⟨m.ptr,m.len,m.cap⟩:Sl) h8))
 (∃s,(c=some s)/\
 ∃q:bF,aj l (s.add 2) 0 q/\
 ∃w,cellOf l (n.add 2)=some (vL vR w)/\
 af vV 78 #[q,d.1,w] (.many [ct,ms]) l fun D r=>
 (aq.ok [] r)/\
 R (.tuple #[D.1,(vL vR (0:Int))]) r)) ((⟨none,0,0⟩:Sl),(0:Int)) N)))
theorem Fe(b:Option Addr)(a:ByteArray)(c: @tW R h b a):ac vV 26 #[b,a] h R:=ar ae Tryz.func26 (al.tn (al.tn (al.tn (al.tn (al.tn (al.tn (al.tn (.two (al.tn (.inn (.loop [(8,ct),(37,aY)] [(4,6),(8,14),(37,76)] (al.tn (al.tn (.two (.inn (al.tn (.two (.join [(11,ct)] [(11,12),(42,54)] .n) (.two (.join [(12,ct),(13,aY)] [(12,14),(54,69)] .n) .n)))) .n)))))) .n)))))))) c
abbrev xh:FuncId:=27
def ng:Prop:=
 af vV 8 #[] na h fun e d=>
 aw vV (qt 22 1 #[(0,(vL vR (5:Int)))]) aJ d fun c g=>
 af vV 9 #[(vQ #[(vL vR (1:Int)),(vL vR (1:Int)),(vL vR (1:Int))]),(vL vR (0:Int)),e,c] (.many [OV,aY]) g fun a h3=>
 Br (a.2==0) (Br (!(zg a.1)) (af vV 25 #[a.1] aJ h3 fun i b=>
 Br ((i.len:Int)==0) (af vV 21 #[a.1] aJ b fun f j=>
 R (vP ((f.len:Int)==1)) j) (R false b)) (R false h3)) (R false h3)
theorem ur(a: @ng R h):ac vV 27 #[] h R:=ar ae Tryz.func27 .n a
abbrev sH:FuncId:=28
def lq(a:Sl)(c:Sl):Prop:=
 Br ((a.len:Int) !=(c.len:Int))
 (R false h)
 (aL (σ:=Int) (fun b g d=>
 Br (b<(a.len:Int))
 (∃f,(a.ptr=some f/\0<=b/\b<(a.len:Int))/\
 ∃x3,cellOf d (f.add (b.toNat*1))=some (vL vS x3)/\
 ∃a4,(c.ptr=some a4/\0<=b/\b<(c.len:Int))/\
 ∃e,cellOf d (a4.add (b.toNat*1))=some (vL vS e)/\
 Br (x3 !=e)
 (R false d)
 (g (qc vR (b+1)) d))
 (R true d)) (0:Int) h)
theorem rE(b:Sl)(a:Sl)(c: @lq R h b a):ac vV 28 #[b,a] h R:=ar ae Tryz.func28 (al.tn (al.tn (.two (al.tn (.inn (.loop [(13,aY)] [(4,6),(13,26)] .n))) .n))) c
abbrev Nr:FuncId:=30
def Ev(b:bF)(a:Int):Prop:=
 aO vV (qL 24 b) h fun f e=>
 bf (σ:=Unit) (fun _ h3=>
 ∃d:bF,aj h3 f 0 d/\
 af vV 81 #[d] bs h3 fun g j=>
 (g≠0)/\
 R (qc vR ((qc vR (wC (qc vR (a-1)) g))+1)) j)
 (fun k=>
 ∃x2:bF,aj e f 0 x2/\
 af vV 39 #[x2] bO e fun i c=>
 Br (!i) (R (vL vR (0:Int)) c) (Br (a<=0)
 (R (vL vR (0:Int)) c)
 (k () c)))
theorem La(b:bF)(a:Int)(c: @Ev R h b a):ac vV 30 #[b,a] h R:=ar ae Tryz.func30 (al.tn (.two (.join [] [(4,12)] .n) .n)) c
abbrev Ff:FuncId:=34
def sI(a:Option Addr):Prop:=
 af vV 86 #[a] bO h fun m b=>
 Br (!m)
 (R false b)
 (∃k,(a=some k)/\
 ∃x3:Bool,cellOf b (k.add 1)=some (vP x3)/\
 Br (!x3)
 (R true b)
 (∃a4,(a=some a4)/\
 ∃f,cellOf b (a4.add 2)=some (vL vR f)/\
 Br (f==0)
 (∃i,(a=some i)/\
 ag vV (qf 4 i true) b fun _ g=>
 ∃l,(a=some l)/\
 ∃j,cellOf g (l.add 3)=some (vL vR j)/\
 ∃a9,(a=some a9)/\
 ag vV (qf 3 (a9.add 3) (qc vR (j+1))) g fun _ h3=>
 R false h3)
 (∃c,(a=some c)/\
 ∃d,cellOf b (c.add 2)=some (vL vR d)/\
 ∃e,(a=some e)/\
 ag vV (qf 3 (e.add 2) (qc vR (d-1))) b fun _ n=>
 R true n)))
theorem DG(a:Option Addr)(b: @sI R h a):ac vV 34 #[a] h R:=ar ae Tryz.func34 .n b
abbrev xR:FuncId:=36
def nJ(d:Int)(c:Int)(b:Int):Prop:=
 aO vV (qJ 24 true (.tuple #[])) h fun e g=>
 af vV 10 #[d,(vL vR (6:Int))] bs g fun m i=>
 af vV 10 #[c,(vL vR (3:Int))] bs i fun j h3=>
 af vV 10 #[b,(vL vR (9:Int))] bs h3 fun k l=>
 ag vV (qf 24 e (vQ #[(qc vR (1+m)),(qc vR (1+j)),(qc vR (1+k))])) l fun _ f=>
 ∃a:bF,aj f e 0 a/\
 R a f
theorem xi(b:Int)(a:Int)(c:Int)(d: @nJ R h b a c):ac vV 36 #[b,a,c] h R:=ar ae Tryz.func36 .n d
end
end Go.Proofs.YtdhamoojccmbdaaGreatDoor
