/- Part of the proofs that the laws of this seat answer true whatever the input reads, and leave it as it was; no condition. -/
import Derived.Test.YtdhamoojccmbdaaGreatDoorPlA
import Derived.Test.YtdhamoojccmbdaaGreatDoorProg
set_option linter.unusedVariables false
set_option linter.unusedSimpArgs false
open Go.Proofs.Tryz renaming prog -> xl
open Go.Value renaming agg -> xg, bool -> xf, int -> vX, pointer -> vZ, slice -> vY, string -> xd
open Go.IntKind renaming bits -> qk, i64 -> xh, u32 -> xj, u8 -> xi, wrap -> qc
open List renaming range -> qC, replicate -> qh, toArray -> yb
open Go.Instr renaming alloc -> qK, box -> qL, build -> vI, buildSlice -> qq, lookup -> vM, makeMap -> vG, mapUpdate -> vk, storeAt -> qf
open Go.Builtin renaming append_ -> qt, delete_ -> vl, len_ -> vw
open Option renaming isNone -> zi
open Int renaming fdiv -> qT, tdiv -> wH, tmod -> zX
open BitVec renaming ofInt -> qA
set_option maxRecDepth 1000000
namespace Go.Proofs.YtdhamoojccmbdaaGreatDoor
noncomputable section
open Go Go.Vc Go.Proofs
instance:Coe Int Value:=⟨fun x=>vX xh x⟩
instance:Coe Sl Value:=⟨fun s=>vY s.ptr s.len s.cap⟩
instance:Coe ByteArray Value:=⟨.string⟩
instance:Coe (Option Addr) Value:=⟨.pointer⟩
instance:Coe Addr Value:=⟨fun a=>vZ (some a)⟩
instance:Coe Bool Value:=⟨.bool⟩
instance:Coe (Int×Int×Int) (List Value):=⟨fun x=>[x.1,x.2.1,x.2.2]⟩
instance:Coe (Int×Int×Int) Value:=⟨fun x=>xg (yb x)⟩
instance:Coe (Int×Int×Int×Int×Int×Int×Sl×Sl) (List Value):=⟨fun x=>[x.1,x.2.1,x.2.2.1,x.2.2.2.1,x.2.2.2.2.1,x.2.2.2.2.2.1,x.2.2.2.2.2.2.1,x.2.2.2.2.2.2.2]⟩
instance:Coe (Int×Int×Int×Int×Int×Int×Sl×Sl) Value:=⟨fun x=>xg (yb x)⟩
instance:Coe (Int×ByteArray×Sl×Int×Int×Int×Int×Sl×Sl) (List Value):=⟨fun x=>[x.1,x.2.1,x.2.2.1,x.2.2.2.1,x.2.2.2.2.1,x.2.2.2.2.2.1,(vX xj x.2.2.2.2.2.2.1),x.2.2.2.2.2.2.2.1,x.2.2.2.2.2.2.2.2]⟩
instance:Coe (Int×ByteArray×Sl×Int×Int×Int×Int×Sl×Sl) Value:=⟨fun x=>xg (yb x)⟩
instance:Coe (Int×Int×Int×Sl) (List Value):=⟨fun x=>[x.1,x.2.1,x.2.2.1,x.2.2.2]⟩
instance:Coe (Int×Int×Int×Sl) Value:=⟨fun x=>xg (yb x)⟩
instance:Coe (ByteArray×Int×Int×Sl) (List Value):=⟨fun x=>[x.1,x.2.1,x.2.2.1,x.2.2.2]⟩
instance:Coe (ByteArray×Int×Int×Sl) Value:=⟨fun x=>xg (yb x)⟩
instance:Coe (Int×Int×Int×Int×Int×Int×Int×Sl) (List Value):=⟨fun x=>[x.1,x.2.1,x.2.2.1,x.2.2.2.1,x.2.2.2.2.1,x.2.2.2.2.2.1,(vX xj x.2.2.2.2.2.2.1),x.2.2.2.2.2.2.2]⟩
instance:Coe (Int×Int×Int×Int×Int×Int×Int×Sl) Value:=⟨fun x=>xg (yb x)⟩
instance:Coe (Int×Sl) (List Value):=⟨fun x=>[x.1,x.2]⟩
instance:Coe (Int×Sl) Value:=⟨fun x=>xg (yb x)⟩
instance:Coe (Int×Int×Int×Sl×Sl) (List Value):=⟨fun x=>[x.1,x.2.1,x.2.2.1,x.2.2.2.1,x.2.2.2.2]⟩
instance:Coe (Int×Int×Int×Sl×Sl) Value:=⟨fun x=>xg (yb x)⟩
instance:Coe (Sl×Sl) (List Value):=⟨fun x=>[x.1,x.2]⟩
instance:Coe (Sl×Sl) Value:=⟨fun x=>xg (yb x)⟩
instance:Coe (Sl×Sl×Sl) (List Value):=⟨fun x=>[x.1,x.2.1,x.2.2]⟩
instance:Coe (Sl×Sl×Sl) Value:=⟨fun x=>xg (yb x)⟩
instance:Coe (Int×Int) (List Value):=⟨fun x=>[x.1,x.2]⟩
instance:Coe (Int×Int) Value:=⟨fun x=>xg (yb x)⟩
abbrev bH:=Int×Int×Int
abbrev cV:=Int×Int×Int×Int×Int×Int×Sl×Sl
abbrev jg:=ByteArray×Int×Int×Sl
abbrev ee:=Int×Int×Int×Int×Int×Int×Int×Sl
abbrev CJ:=Int×ByteArray×Sl×Int×Int×Int×Int×Sl×Sl
abbrev Tu6:=Int×Int×Int×Bool×Bool
abbrev Tq:Rt:=.one (.agg [(.int .i64),(.int .i64),(.int .i64),(.int .i64),(.int .i64),(.int .i64),.slc,.slc])
abbrev aK:Rt:=.one (.sc .slc)
abbrev bt:Rt:=.one (.sc (.int .i64))
abbrev mL:Rt:=.one (.sc .ptr)
abbrev bX:Rt:=.one (.sc .bool)
abbrev iC:Rt:=.many []
abbrev cu:Ty:=.sc .slc
abbrev ba:Ty:=.sc (.int .i64)
abbrev LX:Ty:=.sc .ptr
abbrev lI:Ty:=.sc .bool
abbrev LY:Ty:=.sc .str
variable {R:Value->Heap->Prop} {h:Heap}
def aaZ:ByteArray:=⟨#[0]⟩
def afH:ByteArray:=⟨#[97]⟩
def afI:ByteArray:=⟨#[98]⟩
def YB:ByteArray:=⟨#[99,97,116,45,55]⟩
def afJ:ByteArray:=⟨#[100]⟩
def Ha:ByteArray:=⟨#[101,49,50,51,52,53,54,55,56,57,48,49]⟩
def nZ:ByteArray:=⟨#[]⟩
abbrev aT:Nat:=3
abbrev gA:Nat:=4
abbrev aC:Nat:=5
abbrev gB:Nat:=9
abbrev oD:Nat:=22
abbrev aP:Nat:=24
abbrev nK:Nat:=29
abbrev Jg:Nat:=34
abbrev aH:Nat:=38
abbrev Oo:Nat:=45
abbrev aF:Nat:=47
abbrev QR:Nat:=53
abbrev eE:Nat:=57
abbrev dz:Nat:=59
abbrev Vz:Nat:=60
abbrev CK:Nat:=66
abbrev dP:Nat:=69
abbrev bD:Nat:=80
abbrev fS:Nat:=87
abbrev fx:Nat:=90
abbrev cE:Nat:=93
abbrev aV:Nat:=96
abbrev dK:Nat:=102
abbrev LZ:Nat:=125
abbrev Ma:Nat:=131
abbrev bc:Nat:=134
abbrev jB:Nat:=176
abbrev VA:Nat:=197
abbrev gd:Nat:=211
abbrev Oq:Nat:=214
abbrev Hb:Nat:=215
abbrev jh:Nat:=219
abbrev VB:Nat:=230
abbrev VC:Nat:=233
abbrev dL:Nat:=235
abbrev fL:Nat:=236
abbrev QS:Nat:=237
abbrev nl:Nat:=239
abbrev Bl:Nat:=241
abbrev aba:Nat:=242
abbrev VD:Nat:=270
abbrev abb:Nat:=272
abbrev gC:Nat:=275
abbrev fy:Nat:=281
abbrev iJ:Nat:=309
abbrev cS:Nat:=315
abbrev fm:Nat:=328
abbrev mu:Nat:=372
abbrev aR:TI:=⟨.fn,(.sc .fn),1,8,[.nilFunc]⟩
abbrev ti1:TI:=⟨.int .i64,(.sc (.int .i64)),1,8,[(.int .i64 0)]⟩
abbrev ti2:TI:=⟨.int .u8,(.sc (.int .u8)),1,1,[(.int .u8 0)]⟩
abbrev ti3:TI:=⟨.str,(.sc .str),1,16,[(.string ⟨#[]⟩)]⟩
abbrev ti4:TI:=⟨.int .u64,(.sc (.int .u64)),1,8,[(.int .u64 0)]⟩
abbrev ti5:TI:=⟨.int .i32,(.sc (.int .i32)),1,4,[(.int .i32 0)]⟩
abbrev ti6:TI:=⟨.other,(.sc .any),1,0,[(.tuple #[(.pointer none),(.int .i64 0)])]⟩
abbrev ti7:TI:=⟨.other,(.sc .any),1,0,[(.tuple #[(.slice none 0 0),(.int .i64 0)])]⟩
abbrev ti8:TI:=⟨.other,(.sc .any),1,0,[(.tuple #[(.slice none 0 0),(.bool .false)])]⟩
abbrev ti9:TI:=⟨.other,(.sc .any),1,0,[(.tuple #[(.int .i64 0),(.int .i64 0)])]⟩
abbrev YC:TI:=⟨.struct [(0,3),(1,38)],(.agg [(.int .i64),.slc]),2,32,[(.int .i64 0),(.slice none 0 0)]⟩
def tbl:mh:=[⟨.other,(.sc .any),1,0,[(.tuple #[])]⟩,aR,ti1,ti1,⟨.bool,(.sc .bool),1,1,[(.bool .false)]⟩,ti2,ti2,⟨.struct [(0,2),(1,3),(2,4),(3,6)],(.agg [(.int .i64),(.int .i64),.bool,(.int .u8)]),4,24,[(.int .i64 0),(.int .i64 0),(.bool .false),(.int .u8 0)]⟩,⟨.struct [(0,2),(1,3),(2,4),(3,6)],(.agg [(.int .i64),(.int .i64),.bool,(.int .u8)]),4,24,[(.int .i64 0),(.int .i64 0),(.bool .false),(.int .u8 0)]⟩,ti3,ti3,ti3,ti4,⟨.struct [(0,9),(1,12)],(.agg [.str,(.int .u64)]),2,24,[(.string ⟨#[]⟩),(.int .u64 0)]⟩,⟨.struct [(0,9),(1,12)],(.agg [.str,(.int .u64)]),2,24,[(.string ⟨#[]⟩),(.int .u64 0)]⟩,⟨.ptr 412,(.sc .ptr),1,8,[(.pointer none)]⟩,⟨.ptr 415,(.sc .ptr),1,8,[(.pointer none)]⟩,⟨.ptr 422,(.sc .ptr),1,8,[(.pointer none)]⟩,⟨.struct [(0,17)],(.agg [.ptr]),1,8,[(.pointer none)]⟩,⟨.struct [(0,17)],(.agg [.ptr]),1,8,[(.pointer none)]⟩,⟨.other,(.sc .any),1,16,[.nilIface]⟩,ti5,⟨.slice 3,(.sc .slc),1,24,[(.slice none 0 0)]⟩,⟨.struct [(0,3),(1,3),(2,3)],(.agg [(.int .i64),(.int .i64),(.int .i64)]),3,24,[(.int .i64 0),(.int .i64 0),(.int .i64 0)]⟩,⟨.struct [(0,3),(1,3),(2,3)],(.agg [(.int .i64),(.int .i64),(.int .i64)]),3,24,[(.int .i64 0),(.int .i64 0),(.int .i64 0)]⟩,⟨.other,(.sc .any),1,0,[(.tuple #[(.agg #[(.int .i64 0),(.int .i64 0),(.int .i64 0)]),(.int .i64 0),(.slice none 0 0)])]⟩,aR,⟨.ptr 80,(.sc .ptr),1,8,[(.pointer none)]⟩,aR,⟨.ptr 87,(.sc .ptr),1,8,[(.pointer none)]⟩,ti1,ti6,aR,aR,⟨.ptr 93,(.sc .ptr),1,8,[(.pointer none)]⟩,aR,aR,aR,⟨.slice 5,(.sc .slc),1,24,[(.slice none 0 0)]⟩,aR,⟨.slice 34,(.sc .slc),1,24,[(.slice none 0 0)]⟩,aR,aR,aR,aR,⟨.slice 96,(.sc .slc),1,24,[(.slice none 0 0)]⟩,⟨.struct [(0,3),(1,3),(2,24),(5,3),(6,22),(7,45)],(.agg [(.int .i64),(.int .i64),(.int .i64),(.int .i64),(.int .i64),(.int .i64),.slc,.slc]),8,96,[(.int .i64 0),(.int .i64 0),(.int .i64 0),(.int .i64 0),(.int .i64 0),(.int .i64 0),(.slice none 0 0),(.slice none 0 0)]⟩,⟨.struct [(0,3),(1,3),(2,24),(5,3),(6,22),(7,45)],(.agg [(.int .i64),(.int .i64),(.int .i64),(.int .i64),(.int .i64),(.int .i64),.slc,.slc]),8,96,[(.int .i64 0),(.int .i64 0),(.int .i64 0),(.int .i64 0),(.int .i64 0),(.int .i64 0),(.slice none 0 0),(.slice none 0 0)]⟩,aR,aR,aR,aR,aR,⟨.slice 57,(.sc .slc),1,24,[(.slice none 0 0)]⟩,aR,⟨.int .u32,(.sc (.int .u32)),1,4,[(.int .u32 0)]⟩,⟨.struct [(0,3),(1,9),(2,38),(3,3),(4,3),(5,3),(6,55),(7,22),(8,22)],(.agg [(.int .i64),.str,.slc,(.int .i64),(.int .i64),(.int .i64),(.int .u32),.slc,.slc]),9,128,[(.int .i64 0),(.string ⟨#[]⟩),(.slice none 0 0),(.int .i64 0),(.int .i64 0),(.int .i64 0),(.int .u32 0),(.slice none 0 0),(.slice none 0 0)]⟩,⟨.struct [(0,3),(1,9),(2,38),(3,3),(4,3),(5,3),(6,55),(7,22),(8,22)],(.agg [(.int .i64),.str,.slc,(.int .i64),(.int .i64),(.int .i64),(.int .u32),.slc,.slc]),9,128,[(.int .i64 0),(.string ⟨#[]⟩),(.slice none 0 0),(.int .i64 0),(.int .i64 0),(.int .i64 0),(.int .u32 0),(.slice none 0 0),(.slice none 0 0)]⟩,aR,⟨.slice 38,(.sc .slc),1,24,[(.slice none 0 0)]⟩,⟨.slice 9,(.sc .slc),1,24,[(.slice none 0 0)]⟩,aR,ti7,aR,aR,aR,⟨.mp,(.sc .mp),1,8,[(.map none)]⟩,ti8,⟨.struct [(0,3),(1,3),(2,3),(3,22)],(.agg [(.int .i64),(.int .i64),(.int .i64),.slc]),4,48,[(.int .i64 0),(.int .i64 0),(.int .i64 0),(.slice none 0 0)]⟩,⟨.struct [(0,3),(1,3),(2,3),(3,22)],(.agg [(.int .i64),(.int .i64),(.int .i64),.slc]),4,48,[(.int .i64 0),(.int .i64 0),(.int .i64 0),(.slice none 0 0)]⟩,⟨.other,(.sc .any),1,0,[(.tuple #[(.agg #[(.int .i64 0),(.int .i64 0),(.int .i64 0),(.slice none 0 0)]),(.int .i64 0)])]⟩,aR,aR,aR,ti9,aR,aR,aR,aR,⟨.struct [(0,4),(1,4),(2,3),(3,3)],(.agg [.bool,.bool,(.int .i64),(.int .i64)]),4,24,[(.bool .false),(.bool .false),(.int .i64 0),(.int .i64 0)]⟩,⟨.struct [(0,4),(1,4),(2,3),(3,3)],(.agg [.bool,.bool,(.int .i64),(.int .i64)]),4,24,[(.bool .false),(.bool .false),(.int .i64 0),(.int .i64 0)]⟩,ti8,aR,aR,aR,⟨.array 64 34,(.arr .ptr),64,512,qh 64 (.pointer none)⟩,⟨.struct [(0,47),(8,27),(9,3),(10,85)],(.arr .any),74,624,[(.int .i64 0),(.int .i64 0),(.int .i64 0),(.int .i64 0),(.int .i64 0),(.int .i64 0),(.slice none 0 0),(.slice none 0 0),(.pointer none),(.int .i64 0)]++qh 64 (.pointer none)⟩,⟨.struct [(0,47),(8,27),(9,3),(10,85)],(.arr .any),74,624,[(.int .i64 0),(.int .i64 0),(.int .i64 0),(.int .i64 0),(.int .i64 0),(.int .i64 0),(.slice none 0 0),(.slice none 0 0),(.pointer none),(.int .i64 0)]++qh 64 (.pointer none)⟩,aR,aR,⟨.slice 102,(.sc .slc),1,24,[(.slice none 0 0)]⟩,aR,⟨.struct [(0,27),(1,3),(2,59),(3,3),(4,59),(5,4),(6,4)],(.agg [.ptr,(.int .i64),.slc,(.int .i64),.slc,.bool,.bool]),7,80,[(.pointer none),(.int .i64 0),(.slice none 0 0),(.int .i64 0),(.slice none 0 0),(.bool .false),(.bool .false)]⟩,⟨.struct [(0,27),(1,3),(2,59),(3,3),(4,59),(5,4),(6,4)],(.agg [.ptr,(.int .i64),.slc,(.int .i64),.slc,.bool,.bool]),7,80,[(.pointer none),(.int .i64 0),(.slice none 0 0),(.int .i64 0),(.slice none 0 0),(.bool .false),(.bool .false)]⟩,aR,⟨.struct [(0,9),(1,3),(2,3),(3,22)],(.agg [.str,(.int .i64),(.int .i64),.slc]),4,56,[(.string ⟨#[]⟩),(.int .i64 0),(.int .i64 0),(.slice none 0 0)]⟩,⟨.struct [(0,9),(1,3),(2,3),(3,22)],(.agg [.str,(.int .i64),(.int .i64),.slc]),4,56,[(.string ⟨#[]⟩),(.int .i64 0),(.int .i64 0),(.slice none 0 0)]⟩,aR,ti8,aR,aR,YC,YC,aR,aR,aR,aR,⟨.other,(.sc .any),1,0,[(.tuple #[(.agg #[(.int .i64 0),(.int .i64 0),(.int .i64 0),(.int .i64 0),(.int .i64 0),(.int .i64 0),(.slice none 0 0),(.slice none 0 0)]),(.bool .false)])]⟩,aR,aR,aR,aR,aR,aR,aR,aR,aR,aR,aR,aR,aR,aR,aR,aR,aR,⟨.slice 176,(.sc .slc),1,24,[(.slice none 0 0)]⟩,aR,aR,aR,aR,aR,⟨.slice 134,(.sc .slc),1,24,[(.slice none 0 0)]⟩,aR,⟨.struct [(0,3),(1,3),(2,3),(3,24),(6,55),(7,38)],(.agg [(.int .i64),(.int .i64),(.int .i64),(.int .i64),(.int .i64),(.int .i64),(.int .u32),.slc]),8,80,[(.int .i64 0),(.int .i64 0),(.int .i64 0),(.int .i64 0),(.int .i64 0),(.int .i64 0),(.int .u32 0),(.slice none 0 0)]⟩,⟨.struct [(0,3),(1,3),(2,3),(3,24),(6,55),(7,38)],(.agg [(.int .i64),(.int .i64),(.int .i64),(.int .i64),(.int .i64),(.int .i64),(.int .u32),.slc]),8,80,[(.int .i64 0),(.int .i64 0),(.int .i64 0),(.int .i64 0),(.int .i64 0),(.int .i64 0),(.int .u32 0),(.slice none 0 0)]⟩,aR,⟨.ptr 138,(.sc .ptr),1,8,[(.pointer none)]⟩,⟨.struct [(0,29),(1,47),(9,22),(10,3),(11,3),(12,3)],(.agg [.ptr,(.int .i64),(.int .i64),(.int .i64),(.int .i64),(.int .i64),(.int .i64),.slc,.slc,.slc,(.int .i64),(.int .i64),(.int .i64)]),13,152,[(.pointer none),(.int .i64 0),(.int .i64 0),(.int .i64 0),(.int .i64 0),(.int .i64 0),(.int .i64 0),(.slice none 0 0),(.slice none 0 0),(.slice none 0 0),(.int .i64 0),(.int .i64 0),(.int .i64 0)]⟩,⟨.struct [(0,29),(1,47),(9,22),(10,3),(11,3),(12,3)],(.agg [.ptr,(.int .i64),(.int .i64),(.int .i64),(.int .i64),(.int .i64),(.int .i64),.slc,.slc,.slc,(.int .i64),(.int .i64),(.int .i64)]),13,152,[(.pointer none),(.int .i64 0),(.int .i64 0),(.int .i64 0),(.int .i64 0),(.int .i64 0),(.int .i64 0),(.slice none 0 0),(.slice none 0 0),(.slice none 0 0),(.int .i64 0),(.int .i64 0),(.int .i64 0)]⟩,aR,aR,aR,aR,aR,aR,aR,aR,aR,⟨.other,(.sc .any),1,0,[(.tuple #[(.int .i64 0),(.bool .false)])]⟩,aR,aR,⟨.ptr 211,(.sc .ptr),1,8,[(.pointer none)]⟩,ti6,aR,aR,aR,aR,aR,aR,aR,aR,aR,aR,aR,⟨.slice 47,(.sc .slc),1,24,[(.slice none 0 0)]⟩,aR,aR,aR,aR,aR,aR,aR,aR,aR,aR,YC,YC,aR,aR,aR,aR,aR,ti7,aR,aR,⟨.other,(.sc .any),1,0,[(.tuple #[(.agg #[(.int .i64 0),(.int .i64 0),(.int .i64 0),(.int .i64 0),(.int .i64 0),(.int .i64 0),(.int .u32 0),(.slice none 0 0)]),(.bool .false)])]⟩,aR,aR,aR,aR,aR,aR,aR,⟨.ptr 199,(.sc .ptr),1,8,[(.pointer none)]⟩,ti6,aR,aR,⟨.slice 22,(.sc .slc),1,24,[(.slice none 0 0)]⟩,⟨.struct [(0,3),(1,3),(2,55),(3,151),(4,197),(5,22)],(.agg [(.int .i64),(.int .i64),(.int .u32),.ptr,.slc,.slc]),6,80,[(.int .i64 0),(.int .i64 0),(.int .u32 0),(.pointer none),(.slice none 0 0),(.slice none 0 0)]⟩,⟨.struct [(0,3),(1,3),(2,55),(3,151),(4,197),(5,22)],(.agg [(.int .i64),(.int .i64),(.int .u32),.ptr,.slc,.slc]),6,80,[(.int .i64 0),(.int .i64 0),(.int .u32 0),(.pointer none),(.slice none 0 0),(.slice none 0 0)]⟩,aR,ti4,aR,aR,aR,aR,⟨.ptr 275,(.sc .ptr),1,8,[(.pointer none)]⟩,aR,aR,aR,⟨.struct [(0,24),(3,55),(4,59)],(.agg [(.int .i64),(.int .i64),(.int .i64),(.int .u32),.slc]),5,56,[(.int .i64 0),(.int .i64 0),(.int .i64 0),(.int .u32 0),(.slice none 0 0)]⟩,⟨.struct [(0,24),(3,55),(4,59)],(.agg [(.int .i64),(.int .i64),(.int .i64),(.int .u32),.slc]),5,56,[(.int .i64 0),(.int .i64 0),(.int .i64 0),(.int .u32 0),(.slice none 0 0)]⟩,⟨.cpx,(.sc (.cpx .f64)),1,16,[(.complex Go.FloatKind.f64 0 0)]⟩,aR,⟨.slice 219,(.sc .slc),1,24,[(.slice none 0 0)]⟩,⟨.array 64 4,(.arr .bool),64,64,qh 64 (.bool .false)⟩,⟨.flt,(.sc (.flt .f64)),1,8,[(.float Go.FloatKind.f64 0)]⟩,aR,⟨.struct [(0,3),(1,216)],(.agg [(.int .i64),(.flt .f64)]),2,16,[(.int .i64 0),(.float Go.FloatKind.f64 0)]⟩,⟨.struct [(0,3),(1,216)],(.agg [(.int .i64),(.flt .f64)]),2,16,[(.int .i64 0),(.float Go.FloatKind.f64 0)]⟩,aR,aR,aR,aR,aR,aR,aR,aR,aR,aR,⟨.ptr 5,(.sc .ptr),1,8,[(.pointer none)]⟩,aR,aR,⟨.slice 235,(.sc .slc),1,24,[(.slice none 0 0)]⟩,⟨.struct [(0,22),(1,38)],(.agg [.slc,.slc]),2,48,[(.slice none 0 0),(.slice none 0 0)]⟩,⟨.struct [(0,22),(1,38)],(.agg [.slc,.slc]),2,48,[(.slice none 0 0),(.slice none 0 0)]⟩,⟨.ptr 241,(.sc .ptr),1,8,[(.pointer none)]⟩,⟨.slice 315,(.sc .slc),1,24,[(.slice none 0 0)]⟩,⟨.struct [(0,237),(1,22),(2,22)],(.agg [.slc,.slc,.slc]),3,72,[(.slice none 0 0),(.slice none 0 0),(.slice none 0 0)]⟩,⟨.struct [(0,237),(1,22),(2,22)],(.agg [.slc,.slc,.slc]),3,72,[(.slice none 0 0),(.slice none 0 0),(.slice none 0 0)]⟩,⟨.struct [(0,206),(1,24),(4,59),(5,233),(6,239),(9,59),(10,59)],(.agg [.ptr,(.int .i64),(.int .i64),(.int .i64),.slc,.slc,.slc,.slc,.slc,.slc,.slc]),11,200,[(.pointer none),(.int .i64 0),(.int .i64 0),(.int .i64 0),(.slice none 0 0),(.slice none 0 0),(.slice none 0 0),(.slice none 0 0),(.slice none 0 0),(.slice none 0 0),(.slice none 0 0)]⟩,⟨.struct [(0,206),(1,24),(4,59),(5,233),(6,239),(9,59),(10,59)],(.agg [.ptr,(.int .i64),(.int .i64),(.int .i64),.slc,.slc,.slc,.slc,.slc,.slc,.slc]),11,200,[(.pointer none),(.int .i64 0),(.int .i64 0),(.int .i64 0),(.slice none 0 0),(.slice none 0 0),(.slice none 0 0),(.slice none 0 0),(.slice none 0 0),(.slice none 0 0),(.slice none 0 0)]⟩,⟨.slice 4,(.sc .slc),1,24,[(.slice none 0 0)]⟩,⟨.other,(.sc .any),1,0,[(.tuple #[(.slice none 0 0),(.slice none 0 0),(.slice none 0 0),(.int .i64 0)])]⟩,aR,aR,⟨.other,(.sc .any),1,0,[(.tuple #[(.slice none 0 0),(.slice none 0 0)])]⟩,aR,aR,aR,⟨.ptr 328,(.sc .ptr),1,8,[(.pointer none)]⟩,aR,aR,aR,aR,aR,⟨.other,(.sc .any),1,0,[(.tuple #[(.int .i64 0),(.slice none 0 0),(.bool .false)])]⟩,aR,aR,aR,aR,⟨.other,(.sc .any),1,0,[(.tuple #[(.slice none 0 0),(.bool .false),(.int .i64 0)])]⟩,aR,aR,aR,aR,aR,aR,aR,aR,⟨.array 255 5,(.arr (.int .u8)),255,255,qh 255 (.int .u8 0)⟩,aR,⟨.array 256 3,(.arr (.int .i64)),256,2048,qh 256 (.int .i64 0)⟩,aR,⟨.struct [(0,270),(255,272)],(.arr .any),511,2304,qh 255 (.int .u8 0)++qh 256 (.int .i64 0)⟩,⟨.struct [(0,270),(255,272)],(.arr .any),511,2304,qh 255 (.int .u8 0)++qh 256 (.int .i64 0)⟩,aR,aR,⟨.ptr 281,(.sc .ptr),1,8,[(.pointer none)]⟩,aR,⟨.struct [(0,212),(1,212),(2,3),(3,3),(4,4)],(.agg [(.cpx .f64),(.cpx .f64),(.int .i64),(.int .i64),.bool]),5,56,[(.complex Go.FloatKind.f64 0 0),(.complex Go.FloatKind.f64 0 0),(.int .i64 0),(.int .i64 0),(.bool .false)]⟩,⟨.struct [(0,212),(1,212),(2,3),(3,3),(4,4)],(.agg [(.cpx .f64),(.cpx .f64),(.int .i64),(.int .i64),.bool]),5,56,[(.complex Go.FloatKind.f64 0 0),(.complex Go.FloatKind.f64 0 0),(.int .i64 0),(.int .i64 0),(.bool .false)]⟩,aR,aR,aR,ti1,ti9,aR,aR,aR,aR,aR,aR,ti4,⟨.slice 296,(.sc .slc),1,24,[(.slice none 0 0)]⟩,⟨.struct [(0,3),(1,3),(2,3),(3,38),(4,38)],(.agg [(.int .i64),(.int .i64),(.int .i64),.slc,.slc]),5,72,[(.int .i64 0),(.int .i64 0),(.int .i64 0),(.slice none 0 0),(.slice none 0 0)]⟩,⟨.struct [(0,3),(1,3),(2,3),(3,38),(4,38)],(.agg [(.int .i64),(.int .i64),(.int .i64),.slc,.slc]),5,72,[(.int .i64 0),(.int .i64 0),(.int .i64 0),(.slice none 0 0),(.slice none 0 0)]⟩,⟨.other,(.sc .any),1,0,[(.tuple #[(.agg #[(.int .i64 0),(.int .i64 0),(.int .i64 0),(.slice none 0 0),(.slice none 0 0)]),(.bool .false)])]⟩,aR,⟨.mp,(.sc .mp),1,8,[(.map none)]⟩,ti8,aR,aR,aR,aR,aR,aR,⟨.ptr 309,(.sc .ptr),1,8,[(.pointer none)]⟩,⟨.struct [(0,233),(1,242),(2,59)],(.agg [.slc,.slc,.slc]),3,72,[(.slice none 0 0),(.slice none 0 0),(.slice none 0 0)]⟩,⟨.struct [(0,233),(1,242),(2,59)],(.agg [.slc,.slc,.slc]),3,72,[(.slice none 0 0),(.slice none 0 0),(.slice none 0 0)]⟩,aR,⟨.other,(.sc .any),1,0,[(.tuple #[(.agg #[(.slice none 0 0),(.slice none 0 0),(.slice none 0 0)]),(.bool .false)])]⟩,aR,aR,⟨.struct [(0,3),(1,3)],(.agg [(.int .i64),(.int .i64)]),2,16,[(.int .i64 0),(.int .i64 0)]⟩,⟨.struct [(0,3),(1,3)],(.agg [(.int .i64),(.int .i64)]),2,16,[(.int .i64 0),(.int .i64 0)]⟩,aR,aR,aR,aR,⟨.array 256 4,(.arr .bool),256,256,qh 256 (.bool .false)⟩,⟨.array 256 4,(.arr .bool),256,256,qh 256 (.bool .false)⟩,⟨.other,(.sc .any),1,0,[(.tuple #[(.agg #[(.bool .false),(.bool .false),(.bool .false),(.bool .false),(.bool .false),(.bool .false),(.bool .false),(.bool .false),(.bool .false),(.bool .false),(.bool .false),(.bool .false),(.bool .false),(.bool .false),(.bool .false),(.bool .false),(.bool .false),(.bool .false),(.bool .false),(.bool .false),(.bool .false),(.bool .false),(.bool .false),(.bool .false),(.bool .false),(.bool .false),(.bool .false),(.bool .false),(.bool .false),(.bool .false),(.bool .false),(.bool .false),(.bool .false),(.bool .false),(.bool .false),(.bool .false),(.bool .false),(.bool .false),(.bool .false),(.bool .false),(.bool .false),(.bool .false),(.bool .false),(.bool .false),(.bool .false),(.bool .false),(.bool .false),(.bool .false),(.bool .false),(.bool .false),(.bool .false),(.bool .false),(.bool .false),(.bool .false),(.bool .false),(.bool .false),(.bool .false),(.bool .false),(.bool .false),(.bool .false),(.bool .false),(.bool .false),(.bool .false),(.bool .false),(.bool .false),(.bool .false),(.bool .false),(.bool .false),(.bool .false),(.bool .false),(.bool .false),(.bool .false),(.bool .false),(.bool .false),(.bool .false),(.bool .false),(.bool .false),(.bool .false),(.bool .false),(.bool .false),(.bool .false),(.bool .false),(.bool .false),(.bool .false),(.bool .false),(.bool .false),(.bool .false),(.bool .false),(.bool .false),(.bool .false),(.bool .false),(.bool .false),(.bool .false),(.bool .false),(.bool .false),(.bool .false),(.bool .false),(.bool .false),(.bool .false),(.bool .false),(.bool .false),(.bool .false),(.bool .false),(.bool .false),(.bool .false),(.bool .false),(.bool .false),(.bool .false),(.bool .false),(.bool .false),(.bool .false),(.bool .false),(.bool .false),(.bool .false),(.bool .false),(.bool .false),(.bool .false),(.bool .false),(.bool .false),(.bool .false),(.bool .false),(.bool .false),(.bool .false),(.bool .false),(.bool .false),(.bool .false),(.bool .false),(.bool .false),(.bool .false),(.bool .false),(.bool .false),(.bool .false),(.bool .false),(.bool .false),(.bool .false),(.bool .false),(.bool .false),(.bool .false),(.bool .false),(.bool .false),(.bool .false),(.bool .false),(.bool .false),(.bool .false),(.bool .false),(.bool .false),(.bool .false),(.bool .false),(.bool .false),(.bool .false),(.bool .false),(.bool .false),(.bool .false),(.bool .false),(.bool .false),(.bool .false),(.bool .false),(.bool .false),(.bool .false),(.bool .false),(.bool .false),(.bool .false),(.bool .false),(.bool .false),(.bool .false),(.bool .false),(.bool .false),(.bool .false),(.bool .false),(.bool .false),(.bool .false),(.bool .false),(.bool .false),(.bool .false),(.bool .false),(.bool .false),(.bool .false),(.bool .false),(.bool .false),(.bool .false),(.bool .false),(.bool .false),(.bool .false),(.bool .false),(.bool .false),(.bool .false),(.bool .false),(.bool .false),(.bool .false),(.bool .false),(.bool .false),(.bool .false),(.bool .false),(.bool .false),(.bool .false),(.bool .false),(.bool .false),(.bool .false),(.bool .false),(.bool .false),(.bool .false),(.bool .false),(.bool .false),(.bool .false),(.bool .false),(.bool .false),(.bool .false),(.bool .false),(.bool .false),(.bool .false),(.bool .false),(.bool .false),(.bool .false),(.bool .false),(.bool .false),(.bool .false),(.bool .false),(.bool .false),(.bool .false),(.bool .false),(.bool .false),(.bool .false),(.bool .false),(.bool .false),(.bool .false),(.bool .false),(.bool .false),(.bool .false),(.bool .false),(.bool .false),(.bool .false),(.bool .false),(.bool .false),(.bool .false),(.bool .false),(.bool .false),(.bool .false),(.bool .false),(.bool .false),(.bool .false),(.bool .false),(.bool .false),(.bool .false),(.bool .false),(.bool .false),(.bool .false),(.bool .false),(.bool .false),(.bool .false),(.bool .false),(.bool .false),(.bool .false),(.bool .false),(.bool .false),(.bool .false),(.bool .false)]),(.bool .false)])]⟩,aR,aR,⟨.ptr 321,(.sc .ptr),1,8,[(.pointer none)]⟩,aR,⟨.struct [(0,293)],(.agg [(.int .u64)]),1,8,[(.int .u64 0)]⟩,⟨.struct [(0,293)],(.agg [(.int .u64)]),1,8,[(.int .u64 0)]⟩,aR,aR,ti7,aR,⟨.ptr 381,(.sc .ptr),1,8,[(.pointer none)]⟩,aR,⟨.slice 59,(.sc .slc),1,24,[(.slice none 0 0)]⟩,aR,aR,aR,aR,aR,aR,aR,aR,aR,aR,aR,aR,aR,aR,aR,aR,aR,aR,aR,aR,ti4,aR,aR,aR,⟨.ptr 3,(.sc .ptr),1,8,[(.pointer none)]⟩,aR,aR,aR,aR,aR,aR,aR,aR,aR,⟨.ptr 372,(.sc .ptr),1,8,[(.pointer none)]⟩,⟨.struct [(0,197),(1,242),(2,242)],(.agg [.slc,.slc,.slc]),3,72,[(.slice none 0 0),(.slice none 0 0),(.slice none 0 0)]⟩,⟨.struct [(0,197),(1,242),(2,242)],(.agg [.slc,.slc,.slc]),3,72,[(.slice none 0 0),(.slice none 0 0),(.slice none 0 0)]⟩,aR,⟨.other,(.sc .any),1,0,[(.tuple #[(.agg #[(.int .i64 0),(.int .i64 0)]),(.bool .false)])]⟩,aR,aR,⟨.other,(.sc .any),1,0,[(.tuple #[(.int .i32 0),(.int .i64 0)])]⟩,aR,aR,⟨.struct [(0,206),(1,3),(2,59)],(.agg [.ptr,(.int .i64),.slc]),3,40,[(.pointer none),(.int .i64 0),(.slice none 0 0)]⟩,⟨.struct [(0,206),(1,3),(2,59)],(.agg [.ptr,(.int .i64),.slc]),3,40,[(.pointer none),(.int .i64 0),(.slice none 0 0)]⟩,aR,aR,aR,aR,aR,aR,aR,aR,⟨.ptr 356,(.sc .ptr),1,8,[(.pointer none)]⟩,ti9,aR,⟨.ptr 395,(.sc .ptr),1,8,[(.pointer none)]⟩,⟨.struct [(0,38),(1,4)],(.agg [.slc,.bool]),2,32,[(.slice none 0 0),(.bool .false)]⟩,⟨.struct [(0,38),(1,4)],(.agg [.slc,.bool]),2,32,[(.slice none 0 0),(.bool .false)]⟩,aR,aR,aR,aR,aR,aR,aR,aR,aR,⟨.array 256 5,(.arr (.int .u8)),256,256,qh 256 (.int .u8 0)⟩,⟨.struct [(0,5),(1,5)],(.agg [(.int .u8),(.int .u8)]),2,2,[(.int .u8 0),(.int .u8 0)]⟩,⟨.struct [(0,5),(1,5)],(.agg [(.int .u8),(.int .u8)]),2,2,[(.int .u8 0),(.int .u8 0)]⟩,⟨.array 16 407,(.arr (.int .u8)),32,32,qh 32 (.int .u8 0)⟩,aR,aR,⟨.struct [(0,17),(1,17),(2,17),(3,9)],(.agg [.ptr,.ptr,.ptr,.str]),4,40,[(.pointer none),(.pointer none),(.pointer none),(.string ⟨#[]⟩)]⟩,⟨.struct [(0,17),(1,17),(2,17),(3,9)],(.agg [.ptr,.ptr,.ptr,.str]),4,40,[(.pointer none),(.pointer none),(.pointer none),(.string ⟨#[]⟩)]⟩,⟨.array 0 16,(.arr .ptr),0,0,[]⟩,⟨.struct [(0,413)],(.agg []),0,0,[]⟩,⟨.struct [(0,413)],(.agg []),0,0,[]⟩,ti2,ti2,aR,ti5,ti5,⟨.struct [(0,12),(1,12),(2,55),(3,416),(4,5),(5,5),(6,417),(7,418),(8,230),(9,419),(10,420)],(.agg [(.int .u64),(.int .u64),(.int .u32),(.int .u8),(.int .u8),(.int .u8),(.int .u8),.fn,.ptr,(.int .i32),(.int .i32)]),11,48,[(.int .u64 0),(.int .u64 0),(.int .u32 0),(.int .u8 0),(.int .u8 0),(.int .u8 0),(.int .u8 0),.nilFunc,(.pointer none),(.int .i32 0),(.int .i32 0)]⟩,⟨.struct [(0,12),(1,12),(2,55),(3,416),(4,5),(5,5),(6,417),(7,418),(8,230),(9,419),(10,420)],(.agg [(.int .u64),(.int .u64),(.int .u32),(.int .u8),(.int .u8),(.int .u8),(.int .u8),.fn,.ptr,(.int .i32),(.int .i32)]),11,48,[(.int .u64 0),(.int .u64 0),(.int .u32 0),(.int .u8 0),(.int .u8 0),(.int .u8 0),(.int .u8 0),.nilFunc,(.pointer none),(.int .i32 0),(.int .i32 0)]⟩,⟨.other,(.sc .any),1,8,[(.pointer none)]⟩]
def C:Ctx:={P:=xl,T:=tbl,tup:=[(0,[]),(25,[(.agg [(.int .i64),(.int .i64),(.int .i64)]),(.sc (.int .i64)),(.sc .slc)]),(31,[(.sc .ptr),(.sc (.int .i64))]),(62,[(.sc .slc),(.sc (.int .i64))]),(67,[(.sc .slc),(.sc .bool)]),(70,[(.agg [(.int .i64),(.int .i64),(.int .i64),.slc]),(.sc (.int .i64))]),(74,[(.sc (.int .i64)),(.sc (.int .i64))]),(81,[(.sc .slc),(.sc .bool)]),(98,[(.sc .slc),(.sc .bool)]),(107,[(.agg [(.int .i64),(.int .i64),(.int .i64),(.int .i64),(.int .i64),(.int .i64),.slc,.slc]),(.sc .bool)]),(148,[(.sc (.int .i64)),(.sc .bool)]),(152,[(.sc .ptr),(.sc (.int .i64))]),(182,[(.sc .slc),(.sc (.int .i64))]),(185,[(.agg [(.int .i64),(.int .i64),(.int .i64),(.int .i64),(.int .i64),(.int .i64),(.int .u32),.slc]),(.sc .bool)]),(194,[(.sc .ptr),(.sc (.int .i64))]),(243,[(.sc .slc),(.sc .slc),(.sc .slc),(.sc (.int .i64))]),(246,[(.sc .slc),(.sc .slc)]),(256,[(.sc (.int .i64)),(.sc .slc),(.sc .bool)]),(261,[(.sc .slc),(.sc .bool),(.sc (.int .i64))]),(286,[(.sc (.int .i64)),(.sc (.int .i64))]),(297,[(.agg [(.int .i64),(.int .i64),(.int .i64),.slc,.slc]),(.sc .bool)]),(300,[(.sc .slc),(.sc .bool)]),(311,[(.agg [.slc,.slc,.slc]),(.sc .bool)]),(322,[(.arr .bool),(.sc .bool)]),(331,[(.sc .slc),(.sc (.int .i64))]),(374,[(.agg [(.int .i64),(.int .i64)]),(.sc .bool)]),(377,[(.sc (.int .i32)),(.sc (.int .i64))]),(391,[(.sc (.int .i64)),(.sc (.int .i64))])],fns:=[false,false]++qh 336 true++qh 23 false++[true]}
theorem ahM:(qC C.T.length).map (mh.seen C.P)=C.T.map mh.told:=by kernel_rfl
theorem afK:C.P.follows .mixedOrders=true:=by kernel_rfl
theorem ahN:(C.P.funcs.toList.map fun f=>!(f.name== "runtime.NumGoroutine")&&f.body.isSome)=C.fns:=by kernel_rfl
theorem af:C.Ok:={tbl:=ahM,mixed:=afK,fns:=ahN}
abbrev lc:FuncId:=5
def lJ(a3:Sl)(bk:Sl):Prop:=
 ag xl 7 #[a3] (.many [(.agg [(.int .i64),(.int .i64),(.int .i64)]),ba,cu]) h fun r1 h1=>
 aQ xl (qK 24 true (.tuple #[])) h1 fun f h2=>
 ac xl (qf 24 f r1.1) h2 fun _ h3=>
 bf (σ:=Option Addr×Int) (fun i x=>
 bf (σ:=Unit) (fun _ bl=>
 av xl (vG 66 none) (.one (.sc .mp)) bl fun p ad=>
 ∃W:bH,aj ad f 0 W/\
 ag xl 23 #[W,bk,(vX xh (14:Int)),false] aK ad fun D a6=>
 aM (σ:=Int) (fun l K3 A=>
 Br (l<(D.len:Int))
 (∃ao,(D.ptr=some ao/\0<=l/\l<(D.len:Int))/\
 ∃N:CJ,aj A (ao.add (l.toNat*9)) 0 N/\
 aQ xl (qK 57 true (.tuple #[])) A fun c ax=>
 ac xl (qf 57 c N) ax fun _ S=>
 ∃ap:ByteArray,cellOf S (c.add 1)=some (xd ap)/\
 av xl (vM 66 (.map p) ap true) (.many [cu,lI]) S fun a b=>
 bf (σ:=Unit) (fun _ a5=>
 ag xl 25 #[i.1] aK a5 fun k a0=>
 aM (σ:=Int) (fun d K8 B=>
 Br (d<(k.len:Int))
 (∃J,(k.ptr=some J/\0<=d/\d<(k.len:Int))/\
 ∃F:ByteArray,cellOf B (J.add (d.toNat*1))=some (xd F)/\
 av xl (vM 66 (.map p) F true) (.many [cu,lI]) B fun v51 o=>
 Br (!v51.2) (R false o) (Br (d>0) (∃G,(k.ptr=some G/\0<=(qc xh (d-1))/\(qc xh (d-1))<(k.len:Int))/\
 ∃P:ByteArray,cellOf o (G.add ((qc xh (d-1)).toNat*1))=some (xd P)/\
 Br (!(Op.bytesLess P.toList F.toList))
 (R false o)
 (K8 (qc xh (d+1)) o)) (K8 (qc xh (d+1)) o)))
 (av xl (vw #[66] 3 #[(.map p)]) bt B fun a1 U=>
 Br ((k.len:Int) !=a1)
 (R false U)
 (K3 (qc xh (l+1)) U))) (0:Int) a0)
 (fun q=>
 ∃n,cellOf b c=some (vX xh n)/\
 Br (n==1)
 (∃Y:ByteArray,cellOf b (c.add 1)=some (xd Y)/\
 ∃T:Sl,cellOf b (c.add 2)=some (T:Value)/\
 ag xl 13 #[i.1,Y,T] bt b fun z E=>
 bf (σ:=Unit) (fun _ v=>
 bf (σ:=Unit) (fun _ r=>
 Br (!a.2)
 (∃L:ByteArray,cellOf r (c.add 1)=some (xd L)/\
 ∃X:Sl,cellOf r (c.add 2)=some (X:Value)/\
 ac xl (vk 66 (.map p) L X) r fun _ ay=>
 q () ay)
 (q () r))
 (fun K6=>
 Br (!((z==4)==a.2)) (R false v) (Br (!a.2) (Br (z !=0)
 (R false v)
 (K6 () v)) (K6 () v))))
 (fun K5=>
 Br (z==8) (Br (!a.2)
 (K3 (qc xh (l+1)) E)
 (K5 () E)) (K5 () E)))
 (Br (n==2)
 (∃H:ByteArray,cellOf b (c.add 1)=some (xd H)/\
 ag xl 26 #[i.1,H] (.many [cu,ba]) b fun s m=>
 Br a.2 (Br (s.2 !=0) (R false m) (ag xl 28 #[s.1,a.1] bX m fun a9 u=>
 Br (!a9) (R false u) (Br (!a.2) (Br (s.2 !=5)
 (R false u)
 (q () u)) (q () u)))) (Br (!a.2) (Br (s.2 !=5)
 (R false m)
 (q () m)) (q () m)))
 (Br (n==3)
 (∃V:ByteArray,cellOf b (c.add 1)=some (xd V)/\
 ag xl 24 #[i.1,V] bt b fun I w=>
 bf (σ:=Unit) (fun _ ab=>
 ∃ah:ByteArray,cellOf ab (c.add 1)=some (xd ah)/\
 ac xl (vl #[66,9] 0 #[(.map p),ah]) ab fun _ bd=>
 q () bd)
 (fun K7=>
 Br (!(a.2==(I==0))) (R false w) (Br (!a.2) (Br (I !=5)
 (R false w)
 (K7 () w)) (K7 () w))))
 (Br (n==5)
 (∃Z:ByteArray,cellOf b (c.add 1)=some (xd Z)/\
 ag xl 29 #[i.1,Z] (.many [(.agg [(.int .i64),(.int .i64),(.int .i64),.slc]),ba]) b fun K a4=>
 aQ xl (qK 69 true (.tuple #[])) a4 fun g a7=>
 ac xl (qf 69 g K.1) a7 fun _ e=>
 Br (!(a.2==(K.2==0))) ((ar.ok [] e)/\
 R false e) (Br a.2 (∃t,cellOf e g=some (vX xh t)/\
 Br (t !=(a.1.len:Int)) ((ar.ok [(g,t)] e)/\
 R false e) (∃y,cellOf e (g.add 1)=some (vX xh y)/\
 ∃O:bH,aj e f 0 O/\
 ag xl 30 #[O,(vX xh (a.1.len:Int))] bt e fun a8 j=>
 (ar.ok [(g.add 1,y),(g,t)] j)/\
 Br (y !=a8) (R false j) (∃Q,cellOf j (g.add 2)=some (vX xh Q)/\
 ∃am,cellOf j (g.add 1)=some (vX xh am)/\
 ∃M,cellOf j f=some (vX xh M)/\
 Br (Q !=(qc xh (am*(qc xh (M+r1.2.1)))))
 (R false j)
 (q () j)))) ((ar.ok [] e)/\
 q () e)))
 (q () b))))))
 (ag xl 27 #[] bX A fun bb bq=>
 R bb bq)) (0:Int) a6)
 (fun K2=>
 Br (i.2 !=0) (R false x) (Br (zi i.1)
 (R false x)
 (K2 () x))))
 (fun K1=>
 ∃x3:bH,aj h3 f 0 x3/\
 (ag xl 8 #[] mL h3 fun r4 h4=>
 (ar.ok [(f,x3.1),(f.add 1,x3.2.1),(f.add 2,x3.2.2)] h4)/\
 av xl (qq 22 3 #[(0,(vX xh (400:Int))),(1,(vX xh (400:Int))),(2,(vX xh (400:Int)))]) aK h4 fun v5 h5=>
 (ar.ok [(f,x3.1),(f.add 1,x3.2.1),(f.add 2,x3.2.2)] h5)/\
 ag xl 9 #[x3,r1.2.1,r4,v5] (.many [LX,ba]) h5 fun r6 h6=>
 (ar.ok [] h6)/\
 K1 (r6.1,r6.2) h6)/\(av xl (qq 22 3 #[(0,(vX xh (400:Int))),(1,(vX xh (400:Int))),(2,(vX xh (400:Int)))]) aK h3 fun v7 h7=>
 (ar.ok [(f,x3.1),(f.add 1,x3.2.1),(f.add 2,x3.2.2)] h7)/\
 ag xl 8 #[] mL h7 fun r8 h8=>
 (ar.ok [(f,x3.1),(f.add 1,x3.2.1),(f.add 2,x3.2.2)] h8)/\
 ag xl 9 #[x3,r1.2.1,r8,v7] (.many [LX,ba]) h8 fun r9 h9=>
 (ar.ok [] h9)/\
 K1 (r9.1,r9.2) h9))
theorem sh(b:Sl)(a:Sl)(c: @lJ R h b a):ae xl 5 #[b,a] h R:=au af Tryz.func5 (al.tn (al.tn (.two (.join [(8,LX),(9,ba)] [(8,10),(32,40)] .n) (.two (.join [] [(4,5),(40,46)] .n) (al.tn (.two (al.tn (.inn (.loop [(51,ba)] [(4,5),(12,26),(51,227)] (al.tn (al.tn (.two (.inn (al.tn (al.tn (.two (.join [] [(4,5),(15,21),(62,190)] (al.tn (.inn (al.tn (.two (al.tn (.two (.join [] [(72,78)] .n) (.two (.join [] [(4,5),(78,90)] .n) .n))) (al.tn (al.tn (al.tn (.two (al.tn (.two (.join [] [(4,5),(131,143)] .n) .n)) .n))))))))) (al.tn (.two (al.tn (.inn (.loop [(194,ba)] [(4,5),(22,26),(194,221)] .n))) .n)))))) .n)))))) .n)))))) c
abbrev xL:FuncId:=7
def nF(b:Sl):Prop:=
 aQ xl (qK 24 true (.tuple #[])) h fun u z=>
 ag xl 37 #[b,(vX xh (0:Int))] bt z fun I y=>
 ag xl 37 #[b,(vX xh (1:Int))] bt y fun J h3=>
 ag xl 37 #[b,(vX xh (2:Int))] bt h3 fun E H=>
 ag xl 36 #[I,J,E] (.one (.agg [(.int .i64),(.int .i64),(.int .i64)])) H fun x B=>
 aQ xl (qK 24 true (.tuple #[])) B fun d D=>
 ac xl (qf 24 d x) D fun _ v=>
 aM (σ:=Sl×Int) (fun j G h8=>
 ag xl 37 #[b,(vX xh (4:Int))] bt h8 fun A w=>
 ag xl 10 #[A,(vX xh (4:Int))] bt w fun F g=>
 Br (j.2<(qc xh (2+F)))
 (ag xl 37 #[b,(qc xh (5+j.2))] bt g fun s q=>
 ag xl 10 #[s,(vX xh (50:Int))] bt q fun p l=>
 av xl (qq 22 1 #[(0,(qc xh (8+p)))]) aK l fun m n=>
 av xl (qt #[22,22] 22 #[j.1,m]) aK n fun f t=>
 G ((⟨f.ptr,f.len,f.cap⟩:Sl),qc xh (j.2+1)) t)
 (∃a:bH,aj g d 0 a/\
 ag xl 37 #[b,(vX xh (3:Int))] bt g fun r i=>
 (ar.ok [(d,a.1),(d.add 1,a.2.1),(d.add 2,a.2.2)] i)/\
 ag xl 10 #[r,(vX xh (7:Int))] bt i fun o k=>
 (ar.ok [(d,a.1),(d.add 1,a.2.1),(d.add 2,a.2.2)] k)/\
 ac xl (qf 24 u a) k fun _ e=>
 (ar.ok [] e)/\
 ∃c:bH,aj e u 0 c/\
 R (.tuple #[c,o,j.1]) e)) ((⟨none,0,0⟩:Sl),(0:Int)) v
theorem uM(a:Sl)(b: @nF R h a):ae xl 7 #[a] h R:=au af Tryz.func7 (al.tn (al.tn (al.tn (al.tn (.two (al.tn (.inn (.loop [(7,cu),(8,ba)] [(7,9),(16,35)] .n))) .n))))) b
abbrev Tr:FuncId:=8
def JC:Prop:=
 aQ xl (qL 80 (xg #[false,false,(vX xh (0:Int)),(vX xh (0:Int))])) h fun a b=>
 R a b
theorem QU(a: @JC R h):ae xl 8 #[] h R:=au af Tryz.func8 .n a
abbrev pO:FuncId:=9
def CL(I:bH)(b:Int)(d:Option Addr)(a:Sl):Prop:=
 aQ xl (qL 24 I) h fun m O=>
 ag xl 38 #[a] (.many [cu,lI]) O fun l F=>
 bf (σ:=Unit) (fun _ M=>
 bf (σ:=Option Addr) (fun e N=>
 aM (σ:=Int) (fun i P h8=>
 Br (i<(l.1.len:Int))
 (∃w,(l.1.ptr=some w/\0<=i/\i<(l.1.len:Int))/\
 ∃f,cellOf h8 (w.add (i.toNat*1))=some (vX xh f)/\
 ∃o,(a.ptr=some o/\0<=f/\f<(a.len:Int))/\
 ∃n,cellOf h8 (o.add (f.toNat*1))=some (vX xh n)/\
 ∃s,(e=some s)/\
 ∃t:cV,aj h8 s 0 t/\
 ag xl 41 #[t] aK h8 fun B D=>
 (ar.ok [(o.add (f.toNat*1),n)] D)/\
 Br (n<(B.len:Int))
 (R (.tuple #[(vZ none),(vX xh (7:Int))]) D)
 (P (qc xh (i+1)) D))
 (aM (σ:=Int) (fun j T g=>
 Br (j<(l.1.len:Int))
 (∃q,(l.1.ptr=some q/\0<=j/\j<(l.1.len:Int))/\
 ∃c,cellOf g (q.add (j.toNat*1))=some (vX xh c)/\
 ∃a22,(a.ptr=some a22/\0<=c/\c<(a.len:Int))/\
 ∃z,cellOf g (a22.add (c.toNat*1))=some (vX xh z)/\
 ∃v,(e=some v)/\
 ag xl 16 #[z,d] mL g fun G x=>
 (ar.ok [] x)/\
 (0<=c/\c<((64:Nat):Int))/\
 ac xl (qf 34 ((v.add 10).add (c.toNat*1)) G) x fun _ p=>
 (ar.ok [] p)/\
 T (qc xh (j+1)) p)
 (∃u,(e=some u)/\
 ∃r:cV,aj g u 0 r/\
 ag xl 43 #[r,l.1] aK g fun E H=>
 ag xl 42 #[(.func (.func 11) #[e] #[]),E] bt H fun y A=>
 Br (y !=0)
 (R (.tuple #[(vZ none),y]) A)
 (R (.tuple #[e,(vX xh (0:Int))]) A))) (0:Int) h8)) (0:Int) N)
 (fun U=>
 ∃k:bH,aj M m 0 k/\
 ag xl 40 #[d] bt M fun V K=>
 (ar.ok [(m,k.1),(m.add 1,k.2.1),(m.add 2,k.2.2)] K)/\
 ∃J:Value,(aI xl (vI 87 #[(0,(xg #[(vX xh (1:Int)),(vX xh (0:Int)),k.1,k.2.1,k.2.2,b,l.1,(vY none 0 0)])),(1,d),(2,V)]) J)/\
 aQ xl (qL 87 J) K fun a9 L=>
 (ar.ok [(m,k.1),(m.add 1,k.2.1),(m.add 2,k.2.2)] L)/\
 U (some a9) L))
 (fun S=>
 Br (!l.2) (R (.tuple #[(vZ none),(vX xh (1:Int))]) F) (∃x3:bH,aj F m 0 x3/\
 ag xl 39 #[x3] bX F fun Q h3=>
 Br (!Q) (R (.tuple #[(vZ none),(vX xh (1:Int))]) h3) (Br (b<0) (R (.tuple #[(vZ none),(vX xh (1:Int))]) h3) (Br (b>16) (R (.tuple #[(vZ none),(vX xh (1:Int))]) h3) (Br (zi d)
 (R (.tuple #[(vZ none),(vX xh (1:Int))]) h3)
 (S () h3))))))
theorem Kv(d:bH)(a:Int)(c:Option Addr)(b:Sl)(e: @CL R h d a c b):ae xl 9 #[d,a,c,b] h R:=au af Tryz.func9 (al.tn (al.tn (.two (.join [] [(8,10),(23,42)] .n) (.two (.join [(12,LX)] [(12,13),(42,51)] .n) (.two (al.tn (.inn (.loop [(53,ba)] [(8,10),(14,15),(53,69)] .n))) (.two (al.tn (.inn (.loop [(71,ba)] [(16,17),(71,87)] .n))) .n)))))) e
abbrev xM:FuncId:=10
def nG(b:Int)(a:Int):Prop:=
 (a≠0)/\
 bf (σ:=Int) (fun d e=>
 R d e)
 (fun c=>
 Br ((zX b a)<0)
 (c (qc xh ((zX b a)+a)) h)
 (c (zX b a) h))
theorem uN(a:Int)(b:Int)(c: @nG R h a b):ae xl 10 #[a,b] h R:=au af Tryz.func10 (al.tn (al.tn (.two (.join [(0,ba)] [(0,1),(8,13)] .n) .n))) c
abbrev dh:FuncId:=11
def rE(b:Option Addr)(a:Int):Prop:=
 bf (σ:=Unit) (fun _ d=>
 ∃c,(b=some c)/\
 (0<=a/\a<((64:Nat):Int))/\
 ∃x3:Option Addr,cellOf d ((c.add 10).add (a.toNat*1))=some (.pointer x3)/\
 R x3 d)
 (fun e=>
 Br (zi b) (R (vZ none) h) (Br (a<0) (R (vZ none) h) (Br (a>=64)
 (R (vZ none) h)
 (e () h))))
theorem CM(b:Option Addr)(a:Int)(c: @rE R h b a):ae xl 11 #[b,a] h R:=au af Tryz.func11 (al.tn (.two (.join [] [(4,15)] .n) .n)) c
abbrev td:FuncId:=13
def uo(a:Option Addr)(e:ByteArray)(i:Sl):Prop:=
 ag xl 45 #[a,e,i] bt h fun r1 U=>
 Br (r1 !=0)
 (R r1 U)
 (∃a2,(a=some a2)/\
 ∃x3,cellOf U (a2.add 1)=some (vX xh x3)/\
 aQ xl (qK 96 true (.tuple #[])) U fun a4 h2=>
 ac xl (qf 96 a4 (xg #[e,x3,(vX xh (i.len:Int)),(vY none 0 0)])) h2 fun _ h3=>
 bf (σ:=Sl×Bool) (fun K h6=>
 Br (!K.2)
 (R (vX xh (8:Int)) h6)
 (ac xl (qf 22 (a4.add 3) K.1) h6 fun _ h7=>
 ∃E:jg,aj h7 a4 0 E/\
 ag xl 47 #[a,E,i] (.many [cu,lI]) h7 fun I h8=>
 aQ xl (qK 90 true (.tuple #[])) h8 fun k h9=>
 ac xl (qf 90 k I.1) h9 fun _ f=>
 Br (!I.2)
 (R (vX xh (8:Int)) f)
 (bf (σ:=Addr×Sl) (fun g t=>
 ∃G:cV,aj t g.1 0 G/\
 ag xl 41 #[G] aK t fun ad W=>
 aQ xl (qK 3 true (.tuple #[])) W fun l X=>
 ac xl (qf 3 l (vX xh (ad.len:Int))) X fun _ Y=>
 ag xl 50 #[a,g.2,(.func (.func 49) #[] #[l,k])] bX Y fun ah F=>
 Br (!ah)
 (R (vX xh (7:Int)) F)
 (ag xl 51 #[a,g.2,(.func (.func 49) #[] #[l,k])] bt F fun O q=>
 Br (O !=0)
 (R O q)
 (∃A:Sl,cellOf q k=some (A:Value)/\
 ag xl 42 #[(.func (.func 11) #[a] #[]),A] bt q fun B o=>
 Br (B !=0)
 (R B o)
 (∃x:cV,aj o g.1 0 x/\
 ag xl 52 #[a,x,g.2] bt o fun T S=>
 R T S))))
 (fun Z=>
 ∃c,(a=some c)/\
 ∃b:cV,aj f c 0 b/\
 ∃d:jg,aj f a4 0 d/\
 (ag xl 48 #[b,d] Tq f fun z n=>
 (ar.ok [] n)/\
 (ag xl 21 #[a] aK n fun p v=>
 (ar.ok [] v)/\
 aQ xl (qK 47 true (.tuple #[])) v fun J D=>
 (ar.ok [] D)/\
 ac xl (qf 47 J z) D fun _ P=>
 (ar.ok [] P)/\
 Z (J,(⟨p.ptr,p.len,p.cap⟩:Sl)) P)/\(aQ xl (qK 47 true (.tuple #[])) n fun a22 s=>
 (ar.ok [] s)/\
 ag xl 21 #[a] aK s fun r N=>
 (ar.ok [] N)/\
 ac xl (qf 47 a22 z) N fun _ w=>
 (ar.ok [] w)/\
 Z (a22,(⟨r.ptr,r.len,r.cap⟩:Sl)) w))/\(aQ xl (qK 47 true (.tuple #[])) f fun L Q=>
 (ar.ok [(a4,d.1),(a4.add 1,d.2.1),(a4.add 2,d.2.2.1),(a4.add 3,d.2.2.2),(c,b.1),(c.add 1,b.2.1),(c.add 2,b.2.2.1),(c.add 3,b.2.2.2.1),(c.add 4,b.2.2.2.2.1),(c.add 5,b.2.2.2.2.2.1),(c.add 6,b.2.2.2.2.2.2.1),(c.add 7,b.2.2.2.2.2.2.2)] Q)/\
 ag xl 48 #[b,d] Tq Q fun V H=>
 (ar.ok [] H)/\
 ag xl 21 #[a] aK H fun m M=>
 (ar.ok [] M)/\
 ac xl (qf 47 L V) M fun _ y=>
 (ar.ok [] y)/\
 Z (L,(⟨m.ptr,m.len,m.cap⟩:Sl)) y)))))
 (fun K1=>
 ∃a5,(a=some a5)/\
 ∃u:bH,aj h3 (a5.add 2) 0 u/\
 ∃x7,cellOf h3 (a4.add 1)=some (vX xh x7)/\
 ∃a8,(a=some a8)/\
 ∃x9:bH,aj h3 (a8.add 2) 0 x9/\
 ag xl 30 #[x9,(vX xh (i.len:Int))] bt h3 fun ab h4=>
 (ar.ok [(a4.add 1,x7),(a5.add 2,u.1),((a5.add 2).add 1,u.2.1),((a5.add 2).add 2,u.2.2)] h4)/\
 ag xl 46 #[u,x7,ab] (.many [cu,lI]) h4 fun j h5=>
 (ar.ok [] h5)/\
 K1 ((⟨j.1.ptr,j.1.len,j.1.cap⟩:Sl),j.2) h5))
theorem FN(b:Option Addr)(a:ByteArray)(c:Sl)(d: @uo R h b a c):ae xl 13 #[b,a,c] h R:=au af Tryz.func13 (al.tn (al.tn (al.tn (.two (.join [(9,cu),(10,lI)] [(9,11),(34,53)] .n) (al.tn (al.tn (al.tn (al.tn (.two (.join [(12,(.sc .adr)),(13,cu)] [(12,14),(66,74)] .n) .n))))))))) d
abbrev BO:FuncId:=14
def oO(c:Int)(b:Int):Prop:=
 aM (σ:=Sl×Int) (fun a e d=>
 Br (a.2<c)
 (((7:Int)≠0)/\
 (0<=(zX a.2 7))/\
 av xl (qq 38 1 #[(0,(vX xi (qc xi (qc xh ((qT b (2^min (zX a.2 7).toNat (qk xh)))+(qc xh (a.2*(qc xh ((qA (qk xh) b|||(qA (qk xh) (1:Int))).toNat:Nat)))))))))]) aK d fun g f=>
 av xl (qt #[38,38] 38 #[a.1,g]) aK f fun v3 h3=>
 e ((⟨v3.ptr,v3.len,v3.cap⟩:Sl),qc xh (a.2+1)) h3)
 (R a.1 d)) ((⟨none,0,0⟩:Sl),(0:Int)) h
theorem Az(a:Int)(b:Int)(c: @oO R h a b):ae xl 14 #[a,b] h R:=au af Tryz.func14 (al.tn (al.tn (.two (al.tn (.inn (.loop [(5,cu),(6,ba)] [(5,25)] .n))) .n))) c
abbrev Ts:FuncId:=16
def JD(a:Int)(b:Option Addr):Prop:=
 bf (σ:=Unit) (fun _ f=>
 aQ xl (qL 93 (xg #[b,a,(vY none 0 0),(vX xh (0:Int)),(vY none 0 0),false,false])) f fun d e=>
 R d e)
 (fun c=>
 Br (a<1) (R (vZ none) h) (Br (a>512) (R (vZ none) h) (Br (zi b)
 (R (vZ none) h)
 (c () h))))
theorem QV(a:Int)(b:Option Addr)(c: @JD R h a b):ae xl 16 #[a,b] h R:=au af Tryz.func16 (al.tn (.two (.join [] [(4,15)] .n) .n)) c
abbrev Ff:FuncId:=20
def Hd(f:Option Addr)(d:cV):Prop:=
 aQ xl (qL 47 d) h fun n k=>
 ∃x2:cV,aj k n 0 x2/\
 ag xl 63 #[x2] bX k fun t j=>
 Br (!t)
 (R false j)
 (ag xl 57 #[f] aK j fun q h3=>
 ∃m:cV,aj h3 n 0 m/\
 ag xl 41 #[m] aK h3 fun c s=>
 aM (σ:=Int) (fun b r e=>
 Br (b<(c.len:Int))
 (∃i,(c.ptr=some i/\0<=b/\b<(c.len:Int))/\
 ∃l:Sl,cellOf e (i.add (b.toNat*1))=some (l:Value)/\
 aQ xl (qK 38 true (.tuple #[])) e fun a p=>
 ac xl (qf 38 a l) p fun _ o=>
 ag xl 64 #[q,(.func (.func 65) #[] #[a])] bX o fun g h8=>
 Br (!g)
 (R false h8)
 (r (qc xh (b+1)) h8))
 (R true e)) (0:Int) s)
theorem Ot(b:Option Addr)(a:cV)(c: @Hd R h b a):ae xl 20 #[b,a] h R:=au af Tryz.func20 (al.tn (al.tn (al.tn (.two (al.tn (.inn (.loop [(16,ba)] [(4,5),(7,8),(16,25)] .n))) .n)))) c
abbrev FO:FuncId:=21
def te(a:Option Addr):Prop:=
 Br (zi a)
 (R (vY none 0 0) h)
 (∃b,(a=some b)/\
 ∃x2:Sl,cellOf h (b.add 6)=some (x2:Value)/\
 ag xl 66 #[(.func (.func 11) #[a] #[]),x2] aK h fun c d=>
 R c d)
theorem El(a:Option Addr)(b: @te R h a):ae xl 21 #[a] h R:=au af Tryz.func21 .n b
abbrev AA:FuncId:=23
def oa(I:bH)(b:Sl)(f:Int)(d:Bool):Prop:=
 aQ xl (qL 24 I) h fun W Q=>
 bf (σ:=Sl) (fun G E=>
 R G E)
 (fun M=>
 aM (σ:=Sl×Int) (fun a O A=>
 bf (σ:=Unit) (fun _ h3=>
 bf (σ:=Sl) (fun z k=>
 ∃x:bH,aj k W 0 x/\
 ∃c,(b.ptr=some c/\0<=a.2/\a.2<(b.len:Int))/\
 ∃e,cellOf k (c.add (a.2.toNat*1))=some (vX xh e)/\
 ((5:Int)≠0)/\
 ∃s,(b.ptr=some s/\0<=(qc xh (a.2+1))/\(qc xh (a.2+1))<(b.len:Int))/\
 ∃u:Int,cellOf k (s.add ((qc xh (a.2+1)).toNat*1))=some (vX xh u)/\
 ∃p,(b.ptr=some p/\0<=(qc xh (a.2+2))/\(qc xh (a.2+2))<(b.len:Int))/\
 ∃y:Int,cellOf k (p.add ((qc xh (a.2+2)).toNat*1))=some (vX xh y)/\
 ag xl 68 #[x,(qc xh (wH e 5)),u,y] (.one (.agg [(.int .i64),.str,.slc,(.int .i64),(.int .i64),(.int .i64),(.int .u32),.slc,.slc])) k fun B t=>
 (ar.ok [(c.add (a.2.toNat*1),e)] t)/\
 av xl (qq 53 1 #[(0,B)]) aK t fun D w=>
 (ar.ok [(c.add (a.2.toNat*1),e)] w)/\
 av xl (qt #[53,53] 53 #[z,D]) aK w fun i l=>
 (ar.ok [(c.add (a.2.toNat*1),e)] l)/\
 O ((⟨i.ptr,i.len,i.cap⟩:Sl),qc xh (a.2+3)) l)
 (fun T=>
 bf (σ:=Bool) (fun U n=>
 Br U
 (∃j,(b.ptr=some j/\0<=a.2/\a.2<(b.len:Int))/\
 ∃m,cellOf n (j.add (a.2.toNat*1))=some (vX xh m)/\
 ((5:Int)≠0)/\
 ∃o,(b.ptr=some o/\0<=(qc xh (a.2+1))/\(qc xh (a.2+1))<(b.len:Int))/\
 ∃r:Int,cellOf n (o.add ((qc xh (a.2+1)).toNat*1))=some (vX xh r)/\
 ∃v,(b.ptr=some v/\0<=(qc xh (a.2+2))/\(qc xh (a.2+2))<(b.len:Int))/\
 ∃q:Int,cellOf n (v.add ((qc xh (a.2+2)).toNat*1))=some (vX xh q)/\
 ag xl 67 #[(qc xh (wH m 5)),r,q] (.one (.agg [(.int .i64),.str,.slc,(.int .i64),(.int .i64),(.int .i64),(.int .u32),.slc,.slc])) n fun F L=>
 (ar.ok [(j.add (a.2.toNat*1),m)] L)/\
 av xl (qq 53 1 #[(0,F)]) aK L fun H J=>
 (ar.ok [(j.add (a.2.toNat*1),m)] J)/\
 av xl (qt #[53,53] 53 #[a.1,H]) aK J fun g h8=>
 (ar.ok [(j.add (a.2.toNat*1),m)] h8)/\
 O ((⟨g.ptr,g.len,g.cap⟩:Sl),qc xh (a.2+3)) h8)
 (T (⟨a.1.ptr,a.1.len,a.1.cap⟩:Sl) n))
 (fun K=>
 Br d (∃a4,(b.ptr=some a4/\0<=a.2/\a.2<(b.len:Int))/\
 ∃N,cellOf h3 (a4.add (a.2.toNat*1))=some (vX xh N)/\
 ag xl 10 #[N,(vX xh (5:Int))] bt h3 fun P V=>
 K (P==4) V) (K false h3))))
 (fun S=>
 Br ((qc xh (a.2+2))<(b.len:Int)) (Br ((a.1.len:Int)<f)
 (S () A)
 (M (⟨a.1.ptr,a.1.len,a.1.cap⟩:Sl) A)) (M (⟨a.1.ptr,a.1.len,a.1.cap⟩:Sl) A))) ((⟨none,0,0⟩:Sl),(0:Int)) Q)
theorem xN(c:bH)(d:Sl)(b:Int)(a:Bool)(e: @oa R h c d b a):ae xl 23 #[c,d,b,a] h R:=au af Tryz.func23 (al.tn (al.tn (.two (.join [(9,cu)] [(9,72)] (al.tn (.inn (.loop [(9,cu),(10,ba)] [(9,72)] (.two (.join [] [(11,22)] .n) (.two (.inn (.two (.join [(9,cu)] [(9,10),(24,52)] (.two (.join [(32,lI)] [(24,33)] .n) .n)) .n)) .n)))))) .n))) e
abbrev oP:FuncId:=24
def pP(a:Option Addr)(b:ByteArray):Prop:=
 ag xl 69 #[a] bX h fun s l=>
 Br s
 (R (vX xh (14:Int)) l)
 (ag xl 70 #[a,b] bt l fun j e=>
 Br (j<0)
 (R (vX xh (5:Int)) e)
 (∃a3,(a=some a3)/\
 ∃p,cellOf e a3=some (vX xh p)/\
 Br (p>=2147483647)
 (R (vX xh (7:Int)) e)
 (∃a5,(a=some a5)/\
 ∃k:cV,aj e a5 0 k/\
 ag xl 62 #[k] Tq e fun u h3=>
 aQ xl (qK 47 true (.tuple #[])) h3 fun c t=>
 ac xl (qf 47 c u) t fun _ n=>
 ∃m,cellOf n c=some (vX xh m)/\
 ac xl (qf 3 c (qc xh (m+1))) n fun _ o=>
 ∃d:Sl,cellOf o (c.add 7)=some (d:Value)/\
 ag xl 71 #[d,j,(qc xh (j+1))] aK o fun i q=>
 ac xl (qf 45 (c.add 7) i) q fun _ h8=>
 ∃f:cV,aj h8 c 0 f/\
 ag xl 72 #[a,f] bt h8 fun g r=>
 R g r)))
theorem BP(b:Option Addr)(a:ByteArray)(c: @pP R h b a):ae xl 24 #[b,a] h R:=au af Tryz.func24 .n c
abbrev lY:FuncId:=25
def mM(c:Option Addr):Prop:=
 ag xl 69 #[c] bX h fun p e=>
 Br p
 (R (vY none 0 0) e)
 (∃i,(c=some i)/\
 ∃x3:Sl,cellOf e (i.add 7)=some (x3:Value)/\
 aM (σ:=Sl×Int) (fun a r d=>
 Br (a.2<(x3.len:Int))
 (∃a5,(x3.ptr=some a5/\0<=a.2/\a.2<(x3.len:Int))/\
 ∃g:jg,aj d (a5.add (a.2.toNat*4)) 0 g/\
 aQ xl (qK 96 true (.tuple #[])) d fun l h3=>
 ac xl (qf 96 l g) h3 fun _ k=>
 ∃j:ByteArray,cellOf k l=some (xd j)/\
 ag xl 73 #[j] (.one LY) k fun q n=>
 av xl (qq 60 1 #[(0,q)]) aK n fun f o=>
 av xl (qt #[60,60] 60 #[a.1,f]) aK o fun b m=>
 r ((⟨b.ptr,b.len,b.cap⟩:Sl),qc xh (a.2+1)) m)
 (R a.1 d)) ((⟨none,0,0⟩:Sl),(0:Int)) e)
theorem pQ(a:Option Addr)(b: @mM R h a):ae xl 25 #[a] h R:=au af Tryz.func25 (al.tn (al.tn (al.tn (.two (al.tn (.inn (.loop [(3,cu),(14,ba)] [(3,4),(5,6),(14,25)] .n))) .n)))) b
abbrev tf:FuncId:=26
def uq(d:Option Addr)(g:ByteArray):Prop:=
 ag xl 69 #[d] bX h fun S N=>
 Br S
 (R (.tuple #[(vY none 0 0),(vX xh (14:Int))]) N)
 (ag xl 70 #[d,g] bt N fun A M=>
 Br (A<0)
 (R (.tuple #[(vY none 0 0),(vX xh (5:Int))]) M)
 (ag xl 74 #[d] bX M fun W h3=>
 Br (!W)
 (R (.tuple #[(vY none 0 0),(vX xh (11:Int))]) h3)
 (∃a4,(d=some a4)/\
 ∃F:Sl,cellOf h3 (a4.add 7)=some (F:Value)/\
 ∃L,(F.ptr=some L/\0<=A/\A<(F.len:Int))/\
 ∃P:jg,aj h3 (L.add (A.toNat*4)) 0 P/\
 aQ xl (qK 96 true (.tuple #[])) h3 fun n U=>
 ac xl (qf 96 n P) U fun _ O=>
 ∃z:Sl,cellOf O (n.add 3)=some (z:Value)/\
 aM (σ:=Sl×Int) (fun c T k=>
 Br (c.2<(z.len:Int))
 (∃v,(z.ptr=some v/\0<=c.2/\c.2<(z.len:Int))/\
 ∃t,cellOf k (v.add (c.2.toNat*1))=some (vX xh t)/\
 bf (σ:=Sl) (fun H B=>
 bf (σ:=Sl×Int) (fun y q=>
 Br (y.2 !=0)
 (R (.tuple #[(vY none 0 0),(vX xh (11:Int))]) q)
 (av xl (qq 59 1 #[(0,y.1)]) aK q fun v25 D=>
 av xl (qt #[59,59] 59 #[c.1,v25]) aK D fun j I=>
 T ((⟨j.ptr,j.len,j.cap⟩:Sl),qc xh (c.2+1)) I))
 (fun Q=>
 ∃e,(d=some e)/\
 ∃f:bH,aj B (e.add 2) 0 f/\
 ∃r,cellOf B (n.add 1)=some (vX xh r)/\
 ag xl 77 #[r,c.2,t] (.one (.sc (.int .u32))) B fun G w=>
 (ar.ok [(e.add 2,f.1),((e.add 2).add 1,f.2.1),((e.add 2).add 2,f.2.2)] w)/\
 ag xl 76 #[f,(vX xj G),H] (.many [cu,ba]) w fun i x=>
 (ar.ok [] x)/\
 Q ((⟨i.1.ptr,i.1.len,i.1.cap⟩:Sl),i.2) x))
 (fun V=>
 ∃b,(d=some b)/\
 ∃a:cV,aj k b 0 a/\
 ∃l,cellOf k (n.add 1)=some (vX xh l)/\
 ag xl 21 #[d] aK k fun E K=>
 (ar.ok [(n.add 1,l),(b,a.1),(b.add 1,a.2.1),(b.add 2,a.2.2.1),(b.add 3,a.2.2.2.1),(b.add 4,a.2.2.2.2.1),(b.add 5,a.2.2.2.2.2.1),(b.add 6,a.2.2.2.2.2.2.1),(b.add 7,a.2.2.2.2.2.2.2)] K)/\
 ag xl 75 #[(.func (.func 11) #[d] #[]),E,a,l,c.2] aK K fun m h8=>
 (ar.ok [] h8)/\
 V (⟨m.ptr,m.len,m.cap⟩:Sl) h8))
 (∃p,(d=some p)/\
 ∃u:bH,aj k (p.add 2) 0 u/\
 ∃s,cellOf k (n.add 2)=some (vX xh s)/\
 ag xl 78 #[u,c.1,s] (.many [cu,lI]) k fun J o=>
 (ar.ok [] o)/\
 R (.tuple #[J.1,(vX xh (0:Int))]) o)) ((⟨none,0,0⟩:Sl),(0:Int)) O)))
theorem FP(b:Option Addr)(a:ByteArray)(c: @uq R h b a):ae xl 26 #[b,a] h R:=au af Tryz.func26 (al.tn (al.tn (al.tn (al.tn (al.tn (al.tn (al.tn (.two (al.tn (.inn (.loop [(8,cu),(37,ba)] [(4,6),(8,14),(37,76)] (al.tn (al.tn (.two (.inn (al.tn (.two (.join [(11,cu)] [(11,12),(42,54)] .n) (.two (.join [(12,cu),(13,ba)] [(12,14),(54,69)] .n) .n)))) .n)))))) .n)))))))) c
abbrev xO:FuncId:=27
def nH:Prop:=
 ag xl 8 #[] mL h fun g c=>
 av xl (qq 22 1 #[(0,(vX xh (5:Int)))]) aK c fun i f=>
 ag xl 9 #[(xg #[(vX xh (1:Int)),(vX xh (1:Int)),(vX xh (1:Int))]),(vX xh (0:Int)),g,i] (.many [LX,ba]) f fun a h3=>
 Br (a.2==0) (Br (!(zi a.1)) (ag xl 25 #[a.1] aK h3 fun d b=>
 Br ((d.len:Int)==0) (ag xl 21 #[a.1] aK b fun e j=>
 R (xf ((e.len:Int)==1)) j) (R false b)) (R false h3)) (R false h3)
theorem uO(a: @nH R h):ae xl 27 #[] h R:=au af Tryz.func27 .n a
abbrev tg:FuncId:=28
def lK(a:Sl)(c:Sl):Prop:=
 Br ((a.len:Int) !=(c.len:Int))
 (R false h)
 (aM (σ:=Int) (fun b g d=>
 Br (b<(a.len:Int))
 (∃f,(a.ptr=some f/\0<=b/\b<(a.len:Int))/\
 ∃x3,cellOf d (f.add (b.toNat*1))=some (vX xi x3)/\
 ∃a4,(c.ptr=some a4/\0<=b/\b<(c.len:Int))/\
 ∃e,cellOf d (a4.add (b.toNat*1))=some (vX xi e)/\
 Br (x3 !=e)
 (R false d)
 (g (qc xh (b+1)) d))
 (R true d)) (0:Int) h)
theorem si(a:Sl)(b:Sl)(c: @lK R h a b):ae xl 28 #[a,b] h R:=au af Tryz.func28 (al.tn (al.tn (.two (al.tn (.inn (.loop [(13,ba)] [(4,6),(13,26)] .n))) .n))) c
abbrev rF:FuncId:=29
def th(f:Option Addr)(m:ByteArray):Prop:=
 aQ xl (qK 69 true (.tuple #[])) h fun t h1=>
 ag xl 69 #[f] bX h1 fun r2 h2=>
 Br r2
 (ac xl (qf 69 t (xg #[(vX xh (0:Int)),(vX xh (0:Int)),(vX xh (0:Int)),(vY none 0 0)])) h2 fun _ h3=>
 ∃n:Int×Int×Int×Sl,aj h3 t 0 n/\
 R (.tuple #[n,(vX xh (14:Int))]) h3)
 (ag xl 70 #[f,m] bt h2 fun P Q=>
 Br (P<0)
 (ac xl (qf 69 t (xg #[(vX xh (0:Int)),(vX xh (0:Int)),(vX xh (0:Int)),(vY none 0 0)])) Q fun _ h5=>
 ∃o:Int×Int×Int×Sl,aj h5 t 0 o/\
 R (.tuple #[o,(vX xh (5:Int))]) h5)
 (∃Z,(f=some Z)/\
 ∃W:Sl,cellOf Q (Z.add 7)=some (W:Value)/\
 ∃a8,(W.ptr=some a8/\0<=P/\P<(W.len:Int))/\
 ∃x9:jg,aj Q (a8.add (P.toNat*4)) 0 x9/\
 aQ xl (qK 96 true (.tuple #[])) Q fun a h6=>
 ac xl (qf 96 a x9) h6 fun _ u=>
 bf (σ:=Addr) (fun r X=>
 ag xl 21 #[f] aK X fun q S=>
 aM (σ:=Int) (fun g K2 e=>
 Br (g<(q.len:Int))
 (∃J,(q.ptr=some J/\0<=g/\g<(q.len:Int))/\
 ∃l,cellOf e (J.add (g.toNat*1))=some (vX xh l)/\
 ∃D,(f=some D)/\
 (0<=l/\l<((64:Nat):Int))/\
 ∃O:Option Addr,cellOf e ((D.add 10).add (l.toNat*1))=some (.pointer O)/\
 ∃a25,(f=some a25)/\
 ∃M:cV,aj e a25 0 M/\
 ag xl 80 #[O,M] aK e fun p z=>
 (ar.ok [] z)/\
 aM (σ:=Int) (fun d K3 s=>
 Br (d<(p.len:Int))
 (∃v,(p.ptr=some v/\0<=d/\d<(p.len:Int))/\
 ∃I:ee,aj s (v.add (d.toNat*8)) 0 I/\
 aQ xl (qK 134 true (.tuple #[])) s fun F U=>
 ac xl (qf 134 F I) U fun _ i=>
 ∃A,cellOf i F=some (vX xh A)/\
 ∃E,cellOf i (a.add 1)=some (vX xh E)/\
 Br (A==E)
 (∃x,cellOf i (r.add 2)=some (vX xh x)/\
 ac xl (qf 3 (r.add 2) (qc xh (x+1))) i fun _ T=>
 K3 (qc xh (d+1)) T)
 (K3 (qc xh (d+1)) i))
 (K2 (qc xh (g+1)) s)) (0:Int) z)
 (∃B:Int×Int×Int×Sl,aj e r 0 B/\
 ac xl (qf 69 t B) e fun _ w=>
 ∃j:Int×Int×Int×Sl,aj w t 0 j/\
 R (.tuple #[j,(vX xh (0:Int))]) w)) (0:Int) S)
 (fun K1=>
 ∃c,cellOf u (a.add 2)=some (vX xh c)/\
 ∃b:Sl,cellOf u (a.add 3)=some (b:Value)/\
 ∃k:Sl,cellOf u (a.add 3)=some (k:Value)/\
 (ag xl 79 #[k] aK u fun V h8=>
 (ar.ok [(a.add 3,b),(a.add 2,c)] h8)/\
 aQ xl (qK 69 true (.tuple #[])) h8 fun N h9=>
 (ar.ok [(a.add 3,b),(a.add 2,c)] h9)/\
 ac xl (qf 69 N (xg #[c,(vX xh (b.len:Int)),(vX xh (0:Int)),V])) h9 fun _ K=>
 (ar.ok [] K)/\
 K1 N K)/\(aQ xl (qK 69 true (.tuple #[])) u fun H L=>
 (ar.ok [(a.add 3,k),(a.add 3,b),(a.add 2,c)] L)/\
 ag xl 79 #[k] aK L fun Y y=>
 (ar.ok [(a.add 3,b),(a.add 2,c)] y)/\
 ac xl (qf 69 H (xg #[c,(vX xh (b.len:Int)),(vX xh (0:Int)),Y])) y fun _ G=>
 (ar.ok [] G)/\
 K1 H G))))
theorem Em(b:Option Addr)(a:ByteArray)(c: @th R h b a):ae xl 29 #[b,a] h R:=au af Tryz.func29 (al.tn (al.tn (al.tn (al.tn (al.tn (.two (.join [(8,(.sc .adr))] [(8,9),(30,39)] .n) (.two (al.tn (.inn (.loop [(42,ba)] [(10,11),(12,13),(42,73)] (al.tn (al.tn (.two (.inn (al.tn (al.tn (.inn (.loop [(58,ba)] [(12,13),(58,72)] .n))))) .n)))))) .n))))))) c
abbrev Ou:FuncId:=30
def Fg(b:bH)(a:Int):Prop:=
 aQ xl (qL 24 b) h fun e g=>
 bf (σ:=Unit) (fun _ h3=>
 ∃d:bH,aj h3 e 0 d/\
 ag xl 81 #[d] bt h3 fun f k=>
 (f≠0)/\
 R (qc xh ((qc xh (wH (qc xh (a-1)) f))+1)) k)
 (fun i=>
 ∃x2:bH,aj g e 0 x2/\
 ag xl 39 #[x2] bX g fun j c=>
 Br (!j) (R (vX xh (0:Int)) c) (Br (a<=0)
 (R (vX xh (0:Int)) c)
 (i () c)))
theorem Mb(b:bH)(a:Int)(c: @Fg R h b a):ae xl 30 #[b,a] h R:=au af Tryz.func30 (al.tn (.two (.join [] [(4,12)] .n) .n)) c
abbrev FQ:FuncId:=34
def tj(a:Option Addr):Prop:=
 ag xl 86 #[a] bX h fun n b=>
 Br (!n)
 (R false b)
 (∃k,(a=some k)/\
 ∃x3:Bool,cellOf b (k.add 1)=some (xf x3)/\
 Br (!x3)
 (R true b)
 (∃a4,(a=some a4)/\
 ∃g,cellOf b (a4.add 2)=some (vX xh g)/\
 Br (g==0)
 (∃f,(a=some f)/\
 ac xl (qf 4 f true) b fun _ l=>
 ∃j,(a=some j)/\
 ∃i,cellOf l (j.add 3)=some (vX xh i)/\
 ∃a9,(a=some a9)/\
 ac xl (qf 3 (a9.add 3) (qc xh (i+1))) l fun _ h3=>
 R false h3)
 (∃c,(a=some c)/\
 ∃e,cellOf b (c.add 2)=some (vX xh e)/\
 ∃d,(a=some d)/\
 ac xl (qf 3 (d.add 2) (qc xh (e-1))) b fun _ m=>
 R true m)))
theorem En(a:Option Addr)(b: @tj R h a):ae xl 34 #[a] h R:=au af Tryz.func34 .n b
abbrev AB:FuncId:=36
def oc(b:Int)(c:Int)(d:Int):Prop:=
 aQ xl (qK 24 true (.tuple #[])) h fun e m=>
 ag xl 10 #[b,(vX xh (6:Int))] bt m fun g l=>
 ag xl 10 #[c,(vX xh (3:Int))] bt l fun i h3=>
 ag xl 10 #[d,(vX xh (9:Int))] bt h3 fun j k=>
 ac xl (qf 24 e (xg #[(qc xh (1+g)),(qc xh (1+i)),(qc xh (1+j))])) k fun _ f=>
 ∃a:bH,aj f e 0 a/\
 R a f
theorem xP(a:Int)(b:Int)(c:Int)(d: @oc R h a b c):ae xl 36 #[a,b,c] h R:=au af Tryz.func36 .n d
end
end Go.Proofs.YtdhamoojccmbdaaGreatDoor
