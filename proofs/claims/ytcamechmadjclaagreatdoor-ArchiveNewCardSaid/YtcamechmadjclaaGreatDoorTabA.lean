/- Part of the proofs that the laws of this seat answer true whatever the input reads, and leave it as it was; no condition. -/
import Derived.Test.YtcamechmadjclaaGreatDoorPlA
import Derived.Test.YtcamechmadjclaaGreatDoorProg
set_option linter.unusedVariables false
set_option linter.unusedSimpArgs false
open Go.Proofs.Tryz renaming prog -> wS
open Go.Value renaming agg -> wN, bool -> wM, int -> wI, pointer -> wK, slice -> wJ, string -> wL
open Go.IntKind renaming i64 -> wO, u32 -> wQ, wrap -> qa
open List renaming range -> zf, replicate -> qd, toArray -> wv
open Go.Instr renaming alloc -> qC, box -> qA, build -> zy, buildSlice -> qg, storeAt -> qb
open Option renaming isNone -> qo
open Go.Builtin renaming append_ -> qh
open Int renaming tdiv -> wC
set_option maxRecDepth 1000000
namespace Go.Proofs.YtcamechmadjclaaGreatDoor
noncomputable section
open Go Go.Vc Go.Proofs
instance:Coe Int Value:=⟨fun x=>wI wO x⟩
instance:Coe Sl Value:=⟨fun s=>wJ s.ptr s.len s.cap⟩
instance:Coe ByteArray Value:=⟨.string⟩
instance:Coe (Option Addr) Value:=⟨.pointer⟩
instance:Coe Addr Value:=⟨fun a=>wK (some a)⟩
instance:Coe Bool Value:=⟨.bool⟩
instance:Coe (Int×Int×Int) (List Value):=⟨fun x=>[x.1,x.2.1,x.2.2]⟩
instance:Coe (Int×Int×Int) Value:=⟨fun x=>wN (wv x)⟩
instance:Coe (Int×ByteArray×Sl×Int×Int×Int×Int×Sl×Sl) (List Value):=⟨fun x=>[x.1,x.2.1,x.2.2.1,x.2.2.2.1,x.2.2.2.2.1,x.2.2.2.2.2.1,(wI wQ x.2.2.2.2.2.2.1),x.2.2.2.2.2.2.2.1,x.2.2.2.2.2.2.2.2]⟩
instance:Coe (Int×ByteArray×Sl×Int×Int×Int×Int×Sl×Sl) Value:=⟨fun x=>wN (wv x)⟩
instance:Coe (Int×Sl×Sl×Int×Int×Int×Sl×Int) (List Value):=⟨fun x=>[x.1,x.2.1,x.2.2.1,x.2.2.2.1,x.2.2.2.2.1,x.2.2.2.2.2.1,x.2.2.2.2.2.2.1,x.2.2.2.2.2.2.2]⟩
instance:Coe (Int×Sl×Sl×Int×Int×Int×Sl×Int) Value:=⟨fun x=>wN (wv x)⟩
instance:Coe (Int×Int×Int×Int×Int×Int×Sl×Sl) (List Value):=⟨fun x=>[x.1,x.2.1,x.2.2.1,x.2.2.2.1,x.2.2.2.2.1,x.2.2.2.2.2.1,x.2.2.2.2.2.2.1,x.2.2.2.2.2.2.2]⟩
instance:Coe (Int×Int×Int×Int×Int×Int×Sl×Sl) Value:=⟨fun x=>wN (wv x)⟩
instance:Coe (Int×Sl) (List Value):=⟨fun x=>[x.1,x.2]⟩
instance:Coe (Int×Sl) Value:=⟨fun x=>wN (wv x)⟩
instance:Coe (ByteArray×Int×Int×Sl) (List Value):=⟨fun x=>[x.1,x.2.1,x.2.2.1,x.2.2.2]⟩
instance:Coe (ByteArray×Int×Int×Sl) Value:=⟨fun x=>wN (wv x)⟩
abbrev bI:=Int×Int×Int×Int×Int×Int×Sl×Sl
abbrev bS:=Int×Int×Int
abbrev kv:=ByteArray×Int×Int×Sl
abbrev aH:Rt:=.one (.sc .slc)
abbrev cb:Rt:=.one (.sc (.int .i64))
abbrev fH:Rt:=.one (.sc .ptr)
abbrev bJ:Rt:=.one (.sc .bool)
abbrev yg:Rt:=.many []
abbrev cz:Ty:=.sc .slc
abbrev be:Ty:=.sc (.int .i64)
abbrev se:Ty:=.sc .ptr
abbrev uQ:Ty:=.sc .bool
abbrev yr:Ty:=.sc .str
variable {R:Value->Heap->Prop} {h:Heap}
def mm:ByteArray:=⟨#[]⟩
abbrev aL:Nat:=3
abbrev aA:Nat:=5
abbrev aw:Nat:=23
abbrev vI:Nat:=24
abbrev bw:Nat:=36
abbrev ey:Nat:=41
abbrev fI:Nat:=45
abbrev mS:Nat:=48
abbrev bA:Nat:=60
abbrev cW:Nat:=63
abbrev gY:Nat:=67
abbrev ck:Nat:=70
abbrev oS:Nat:=72
abbrev al:Nat:=74
abbrev bW:Nat:=76
abbrev aS:Nat:=85
abbrev db:Nat:=91
abbrev pQ:Nat:=92
abbrev oT:Nat:=96
abbrev bf:Nat:=107
abbrev bs:Nat:=137
abbrev bL:Nat:=148
abbrev cI:Nat:=151
abbrev iD:Nat:=154
abbrev bl:Nat:=155
abbrev dJ:Nat:=210
abbrev ah:TI:=⟨.fn,(.sc .fn),1,8,[.nilFunc]⟩
abbrev ws:TI:=⟨.int .i64,(.sc (.int .i64)),1,8,[(.int .i64 0)]⟩
abbrev wt:TI:=⟨.int .u8,(.sc (.int .u8)),1,1,[(.int .u8 0)]⟩
abbrev xF:TI:=⟨.str,(.sc .str),1,16,[(.string ⟨#[]⟩)]⟩
abbrev ww:TI:=⟨.int .u64,(.sc (.int .u64)),1,8,[(.int .u64 0)]⟩
abbrev xG:TI:=⟨.int .i32,(.sc (.int .i32)),1,4,[(.int .i32 0)]⟩
abbrev wT:TI:=⟨.struct [(0,3),(1,3),(2,3)],(.agg [(.int .i64),(.int .i64),(.int .i64)]),3,24,[(.int .i64 0),(.int .i64 0),(.int .i64 0)]⟩
abbrev tz:TI:=⟨.other,(.sc .any),1,0,[(.tuple #[(.pointer none),(.int .i64 0)])]⟩
abbrev wU:TI:=⟨.struct [(0,4),(1,4),(2,3),(3,3)],(.agg [.bool,.bool,(.int .i64),(.int .i64)]),4,24,[(.bool .false),(.bool .false),(.int .i64 0),(.int .i64 0)]⟩
abbrev xH:TI:=⟨.other,(.sc .any),1,0,[(.tuple #[(.int .i64 0),(.int .i64 0)])]⟩
abbrev tW:TI:=⟨.other,(.sc .any),1,0,[(.tuple #[(.slice none 0 0),(.bool .false)])]⟩
abbrev vJ:TI:=⟨.other,(.sc .any),1,0,[(.tuple #[(.slice none 0 0),(.int .i64 0)])]⟩
abbrev sf:TI:=⟨.struct [(0,3),(1,36)],(.agg [(.int .i64),.slc]),2,32,[(.int .i64 0),(.slice none 0 0)]⟩
def wV:ed:=[⟨.other,(.sc .any),1,0,[(.tuple #[])]⟩,ah,ws,ws,⟨.bool,(.sc .bool),1,1,[(.bool .false)]⟩,wt,wt,⟨.struct [(0,2),(1,3),(2,4),(3,6)],(.agg [(.int .i64),(.int .i64),.bool,(.int .u8)]),4,24,[(.int .i64 0),(.int .i64 0),(.bool .false),(.int .u8 0)]⟩,⟨.struct [(0,2),(1,3),(2,4),(3,6)],(.agg [(.int .i64),(.int .i64),.bool,(.int .u8)]),4,24,[(.int .i64 0),(.int .i64 0),(.bool .false),(.int .u8 0)]⟩,xF,xF,xF,ww,⟨.struct [(0,9),(1,12)],(.agg [.str,(.int .u64)]),2,24,[(.string ⟨#[]⟩),(.int .u64 0)]⟩,⟨.struct [(0,9),(1,12)],(.agg [.str,(.int .u64)]),2,24,[(.string ⟨#[]⟩),(.int .u64 0)]⟩,⟨.ptr 458,(.sc .ptr),1,8,[(.pointer none)]⟩,⟨.ptr 461,(.sc .ptr),1,8,[(.pointer none)]⟩,⟨.ptr 468,(.sc .ptr),1,8,[(.pointer none)]⟩,⟨.struct [(0,17)],(.agg [.ptr]),1,8,[(.pointer none)]⟩,⟨.struct [(0,17)],(.agg [.ptr]),1,8,[(.pointer none)]⟩,⟨.other,(.sc .any),1,16,[.nilIface]⟩,xG,wT,wT,⟨.slice 3,(.sc .slc),1,24,[(.slice none 0 0)]⟩,ah,⟨.other,(.sc .any),1,0,[(.tuple #[(.agg #[(.int .i64 0),(.int .i64 0),(.int .i64 0)]),(.int .i64 0),(.slice none 0 0)])]⟩,ah,⟨.ptr 60,(.sc .ptr),1,8,[(.pointer none)]⟩,ws,tz,ah,⟨.ptr 70,(.sc .ptr),1,8,[(.pointer none)]⟩,tz,ah,ah,⟨.slice 5,(.sc .slc),1,24,[(.slice none 0 0)]⟩,⟨.slice 9,(.sc .slc),1,24,[(.slice none 0 0)]⟩,⟨.struct [(0,3),(1,3),(2,3),(3,24)],(.agg [(.int .i64),(.int .i64),(.int .i64),.slc]),4,48,[(.int .i64 0),(.int .i64 0),(.int .i64 0),(.slice none 0 0)]⟩,⟨.struct [(0,3),(1,3),(2,3),(3,24)],(.agg [(.int .i64),(.int .i64),(.int .i64),.slc]),4,48,[(.int .i64 0),(.int .i64 0),(.int .i64 0),(.slice none 0 0)]⟩,⟨.struct [(0,29),(1,36),(2,37),(3,39),(7,3)],(.agg [(.int .i64),.slc,.slc,(.int .i64),(.int .i64),(.int .i64),.slc,(.int .i64)]),8,112,[(.int .i64 0),(.slice none 0 0),(.slice none 0 0),(.int .i64 0),(.int .i64 0),(.int .i64 0),(.slice none 0 0),(.int .i64 0)]⟩,⟨.struct [(0,29),(1,36),(2,37),(3,39),(7,3)],(.agg [(.int .i64),.slc,.slc,(.int .i64),(.int .i64),(.int .i64),.slc,(.int .i64)]),8,112,[(.int .i64 0),(.slice none 0 0),(.slice none 0 0),(.int .i64 0),(.int .i64 0),(.int .i64 0),(.slice none 0 0),(.int .i64 0)]⟩,ah,⟨.int .u32,(.sc (.int .u32)),1,4,[(.int .u32 0)]⟩,⟨.struct [(0,3),(1,9),(2,36),(3,3),(4,3),(5,3),(6,43),(7,24),(8,24)],(.agg [(.int .i64),.str,.slc,(.int .i64),(.int .i64),(.int .i64),(.int .u32),.slc,.slc]),9,128,[(.int .i64 0),(.string ⟨#[]⟩),(.slice none 0 0),(.int .i64 0),(.int .i64 0),(.int .i64 0),(.int .u32 0),(.slice none 0 0),(.slice none 0 0)]⟩,⟨.struct [(0,3),(1,9),(2,36),(3,3),(4,3),(5,3),(6,43),(7,24),(8,24)],(.agg [(.int .i64),.str,.slc,(.int .i64),(.int .i64),(.int .i64),(.int .u32),.slc,.slc]),9,128,[(.int .i64 0),(.string ⟨#[]⟩),(.slice none 0 0),(.int .i64 0),(.int .i64 0),(.int .i64 0),(.int .u32 0),(.slice none 0 0),(.slice none 0 0)]⟩,⟨.ptr 91,(.sc .ptr),1,8,[(.pointer none)]⟩,ah,⟨.ptr 148,(.sc .ptr),1,8,[(.pointer none)]⟩,ah,ah,ah,ah,ah,⟨.ptr 85,(.sc .ptr),1,8,[(.pointer none)]⟩,ah,tz,ah,⟨.array 64 48,(.arr .ptr),64,512,qd 64 (.pointer none)⟩,⟨.struct [(0,54),(1,46),(2,58)],(.arr .any),66,528,qd 66 (.pointer none)⟩,⟨.struct [(0,54),(1,46),(2,58)],(.arr .any),66,528,qd 66 (.pointer none)⟩,⟨.ptr 63,(.sc .ptr),1,8,[(.pointer none)]⟩,wU,wU,⟨.ptr 76,(.sc .ptr),1,8,[(.pointer none)]⟩,tz,ah,⟨.ptr 107,(.sc .ptr),1,8,[(.pointer none)]⟩,⟨.array 64 67,(.arr .ptr),64,512,qd 64 (.pointer none)⟩,⟨.struct [(0,64),(1,61),(2,68)],(.arr .any),66,528,qd 66 (.pointer none)⟩,⟨.struct [(0,64),(1,61),(2,68)],(.arr .any),66,528,qd 66 (.pointer none)⟩,ah,⟨.slice 137,(.sc .slc),1,24,[(.slice none 0 0)]⟩,⟨.struct [(0,3),(1,3),(2,23),(5,3),(6,24),(7,72)],(.agg [(.int .i64),(.int .i64),(.int .i64),(.int .i64),(.int .i64),(.int .i64),.slc,.slc]),8,96,[(.int .i64 0),(.int .i64 0),(.int .i64 0),(.int .i64 0),(.int .i64 0),(.int .i64 0),(.slice none 0 0),(.slice none 0 0)]⟩,⟨.struct [(0,3),(1,3),(2,23),(5,3),(6,24),(7,72)],(.agg [(.int .i64),(.int .i64),(.int .i64),(.int .i64),(.int .i64),(.int .i64),.slc,.slc]),8,96,[(.int .i64 0),(.int .i64 0),(.int .i64 0),(.int .i64 0),(.int .i64 0),(.int .i64 0),(.slice none 0 0),(.slice none 0 0)]⟩,⟨.struct [(0,74),(8,61),(9,3),(10,68)],(.arr .any),74,624,[(.int .i64 0),(.int .i64 0),(.int .i64 0),(.int .i64 0),(.int .i64 0),(.int .i64 0),(.slice none 0 0),(.slice none 0 0),(.pointer none),(.int .i64 0)]++qd 64 (.pointer none)⟩,⟨.struct [(0,74),(8,61),(9,3),(10,68)],(.arr .any),74,624,[(.int .i64 0),(.int .i64 0),(.int .i64 0),(.int .i64 0),(.int .i64 0),(.int .i64 0),(.slice none 0 0),(.slice none 0 0),(.pointer none),(.int .i64 0)]++qd 64 (.pointer none)⟩,ah,ah,ah,xH,ah,ah,ah,wU,wU,tW,ah,ah,ah,⟨.struct [(0,74),(8,54),(9,3),(10,58)],(.arr .any),74,624,[(.int .i64 0),(.int .i64 0),(.int .i64 0),(.int .i64 0),(.int .i64 0),(.int .i64 0),(.slice none 0 0),(.slice none 0 0),(.pointer none),(.int .i64 0)]++qd 64 (.pointer none)⟩,⟨.struct [(0,74),(8,54),(9,3),(10,58)],(.arr .any),74,624,[(.int .i64 0),(.int .i64 0),(.int .i64 0),(.int .i64 0),(.int .i64 0),(.int .i64 0),(.slice none 0 0),(.slice none 0 0),(.pointer none),(.int .i64 0)]++qd 64 (.pointer none)⟩,⟨.slice 36,(.sc .slc),1,24,[(.slice none 0 0)]⟩,ah,ah,ah,⟨.slice 151,(.sc .slc),1,24,[(.slice none 0 0)]⟩,ah,⟨.other,(.sc .any),1,0,[(.tuple #[(.agg #[(.int .i64 0),(.int .i64 0),(.int .i64 0),(.int .i64 0),(.int .i64 0),(.int .i64 0),(.slice none 0 0),(.slice none 0 0)]),(.int .i64 0)])]⟩,ah,ah,ah,ah,ah,ah,ah,⟨.struct [(0,3),(1,61),(2,92),(3,3),(4,4),(5,92),(6,4)],(.agg [(.int .i64),.ptr,.slc,(.int .i64),.bool,.slc,.bool]),7,88,[(.int .i64 0),(.pointer none),(.slice none 0 0),(.int .i64 0),(.bool .false),(.slice none 0 0),(.bool .false)]⟩,⟨.struct [(0,3),(1,61),(2,92),(3,3),(4,4),(5,92),(6,4)],(.agg [(.int .i64),.ptr,.slc,(.int .i64),.bool,.slc,.bool]),7,88,[(.int .i64 0),(.pointer none),(.slice none 0 0),(.int .i64 0),(.bool .false),(.slice none 0 0),(.bool .false)]⟩,ah,ah,ah,ah,ah,vJ,ah,ah,ah,⟨.other,(.sc .any),1,0,[(.tuple #[(.agg #[(.int .i64 0),(.int .i64 0),(.int .i64 0),(.slice none 0 0)]),(.int .i64 0)])]⟩,ah,ah,ah,ah,ah,ah,ah,ah,⟨.ptr 129,(.sc .ptr),1,8,[(.pointer none)]⟩,⟨.array 64 3,(.arr (.int .i64)),64,512,qd 64 (.int .i64 0)⟩,⟨.struct [(0,46),(1,74),(9,74),(17,24),(18,3),(19,127),(83,96)],(.arr .any),84,768,[(.pointer none),(.int .i64 0),(.int .i64 0),(.int .i64 0),(.int .i64 0),(.int .i64 0),(.int .i64 0),(.slice none 0 0),(.slice none 0 0),(.int .i64 0),(.int .i64 0),(.int .i64 0),(.int .i64 0),(.int .i64 0),(.int .i64 0),(.slice none 0 0),(.slice none 0 0),(.slice none 0 0)]++qd 65 (.int .i64 0)++[(.slice none 0 0)]⟩,⟨.struct [(0,46),(1,74),(9,74),(17,24),(18,3),(19,127),(83,96)],(.arr .any),84,768,[(.pointer none),(.int .i64 0),(.int .i64 0),(.int .i64 0),(.int .i64 0),(.int .i64 0),(.int .i64 0),(.slice none 0 0),(.slice none 0 0),(.int .i64 0),(.int .i64 0),(.int .i64 0),(.int .i64 0),(.int .i64 0),(.int .i64 0),(.slice none 0 0),(.slice none 0 0),(.slice none 0 0)]++qd 65 (.int .i64 0)++[(.slice none 0 0)]⟩,ah,ah,⟨.ptr 134,(.sc .ptr),1,8,[(.pointer none)]⟩,⟨.struct [(0,46),(1,74),(9,24),(10,3),(11,3),(12,3)],(.agg [.ptr,(.int .i64),(.int .i64),(.int .i64),(.int .i64),(.int .i64),(.int .i64),.slc,.slc,.slc,(.int .i64),(.int .i64),(.int .i64)]),13,152,[(.pointer none),(.int .i64 0),(.int .i64 0),(.int .i64 0),(.int .i64 0),(.int .i64 0),(.int .i64 0),(.slice none 0 0),(.slice none 0 0),(.slice none 0 0),(.int .i64 0),(.int .i64 0),(.int .i64 0)]⟩,⟨.struct [(0,46),(1,74),(9,24),(10,3),(11,3),(12,3)],(.agg [.ptr,(.int .i64),(.int .i64),(.int .i64),(.int .i64),(.int .i64),(.int .i64),.slc,.slc,.slc,(.int .i64),(.int .i64),(.int .i64)]),13,152,[(.pointer none),(.int .i64 0),(.int .i64 0),(.int .i64 0),(.int .i64 0),(.int .i64 0),(.int .i64 0),(.slice none 0 0),(.slice none 0 0),(.slice none 0 0),(.int .i64 0),(.int .i64 0),(.int .i64 0)]⟩,ah,⟨.struct [(0,9),(1,3),(2,3),(3,24)],(.agg [.str,(.int .i64),(.int .i64),.slc]),4,56,[(.string ⟨#[]⟩),(.int .i64 0),(.int .i64 0),(.slice none 0 0)]⟩,⟨.struct [(0,9),(1,3),(2,3),(3,24)],(.agg [.str,(.int .i64),(.int .i64),.slc]),4,56,[(.string ⟨#[]⟩),(.int .i64 0),(.int .i64 0),(.slice none 0 0)]⟩,ah,⟨.other,(.sc .any),1,0,[(.tuple #[(.int .i64 0),(.slice none 0 0),(.bool .false)])]⟩,ah,ah,ah,ah,⟨.slice 48,(.sc .slc),1,24,[(.slice none 0 0)]⟩,ah,ah,⟨.struct [(0,54),(1,3),(2,92),(3,3),(4,92),(5,4),(6,4)],(.agg [.ptr,(.int .i64),.slc,(.int .i64),.slc,.bool,.bool]),7,80,[(.pointer none),(.int .i64 0),(.slice none 0 0),(.int .i64 0),(.slice none 0 0),(.bool .false),(.bool .false)]⟩,⟨.struct [(0,54),(1,3),(2,92),(3,3),(4,92),(5,4),(6,4)],(.agg [.ptr,(.int .i64),.slc,(.int .i64),.slc,.bool,.bool]),7,80,[(.pointer none),(.int .i64 0),(.slice none 0 0),(.int .i64 0),(.slice none 0 0),(.bool .false),(.bool .false)]⟩,ah,sf,sf,ah,ah,⟨.slice 155,(.sc .slc),1,24,[(.slice none 0 0)]⟩,sf,ah,ah,ah,ah,ah,ah,ah,ah,ah,tW,ah,ah,ah,ah,ah,ah,⟨.slice 228,(.sc .slc),1,24,[(.slice none 0 0)]⟩,ah,ah,ah,tW,ah,ah,ah,⟨.slice 183,(.sc .slc),1,24,[(.slice none 0 0)]⟩,ah,⟨.struct [(0,3),(1,3),(2,3),(3,23),(6,43),(7,36)],(.agg [(.int .i64),(.int .i64),(.int .i64),(.int .i64),(.int .i64),(.int .i64),(.int .u32),.slc]),8,80,[(.int .i64 0),(.int .i64 0),(.int .i64 0),(.int .i64 0),(.int .i64 0),(.int .i64 0),(.int .u32 0),(.slice none 0 0)]⟩,⟨.struct [(0,3),(1,3),(2,3),(3,23),(6,43),(7,36)],(.agg [(.int .i64),(.int .i64),(.int .i64),(.int .i64),(.int .i64),(.int .i64),(.int .u32),.slc]),8,80,[(.int .i64 0),(.int .i64 0),(.int .i64 0),(.int .i64 0),(.int .i64 0),(.int .i64 0),(.int .u32 0),(.slice none 0 0)]⟩,ah,ah,ww,ah,ah,ah,ah,ah,ah,ah,ah,ah,ah,⟨.ptr 204,(.sc .ptr),1,8,[(.pointer none)]⟩,tz,ah,ah,⟨.ptr 276,(.sc .ptr),1,8,[(.pointer none)]⟩,⟨.slice 24,(.sc .slc),1,24,[(.slice none 0 0)]⟩,⟨.struct [(0,3),(1,3),(2,43),(3,201),(4,202),(5,24)],(.agg [(.int .i64),(.int .i64),(.int .u32),.ptr,.slc,.slc]),6,80,[(.int .i64 0),(.int .i64 0),(.int .u32 0),(.pointer none),(.slice none 0 0),(.slice none 0 0)]⟩,⟨.struct [(0,3),(1,3),(2,43),(3,201),(4,202),(5,24)],(.agg [(.int .i64),(.int .i64),(.int .u32),.ptr,.slc,.slc]),6,80,[(.int .i64 0),(.int .i64 0),(.int .u32 0),(.pointer none),(.slice none 0 0),(.slice none 0 0)]⟩,ah,⟨.other,(.sc .any),1,0,[(.tuple #[(.agg #[(.int .i64 0),(.int .i64 0),(.int .i64 0),(.int .i64 0),(.int .i64 0),(.int .i64 0),(.slice none 0 0),(.slice none 0 0)]),(.bool .false)])]⟩,ah,ah,ah,⟨.array 64 4,(.arr .bool),64,64,qd 64 (.bool .false)⟩,ah,ah,⟨.other,(.sc .any),1,0,[(.tuple #[(.int .i64 0),(.bool .false)])]⟩,ah,ah,ah,tz,ah,ah,ah,ah,ah,ah,ah,ah,ah,sf,sf,ah,ah,ah,ah,ah,vJ,ah,ah,⟨.other,(.sc .any),1,0,[(.tuple #[(.agg #[(.int .i64 0),(.int .i64 0),(.int .i64 0),(.int .i64 0),(.int .i64 0),(.int .i64 0),(.int .u32 0),(.slice none 0 0)]),(.bool .false)])]⟩,ah,ah,ah,ah,ah,ah,ah,ws,xH,ah,ah,ah,ah,ah,ah,ww,ah,ah,ah,⟨.mp,(.sc .mp),1,8,[(.map none)]⟩,wT,wT,ah,ah,ah,⟨.other,(.sc .any),1,0,[(.tuple #[(.slice none 0 0),(.bool .false),(.int .i64 0)])]⟩,ah,ah,ah,⟨.slice 74,(.sc .slc),1,24,[(.slice none 0 0)]⟩,ah,ah,ah,⟨.ptr 344,(.sc .ptr),1,8,[(.pointer none)]⟩,ah,ah,ah,⟨.struct [(0,23),(3,43),(4,92)],(.agg [(.int .i64),(.int .i64),(.int .i64),(.int .u32),.slc]),5,56,[(.int .i64 0),(.int .i64 0),(.int .i64 0),(.int .u32 0),(.slice none 0 0)]⟩,⟨.struct [(0,23),(3,43),(4,92)],(.agg [(.int .i64),(.int .i64),(.int .i64),(.int .u32),.slc]),5,56,[(.int .i64 0),(.int .i64 0),(.int .i64 0),(.int .u32 0),(.slice none 0 0)]⟩,⟨.cpx,(.sc (.cpx .f64)),1,16,[(.complex Go.FloatKind.f64 0 0)]⟩,ah,⟨.slice 283,(.sc .slc),1,24,[(.slice none 0 0)]⟩,⟨.flt,(.sc (.flt .f64)),1,8,[(.float Go.FloatKind.f64 0)]⟩,ah,⟨.struct [(0,3),(1,280)],(.agg [(.int .i64),(.flt .f64)]),2,16,[(.int .i64 0),(.float Go.FloatKind.f64 0)]⟩,⟨.struct [(0,3),(1,280)],(.agg [(.int .i64),(.flt .f64)]),2,16,[(.int .i64 0),(.float Go.FloatKind.f64 0)]⟩,ah,ah,ah,ah,ah,ah,ah,ah,ah,⟨.slice 295,(.sc .slc),1,24,[(.slice none 0 0)]⟩,⟨.struct [(0,24),(1,36)],(.agg [.slc,.slc]),2,48,[(.slice none 0 0),(.slice none 0 0)]⟩,⟨.struct [(0,24),(1,36)],(.agg [.slc,.slc]),2,48,[(.slice none 0 0),(.slice none 0 0)]⟩,⟨.ptr 301,(.sc .ptr),1,8,[(.pointer none)]⟩,⟨.slice 368,(.sc .slc),1,24,[(.slice none 0 0)]⟩,⟨.struct [(0,297),(1,24),(2,24)],(.agg [.slc,.slc,.slc]),3,72,[(.slice none 0 0),(.slice none 0 0),(.slice none 0 0)]⟩,⟨.struct [(0,297),(1,24),(2,24)],(.agg [.slc,.slc,.slc]),3,72,[(.slice none 0 0),(.slice none 0 0),(.slice none 0 0)]⟩,⟨.struct [(0,271),(1,23),(4,92),(5,293),(6,299),(9,92),(10,92)],(.agg [.ptr,(.int .i64),(.int .i64),(.int .i64),.slc,.slc,.slc,.slc,.slc,.slc,.slc]),11,200,[(.pointer none),(.int .i64 0),(.int .i64 0),(.int .i64 0),(.slice none 0 0),(.slice none 0 0),(.slice none 0 0),(.slice none 0 0),(.slice none 0 0),(.slice none 0 0),(.slice none 0 0)]⟩,⟨.struct [(0,271),(1,23),(4,92),(5,293),(6,299),(9,92),(10,92)],(.agg [.ptr,(.int .i64),(.int .i64),(.int .i64),.slc,.slc,.slc,.slc,.slc,.slc,.slc]),11,200,[(.pointer none),(.int .i64 0),(.int .i64 0),(.int .i64 0),(.slice none 0 0),(.slice none 0 0),(.slice none 0 0),(.slice none 0 0),(.slice none 0 0),(.slice none 0 0),(.slice none 0 0)]⟩,⟨.slice 4,(.sc .slc),1,24,[(.slice none 0 0)]⟩,⟨.other,(.sc .any),1,0,[(.tuple #[(.slice none 0 0),(.slice none 0 0),(.slice none 0 0),(.int .i64 0)])]⟩,ah,ah,⟨.other,(.sc .any),1,0,[(.tuple #[(.slice none 0 0),(.slice none 0 0)])]⟩,ah,ah,ah,⟨.ptr 380,(.sc .ptr),1,8,[(.pointer none)]⟩,ah,ah,ah,ah,ah,⟨.ptr 5,(.sc .ptr),1,8,[(.pointer none)]⟩,ah,ah,ww,ah,ah,ah,⟨.ptr 3,(.sc .ptr),1,8,[(.pointer none)]⟩,ah,ah,vJ,ah,⟨.ptr 387,(.sc .ptr),1,8,[(.pointer none)]⟩,ah,ah,⟨.slice 92,(.sc .slc),1,24,[(.slice none 0 0)]⟩,ah,ah,ah,ah,ah,ah,ah,⟨.array 255 5,(.arr (.int .u8)),255,255,qd 255 (.int .u8 0)⟩,ah,⟨.array 256 3,(.arr (.int .i64)),256,2048,qd 256 (.int .i64 0)⟩,ah,⟨.struct [(0,339),(255,341)],(.arr .any),511,2304,qd 255 (.int .u8 0)++qd 256 (.int .i64 0)⟩,⟨.struct [(0,339),(255,341)],(.arr .any),511,2304,qd 255 (.int .u8 0)++qd 256 (.int .i64 0)⟩,ah,⟨.ptr 349,(.sc .ptr),1,8,[(.pointer none)]⟩,ah,⟨.struct [(0,277),(1,277),(2,3),(3,3),(4,4)],(.agg [(.cpx .f64),(.cpx .f64),(.int .i64),(.int .i64),.bool]),5,56,[(.complex Go.FloatKind.f64 0 0),(.complex Go.FloatKind.f64 0 0),(.int .i64 0),(.int .i64 0),(.bool .false)]⟩,⟨.struct [(0,277),(1,277),(2,3),(3,3),(4,4)],(.agg [(.cpx .f64),(.cpx .f64),(.int .i64),(.int .i64),.bool]),5,56,[(.complex Go.FloatKind.f64 0 0),(.complex Go.FloatKind.f64 0 0),(.int .i64 0),(.int .i64 0),(.bool .false)]⟩,ah,ah,ah,ah,ah,ah,ah,ah,ah,ah,⟨.ptr 362,(.sc .ptr),1,8,[(.pointer none)]⟩,⟨.struct [(0,293),(1,302),(2,92)],(.agg [.slc,.slc,.slc]),3,72,[(.slice none 0 0),(.slice none 0 0),(.slice none 0 0)]⟩,⟨.struct [(0,293),(1,302),(2,92)],(.agg [.slc,.slc,.slc]),3,72,[(.slice none 0 0),(.slice none 0 0),(.slice none 0 0)]⟩,ah,⟨.other,(.sc .any),1,0,[(.tuple #[(.agg #[(.slice none 0 0),(.slice none 0 0),(.slice none 0 0)]),(.bool .false)])]⟩,ah,ah,⟨.struct [(0,3),(1,3)],(.agg [(.int .i64),(.int .i64)]),2,16,[(.int .i64 0),(.int .i64 0)]⟩,⟨.struct [(0,3),(1,3)],(.agg [(.int .i64),(.int .i64)]),2,16,[(.int .i64 0),(.int .i64 0)]⟩,ah,ah,ah,⟨.array 256 4,(.arr .bool),256,256,qd 256 (.bool .false)⟩,⟨.array 256 4,(.arr .bool),256,256,qd 256 (.bool .false)⟩,⟨.other,(.sc .any),1,0,[(.tuple #[(.agg #[(.bool .false),(.bool .false),(.bool .false),(.bool .false),(.bool .false),(.bool .false),(.bool .false),(.bool .false),(.bool .false),(.bool .false),(.bool .false),(.bool .false),(.bool .false),(.bool .false),(.bool .false),(.bool .false),(.bool .false),(.bool .false),(.bool .false),(.bool .false),(.bool .false),(.bool .false),(.bool .false),(.bool .false),(.bool .false),(.bool .false),(.bool .false),(.bool .false),(.bool .false),(.bool .false),(.bool .false),(.bool .false),(.bool .false),(.bool .false),(.bool .false),(.bool .false),(.bool .false),(.bool .false),(.bool .false),(.bool .false),(.bool .false),(.bool .false),(.bool .false),(.bool .false),(.bool .false),(.bool .false),(.bool .false),(.bool .false),(.bool .false),(.bool .false),(.bool .false),(.bool .false),(.bool .false),(.bool .false),(.bool .false),(.bool .false),(.bool .false),(.bool .false),(.bool .false),(.bool .false),(.bool .false),(.bool .false),(.bool .false),(.bool .false),(.bool .false),(.bool .false),(.bool .false),(.bool .false),(.bool .false),(.bool .false),(.bool .false),(.bool .false),(.bool .false),(.bool .false),(.bool .false),(.bool .false),(.bool .false),(.bool .false),(.bool .false),(.bool .false),(.bool .false),(.bool .false),(.bool .false),(.bool .false),(.bool .false),(.bool .false),(.bool .false),(.bool .false),(.bool .false),(.bool .false),(.bool .false),(.bool .false),(.bool .false),(.bool .false),(.bool .false),(.bool .false),(.bool .false),(.bool .false),(.bool .false),(.bool .false),(.bool .false),(.bool .false),(.bool .false),(.bool .false),(.bool .false),(.bool .false),(.bool .false),(.bool .false),(.bool .false),(.bool .false),(.bool .false),(.bool .false),(.bool .false),(.bool .false),(.bool .false),(.bool .false),(.bool .false),(.bool .false),(.bool .false),(.bool .false),(.bool .false),(.bool .false),(.bool .false),(.bool .false),(.bool .false),(.bool .false),(.bool .false),(.bool .false),(.bool .false),(.bool .false),(.bool .false),(.bool .false),(.bool .false),(.bool .false),(.bool .false),(.bool .false),(.bool .false),(.bool .false),(.bool .false),(.bool .false),(.bool .false),(.bool .false),(.bool .false),(.bool .false),(.bool .false),(.bool .false),(.bool .false),(.bool .false),(.bool .false),(.bool .false),(.bool .false),(.bool .false),(.bool .false),(.bool .false),(.bool .false),(.bool .false),(.bool .false),(.bool .false),(.bool .false),(.bool .false),(.bool .false),(.bool .false),(.bool .false),(.bool .false),(.bool .false),(.bool .false),(.bool .false),(.bool .false),(.bool .false),(.bool .false),(.bool .false),(.bool .false),(.bool .false),(.bool .false),(.bool .false),(.bool .false),(.bool .false),(.bool .false),(.bool .false),(.bool .false),(.bool .false),(.bool .false),(.bool .false),(.bool .false),(.bool .false),(.bool .false),(.bool .false),(.bool .false),(.bool .false),(.bool .false),(.bool .false),(.bool .false),(.bool .false),(.bool .false),(.bool .false),(.bool .false),(.bool .false),(.bool .false),(.bool .false),(.bool .false),(.bool .false),(.bool .false),(.bool .false),(.bool .false),(.bool .false),(.bool .false),(.bool .false),(.bool .false),(.bool .false),(.bool .false),(.bool .false),(.bool .false),(.bool .false),(.bool .false),(.bool .false),(.bool .false),(.bool .false),(.bool .false),(.bool .false),(.bool .false),(.bool .false),(.bool .false),(.bool .false),(.bool .false),(.bool .false),(.bool .false),(.bool .false),(.bool .false),(.bool .false),(.bool .false),(.bool .false),(.bool .false),(.bool .false),(.bool .false),(.bool .false),(.bool .false),(.bool .false),(.bool .false),(.bool .false),(.bool .false),(.bool .false),(.bool .false),(.bool .false),(.bool .false),(.bool .false),(.bool .false),(.bool .false),(.bool .false),(.bool .false),(.bool .false),(.bool .false),(.bool .false),(.bool .false),(.bool .false),(.bool .false),(.bool .false)]),(.bool .false)])]⟩,ah,ah,⟨.ptr 373,(.sc .ptr),1,8,[(.pointer none)]⟩,ah,⟨.struct [(0,253)],(.agg [(.int .u64)]),1,8,[(.int .u64 0)]⟩,⟨.struct [(0,253)],(.agg [(.int .u64)]),1,8,[(.int .u64 0)]⟩,ah,ah,⟨.ptr 319,(.sc .ptr),1,8,[(.pointer none)]⟩,xH,ah,⟨.struct [(0,271),(1,3),(2,92)],(.agg [.ptr,(.int .i64),.slc]),3,40,[(.pointer none),(.int .i64 0),(.slice none 0 0)]⟩,⟨.struct [(0,271),(1,3),(2,92)],(.agg [.ptr,(.int .i64),.slc]),3,40,[(.pointer none),(.int .i64 0),(.slice none 0 0)]⟩,ah,ah,ah,ah,ah,ah,ah,⟨.slice 397,(.sc .slc),1,24,[(.slice none 0 0)]⟩,⟨.struct [(0,3),(1,3),(2,3),(3,36),(4,36)],(.agg [(.int .i64),(.int .i64),(.int .i64),.slc,.slc]),5,72,[(.int .i64 0),(.int .i64 0),(.int .i64 0),(.slice none 0 0),(.slice none 0 0)]⟩,⟨.struct [(0,3),(1,3),(2,3),(3,36),(4,36)],(.agg [(.int .i64),(.int .i64),(.int .i64),.slc,.slc]),5,72,[(.int .i64 0),(.int .i64 0),(.int .i64 0),(.slice none 0 0),(.slice none 0 0)]⟩,⟨.other,(.sc .any),1,0,[(.tuple #[(.agg #[(.int .i64 0),(.int .i64 0),(.int .i64 0),(.slice none 0 0),(.slice none 0 0)]),(.bool .false)])]⟩,ah,⟨.mp,(.sc .mp),1,8,[(.map none)]⟩,tW,ah,ah,ah,ah,ah,ah,ah,ah,ah,ah,ah,ah,ah,ah,ah,ah,ah,ah,ah,⟨.ptr 423,(.sc .ptr),1,8,[(.pointer none)]⟩,⟨.struct [(0,202),(1,302),(2,302)],(.agg [.slc,.slc,.slc]),3,72,[(.slice none 0 0),(.slice none 0 0),(.slice none 0 0)]⟩,⟨.struct [(0,202),(1,302),(2,302)],(.agg [.slc,.slc,.slc]),3,72,[(.slice none 0 0),(.slice none 0 0),(.slice none 0 0)]⟩,ah,⟨.other,(.sc .any),1,0,[(.tuple #[(.agg #[(.int .i64 0),(.int .i64 0)]),(.bool .false)])]⟩,ah,ah,⟨.other,(.sc .any),1,0,[(.tuple #[(.int .i32 0),(.int .i64 0)])]⟩,ah,ah,ah,ah,ah,ah,ah,ah,ah,ah,ah,ah,ah,ah,ah,ah,⟨.ptr 447,(.sc .ptr),1,8,[(.pointer none)]⟩,⟨.struct [(0,36),(1,4)],(.agg [.slc,.bool]),2,32,[(.slice none 0 0),(.bool .false)]⟩,⟨.struct [(0,36),(1,4)],(.agg [.slc,.bool]),2,32,[(.slice none 0 0),(.bool .false)]⟩,ah,ah,ah,ah,⟨.array 256 5,(.arr (.int .u8)),256,256,qd 256 (.int .u8 0)⟩,⟨.struct [(0,5),(1,5)],(.agg [(.int .u8),(.int .u8)]),2,2,[(.int .u8 0),(.int .u8 0)]⟩,⟨.struct [(0,5),(1,5)],(.agg [(.int .u8),(.int .u8)]),2,2,[(.int .u8 0),(.int .u8 0)]⟩,⟨.array 16 454,(.arr (.int .u8)),32,32,qd 32 (.int .u8 0)⟩,ah,⟨.struct [(0,17),(1,17),(2,17),(3,9)],(.agg [.ptr,.ptr,.ptr,.str]),4,40,[(.pointer none),(.pointer none),(.pointer none),(.string ⟨#[]⟩)]⟩,⟨.struct [(0,17),(1,17),(2,17),(3,9)],(.agg [.ptr,.ptr,.ptr,.str]),4,40,[(.pointer none),(.pointer none),(.pointer none),(.string ⟨#[]⟩)]⟩,⟨.array 0 16,(.arr .ptr),0,0,[]⟩,⟨.struct [(0,459)],(.agg []),0,0,[]⟩,⟨.struct [(0,459)],(.agg []),0,0,[]⟩,wt,wt,ah,xG,xG,⟨.struct [(0,12),(1,12),(2,43),(3,462),(4,5),(5,5),(6,463),(7,464),(8,316),(9,465),(10,466)],(.agg [(.int .u64),(.int .u64),(.int .u32),(.int .u8),(.int .u8),(.int .u8),(.int .u8),.fn,.ptr,(.int .i32),(.int .i32)]),11,48,[(.int .u64 0),(.int .u64 0),(.int .u32 0),(.int .u8 0),(.int .u8 0),(.int .u8 0),(.int .u8 0),.nilFunc,(.pointer none),(.int .i32 0),(.int .i32 0)]⟩,⟨.struct [(0,12),(1,12),(2,43),(3,462),(4,5),(5,5),(6,463),(7,464),(8,316),(9,465),(10,466)],(.agg [(.int .u64),(.int .u64),(.int .u32),(.int .u8),(.int .u8),(.int .u8),(.int .u8),.fn,.ptr,(.int .i32),(.int .i32)]),11,48,[(.int .u64 0),(.int .u64 0),(.int .u32 0),(.int .u8 0),(.int .u8 0),(.int .u8 0),(.int .u8 0),.nilFunc,(.pointer none),(.int .i32 0),(.int .i32 0)]⟩,⟨.other,(.sc .any),1,8,[(.pointer none)]⟩]
def C:Ctx:={P:=wS,T:=wV,tup:=[(0,[]),(26,[(.agg [(.int .i64),(.int .i64),(.int .i64)]),(.sc (.int .i64)),(.sc .slc)]),(30,[(.sc .ptr),(.sc (.int .i64))]),(33,[(.sc .ptr),(.sc (.int .i64))]),(56,[(.sc .ptr),(.sc (.int .i64))]),(65,[(.sc .ptr),(.sc (.int .i64))]),(80,[(.sc (.int .i64)),(.sc (.int .i64))]),(86,[(.sc .slc),(.sc .bool)]),(98,[(.agg [(.int .i64),(.int .i64),(.int .i64),(.int .i64),(.int .i64),(.int .i64),.slc,.slc]),(.sc (.int .i64))]),(113,[(.sc .slc),(.sc (.int .i64))]),(117,[(.agg [(.int .i64),(.int .i64),(.int .i64),.slc]),(.sc (.int .i64))]),(139,[(.sc (.int .i64)),(.sc .slc),(.sc .bool)]),(165,[(.sc .slc),(.sc .bool)]),(176,[(.sc .slc),(.sc .bool)]),(198,[(.sc .ptr),(.sc (.int .i64))]),(206,[(.agg [(.int .i64),(.int .i64),(.int .i64),(.int .i64),(.int .i64),(.int .i64),.slc,.slc]),(.sc .bool)]),(213,[(.sc (.int .i64)),(.sc .bool)]),(217,[(.sc .ptr),(.sc (.int .i64))]),(234,[(.sc .slc),(.sc (.int .i64))]),(237,[(.agg [(.int .i64),(.int .i64),(.int .i64),(.int .i64),(.int .i64),(.int .i64),(.int .u32),.slc]),(.sc .bool)]),(246,[(.sc (.int .i64)),(.sc (.int .i64))]),(263,[(.sc .slc),(.sc .bool),(.sc (.int .i64))]),(303,[(.sc .slc),(.sc .slc),(.sc .slc),(.sc (.int .i64))]),(306,[(.sc .slc),(.sc .slc)]),(326,[(.sc .slc),(.sc (.int .i64))]),(364,[(.agg [.slc,.slc,.slc]),(.sc .bool)]),(374,[(.arr .bool),(.sc .bool)]),(384,[(.sc (.int .i64)),(.sc (.int .i64))]),(398,[(.agg [(.int .i64),(.int .i64),(.int .i64),.slc,.slc]),(.sc .bool)]),(401,[(.sc .slc),(.sc .bool)]),(425,[(.agg [(.int .i64),(.int .i64)]),(.sc .bool)]),(428,[(.sc (.int .i32)),(.sc (.int .i64))])],fns:=[false,false]++qd 383 true++qd 24 false++[true]}
theorem ya:(zf C.T.length).map (ed.seen C.P)=C.T.map ed.told:=by kernel_rfl
theorem xk:C.P.follows .mixedOrders=true:=by kernel_rfl
theorem yb:(C.P.funcs.toList.map fun f=>!(f.name== "runtime.NumGoroutine")&&f.body.isSome)=C.fns:=by kernel_rfl
theorem ae:C.Ok:={wV:=ya,mixed:=xk,fns:=yb}
abbrev dp:FuncId:=3
def dx(w:bS)(c:Int)(a:Sl)(x:Sl):Prop:=
 aJ wS (qA 23 w) h fun I E=>
 Br ((a.len:Int)>70)
 (ag wS 4 #[] bJ E fun K N=>
 R K N)
 (ag wS 5 #[x] (.many [(.agg [(.int .i64),(.int .i64),(.int .i64)]),be,cz]) E fun b M=>
 aJ wS (qC 23 true (.tuple #[])) M fun a4 O=>
 ab wS (qb 23 a4 b.1) O fun _ J=>
 aM (σ:=Int) (fun f D y=>
 Br (f<4)
 (∃F:bS,ap y a4 0 F/\
 aJ wS (qC 23 true (.tuple #[])) y fun r H=>
 ab wS (qb 23 r F) H fun _ h8=>
 aP (σ:=Int×Sl) (fun q g=>
 ∃l:bS,ap g r 0 l/\
 ag wS 6 #[l,q.1,q.2] (.many [se,be]) g fun d o=>
 ∃n:bS,ap o r 0 n/\
 ag wS 7 #[n,q.1,q.2] (.many [se,be]) o fun i e=>
 Br (d.2 !=i.2) (R false e) (Br (!((!(qo d.1))==(d.2==0))) (R false e) (Br (!(qo d.1)) (ag wS 8 #[d.1,i.1] bJ e fun t k=>
 Br (!t)
 (R false k)
 (D (qa wO (f+1)) k)) (D (qa wO (f+1)) e))))
 (fun s=>
 Br (f==1)
 (∃G:bS,ap h8 I 0 G/\
 ab wS (qb 23 r G) h8 fun _ L=>
 s (b.2.1,(⟨b.2.2.ptr,b.2.2.len,b.2.2.cap⟩:Sl)) L)
 (Br (f==2)
 (s (c,(⟨b.2.2.ptr,b.2.2.len,b.2.2.cap⟩:Sl)) h8)
 (Br (f==3)
 (s (b.2.1,(⟨a.ptr,a.len,a.cap⟩:Sl)) h8)
 (s (b.2.1,(⟨b.2.2.ptr,b.2.2.len,b.2.2.cap⟩:Sl)) h8)))))
 (ag wS 9 #[(wK none),(wN #[(wI wO (4:Int)),mm,(wJ none 0 0),(wI wO (0:Int)),(wI wO (0:Int)),(wI wO (0:Int)),(wI wQ (0:Int)),(wJ none 0 0),(wJ none 0 0)])] (.one (.agg [(.int .i64),.slc,.slc,(.int .i64),(.int .i64),(.int .i64),.slc,(.int .i64)])) y fun z j=>
 Br (z.1==14) (ag wS 10 #[(wK none)] fH j fun B m=>
 Br (qo B) (ag wS 11 #[(wK none),(wI wO (0:Int))] fH m fun v p=>
 Br (qo v) (ag wS 4 #[] bJ p fun A u=>
 R A u) (R false p)) (R false m)) (R false j))) (0:Int) J)
theorem fJ(c:bS)(a:Int)(b:Sl)(d:Sl)(e: @dx R h c a b d):ac wS 3 #[c,a,b,d] h R:=av ae Tryz.func3 (ak.tn (ak.tn (ak.tn (.two (ak.tn (.inn (.loop [(12,be)] [(8,9),(12,20),(31,82)] (ak.tn (.two (.inn (ak.tn (.two (.join [(14,be),(15,cz)] [(14,16),(38,48)] .n) .n))) .n))))) .n)))) e
abbrev iY:FuncId:=4
def eK:Prop:=
 ar wS (qg 24 1 #[(0,(wI wO (5:Int)))]) aH h fun d g=>
 ag wS 6 #[(wN #[(wI wO (1:Int)),(wI wO (1:Int)),(wI wO (1:Int))]),(wI wO (0:Int)),d] (.many [se,be]) g fun a b=>
 Br (a.2==0) (Br (!(qo a.1)) (ag wS 9 #[a.1,(wN #[(wI wO (4:Int)),mm,(wJ none 0 0),(wI wO (0:Int)),(wI wO (0:Int)),(wI wO (0:Int)),(wI wQ (0:Int)),(wJ none 0 0),(wJ none 0 0)])] (.one (.agg [(.int .i64),.slc,.slc,(.int .i64),(.int .i64),(.int .i64),.slc,(.int .i64)])) b fun f c=>
 Br (f.1==0) (ag wS 9 #[a.1,(wN #[(wI wO (0:Int)),mm,(wJ none 0 0),(wI wO (0:Int)),(wI wO (0:Int)),(wI wO (0:Int)),(wI wQ (0:Int)),(wJ none 0 0),(wJ none 0 0)])] (.one (.agg [(.int .i64),.slc,.slc,(.int .i64),(.int .i64),(.int .i64),.slc,(.int .i64)])) c fun e i=>
 R (wM (e.1==1)) i) (R false c)) (R false b)) (R false b)
theorem iE(a: @eK R h):ac wS 4 #[] h R:=av ae Tryz.func4 .n a
abbrev iZ:FuncId:=5
def eL(b:Sl):Prop:=
 aJ wS (qC 23 true (.tuple #[])) h fun u B=>
 ag wS 14 #[b,(wI wO (0:Int))] cb B fun z I=>
 ag wS 14 #[b,(wI wO (1:Int))] cb I fun H D=>
 ag wS 14 #[b,(wI wO (2:Int))] cb D fun E J=>
 ag wS 13 #[z,H,E] (.one (.agg [(.int .i64),(.int .i64),(.int .i64)])) J fun K x=>
 aJ wS (qC 23 true (.tuple #[])) x fun d G=>
 ab wS (qb 23 d K) G fun _ v=>
 aM (σ:=Sl×Int) (fun i w h8=>
 ag wS 14 #[b,(wI wO (4:Int))] cb h8 fun F y=>
 ag wS 12 #[F,(wI wO (4:Int))] cb y fun A f=>
 Br (i.2<(qa wO (2+A)))
 (ag wS 14 #[b,(qa wO (5+i.2))] cb f fun n r=>
 ag wS 12 #[n,(wI wO (50:Int))] cb r fun m s=>
 ar wS (qg 24 1 #[(0,(qa wO (8+m)))]) aH s fun l p=>
 ar wS (qh #[24,24] 24 #[i.1,l]) aH p fun g o=>
 w ((⟨g.ptr,g.len,g.cap⟩:Sl),qa wO (i.2+1)) o)
 (∃a:bS,ap f d 0 a/\
 ag wS 14 #[b,(wI wO (3:Int))] cb f fun q j=>
 (an.ok [(d,a.1),(d.add 1,a.2.1),(d.add 2,a.2.2)] j)/\
 ag wS 12 #[q,(wI wO (7:Int))] cb j fun t k=>
 (an.ok [(d,a.1),(d.add 1,a.2.1),(d.add 2,a.2.2)] k)/\
 ab wS (qb 23 u a) k fun _ e=>
 (an.ok [] e)/\
 ∃c:bS,ap e u 0 c/\
 R (.tuple #[c,t,i.1]) e)) ((⟨none,0,0⟩:Sl),(0:Int)) v
theorem iF(a:Sl)(b: @eL R h a):ac wS 5 #[a] h R:=av ae Tryz.func5 (ak.tn (ak.tn (ak.tn (ak.tn (.two (ak.tn (.inn (.loop [(7,cz),(8,be)] [(7,9),(16,35)] .n))) .n))))) b
abbrev oU:FuncId:=6
def lr(d:bS)(a:Int)(b:Sl):Prop:=
 aJ wS (qA 23 d) h fun l j=>
 ag wS 15 #[] fH j fun e f=>
 ∃x3:bS,ap f l 0 x3/\
 ag wS 16 #[x3,a,e,b] (.many [se,be]) f fun c g=>
 Br (c.2 !=0)
 (R (.tuple #[(wK none),c.2]) g)
 (∃v5:Value,(aj wS (zy 60 #[(0,e),(1,c.1)]) v5)/\
 aJ wS (qA 60 v5) g fun i k=>
 R (.tuple #[i,(wI wO (0:Int))]) k)
theorem nZ(c:bS)(a:Int)(b:Sl)(d: @lr R h c a b):ac wS 6 #[c,a,b] h R:=av ae Tryz.func6 .n d
abbrev jY:FuncId:=7
def fv(d:bS)(a:Int)(b:Sl):Prop:=
 aJ wS (qA 23 d) h fun l j=>
 aJ wS (qA 63 (wN #[false,false,(wI wO (0:Int)),(wI wO (0:Int))])) j fun f e=>
 ∃x3:bS,ap e l 0 x3/\
 ag wS 17 #[x3,a,f,b] (.many [se,be]) e fun c g=>
 Br (c.2 !=0)
 (R (.tuple #[(wK none),c.2]) g)
 (∃v5:Value,(aj wS (zy 70 #[(0,c.1),(1,f)]) v5)/\
 aJ wS (qA 70 v5) g fun i k=>
 R (.tuple #[i,(wI wO (0:Int))]) k)
theorem ju(c:bS)(a:Int)(b:Sl)(d: @fv R h c a b):ac wS 7 #[c,a,b] h R:=av ae Tryz.func7 .n d
abbrev jv:FuncId:=8
def eV(a:Option Addr)(b:Option Addr):Prop:=
 aP (σ:=Unit) (fun _ z=>
 aM (σ:=Int) (fun c B d=>
 Br (c<64)
 (∃t,(b=some t)/\
 (0<=c/\c<((64:Nat):Int))/\
 ∃u:Option Addr,cellOf d ((t.add 2).add (c.toNat*1))=some (.pointer u)/\
 aP (σ:=Option Addr) (fun m x=>
 ag wS 11 #[a,c] fH x fun q D=>
 ag wS 19 #[q,m] bJ D fun l r=>
 Br (!l)
 (R false r)
 (B (qa wO (c+1)) r))
 (fun v=>
 ∃a9,(b=some a9)/\
 ∃g:Option Addr,cellOf d a9=some (.pointer g)/\
 Br (!(qo g))
 (∃f,(b=some f)/\
 ∃i:Option Addr,cellOf d f=some (.pointer i)/\
 ∃j,(i=some j)/\
 (0<=c/\c<((64:Nat):Int))/\
 ∃e:Option Addr,cellOf d ((j.add 10).add (c.toNat*1))=some (.pointer e)/\
 v e d)
 (v u d)))
 (ag wS 11 #[a,(wI wO (-1:Int))] fH d fun o h8=>
 Br (qo o) (ag wS 11 #[a,(wI wO (64:Int))] fH h8 fun n y=>
 R (qo n) y) (R false h8))) (0:Int) z)
 (fun w=>
 ∃k,(b=some k)/\
 ∃x2:Option Addr,cellOf h k=some (.pointer x2)/\
 ag wS 10 #[a] fH h fun E s=>
 (an.ok [(k,x2)] s)/\
 ag wS 18 #[E,x2] bJ s fun A p=>
 (an.ok [] p)/\
 Br (!A)
 (R false p)
 (w () p))
theorem ja(a:Option Addr)(b:Option Addr)(c: @eV R h a b):ac wS 8 #[a,b] h R:=av ae Tryz.func8 (ak.tn (.two (.join [] [(4,5),(7,15)] .n) (.two (ak.tn (.inn (.loop [(15,be)] [(4,7),(15,45)] (ak.tn (ak.tn (.two (.inn (ak.tn (ak.tn (.two (.join [(6,se)] [(6,7),(24,38)] .n) .n)))) .n)))))) .n))) c
abbrev dy:FuncId:=9
def cD(b:Option Addr)(Y:Int×ByteArray×Sl×Int×Int×Int×Int×Sl×Sl):Prop:=
 aJ wS (qA 45 Y) h fun e h1=>
 aJ wS (qC 41 true (.tuple #[])) h1 fun d k=>
 Br (qo b)
 (ab wS (qb 41 d (wN #[(wI wO (14:Int)),(wJ none 0 0),(wJ none 0 0),(wI wO (0:Int)),(wI wO (0:Int)),(wI wO (0:Int)),(wJ none 0 0),(wI wO (0:Int))])) k fun _ h3=>
 ∃i:Int×Sl×Sl×Int×Int×Int×Sl×Int,ap h3 d 0 i/\
 R i h3)
 (aP (σ:=Unit) (fun _ z=>
 ∃O:Int×Sl×Sl×Int×Int×Int×Sl×Int,ap z d 0 O/\
 ab wS (qb 41 d O) z fun _ p=>
 ∃f:Int×Sl×Sl×Int×Int×Int×Sl×Int,ap p d 0 f/\
 R f p)
 (fun g=>
 ∃c,cellOf k e=some (wI wO c)/\
 aP (σ:=Bool) (fun s5 a=>
 Br s5
 (∃x6:Int×ByteArray×Sl×Int×Int×Int×Int×Sl×Sl,ap a e 0 x6/\
 ag wS 20 #[b,x6] (.one (.agg [(.int .i64),.slc,.slc,(.int .i64),(.int .i64),(.int .i64),.slc,(.int .i64)])) a fun r7 h5=>
 ab wS (qb 41 d r7) h5 fun _ h6=>
 ∃j:Int×Sl×Sl×Int×Int×Int×Sl×Int,ap h6 d 0 j/\
 R j h6)
 (Br (c==6)
 (∃a9,(b=some a9)/\
 ∃H:Option Addr,cellOf a (a9.add 1)=some (.pointer H)/\
 ∃A,cellOf a (e.add 3)=some (wI wO A)/\
 ∃L,cellOf a (e.add 4)=some (wI wO L)/\
 ag wS 21 #[H,A,L] cb a fun a3 h7=>
 (an.ok [] h7)/\
 ab wS (qb 29 d a3) h7 fun _ h8=>
 (an.ok [] h8)/\
 g () h8)
 (Br (c==7)
 (∃y,(b=some y)/\
 ∃m:Option Addr,cellOf a (y.add 1)=some (.pointer m)/\
 ∃x,cellOf a (e.add 3)=some (wI wO x)/\
 ag wS 22 #[m,x] cb a fun a4 h9=>
 (an.ok [] h9)/\
 ab wS (qb 29 d a4) h9 fun _ s=>
 (an.ok [] s)/\
 g () s)
 (Br (c==8)
 (∃B,(b=some B)/\
 ∃l:Option Addr,cellOf a (B.add 1)=some (.pointer l)/\
 ∃t,cellOf a (e.add 3)=some (wI wO t)/\
 ∃w,cellOf a (e.add 4)=some (wI wO w)/\
 ag wS 23 #[l,t,w] cb a fun a6 P=>
 (an.ok [] P)/\
 ab wS (qb 29 d a6) P fun _ V=>
 (an.ok [] V)/\
 g () V)
 (Br (c==9)
 (∃u,(b=some u)/\
 ∃I:Option Addr,cellOf a (u.add 1)=some (.pointer I)/\
 ∃o,cellOf a (e.add 3)=some (wI wO o)/\
 ag wS 24 #[I,o] cb a fun a5 G=>
 (an.ok [] G)/\
 ab wS (qb 29 d a5) G fun _ E=>
 (an.ok [] E)/\
 g () E)
 (Br (c==10)
 (∃F,(b=some F)/\
 ∃U:Option Addr,cellOf a (F.add 1)=some (.pointer U)/\
 ∃v,cellOf a (e.add 4)=some (wI wO v)/\
 ∃T,cellOf a (e.add 5)=some (wI wO T)/\
 ag wS 25 #[U,v,T] (.many [be,be]) a fun n J=>
 (an.ok [] J)/\
 ab wS (qb 3 (d.add 7) n.1) J fun _ S=>
 (an.ok [] S)/\
 ab wS (qb 29 d n.2) S fun _ r=>
 (an.ok [] r)/\
 g () r)
 (Br (c==11)
 (∃D:Int×ByteArray×Sl×Int×Int×Int×Int×Sl×Sl,ap a e 0 D/\
 ag wS 26 #[b,D] cb a fun a0 bb=>
 ab wS (qb 29 d a0) bb fun _ Z=>
 g () Z)
 (Br (c==12)
 (∃Q,(b=some Q)/\
 ∃K:Option Addr,cellOf a Q=some (.pointer K)/\
 ∃W,cellOf a (e.add 4)=some (wI wO W)/\
 ag wS 27 #[K,W] yg a fun _ q=>
 (an.ok [] q)/\
 g () q)
 (Br (c==13)
 (∃M:Int×ByteArray×Sl×Int×Int×Int×Int×Sl×Sl,ap a e 0 M/\
 ag wS 28 #[b,M] cb a fun ad a7=>
 ab wS (qb 29 d ad) a7 fun _ a8=>
 g () a8)
 (ab wS (qb 29 d (wI wO (1:Int))) a fun _ X=>
 g () X))))))))))
 (fun N=>
 Br (c==1)
 (N (c==1) k)
 (Br (c==2)
 (N (c==2) k)
 (Br (c==3)
 (N (c==3) k)
 (Br (c==4)
 (N (c==4) k)
 (N (c==5) k)))))))
theorem dj(a:Option Addr)(b:Int×ByteArray×Sl×Int×Int×Int×Int×Sl×Sl)(c: @cD R h a b):ac wS 9 #[a,b] h R:=av ae Tryz.func9 (ak.tn (ak.tn (.two (.join [] [(8,101)] (ak.tn (.inn (.two (.join [(11,uQ)] [(11,17)] .n) .n)))) .n))) c
abbrev ez:FuncId:=10
def cX(a:Option Addr):Prop:=
 Br (qo a)
 (R (wK none) h)
 (∃b,(a=some b)/\
 ∃x2:Option Addr,cellOf h (b.add 1)=some (.pointer x2)/\
 R x2 h)
theorem eh(a:Option Addr)(b: @cX R h a):ac wS 10 #[a] h R:=av ae Tryz.func10 .n b
abbrev eA:FuncId:=11
def cY(b:Option Addr)(a:Int):Prop:=
 aP (σ:=Unit) (fun _ i=>
 ∃j,(b=some j)/\
 (0<=a/\a<((64:Nat):Int))/\
 ∃e:Option Addr,cellOf i ((j.add 2).add (a.toNat*1))=some (.pointer e)/\
 R e i)
 (fun k=>
 aP (σ:=Bool) (fun l c=>
 Br l
 (R (wK none) c)
 (∃g,(b=some g)/\
 ∃x3:Option Addr,cellOf c (g.add 1)=some (.pointer x3)/\
 Br (!(qo x3))
 (∃a4,(b=some a4)/\
 ∃f:Option Addr,cellOf c (a4.add 1)=some (.pointer f)/\
 ag wS 29 #[f,a] fH c fun m n=>
 R m n)
 (k () c)))
 (fun d=>
 Br (qo b) (d true h) (Br (a<0) (d true h) (d (decide (a>=64)) h))))
theorem ei(b:Option Addr)(a:Int)(c: @cY R h b a):ac wS 11 #[b,a] h R:=av ae Tryz.func11 (ak.tn (.two (.join [] [(4,28)] (.inn (.two (.join [(5,uQ)] [(5,16)] .n) .n))) .n)) c
abbrev jb:FuncId:=12
def eM(b:Int)(a:Int):Prop:=
 (a≠0)/\
 aP (σ:=Int) (fun d e=>
 R d e)
 (fun c=>
 Br ((Int.tmod b a)<0)
 (c (qa wO ((Int.tmod b a)+a)) h)
 (c (Int.tmod b a) h))
theorem iG(b:Int)(a:Int)(c: @eM R h b a):ac wS 12 #[b,a] h R:=av ae Tryz.func12 (ak.tn (ak.tn (.two (.join [(0,be)] [(0,1),(8,13)] .n) .n))) c
abbrev jw:FuncId:=13
def eW(b:Int)(c:Int)(d:Int):Prop:=
 aJ wS (qC 23 true (.tuple #[])) h fun f l=>
 ag wS 12 #[b,(wI wO (6:Int))] cb l fun g k=>
 ag wS 12 #[c,(wI wO (3:Int))] cb k fun j m=>
 ag wS 12 #[d,(wI wO (9:Int))] cb m fun i n=>
 ab wS (qb 23 f (wN #[(qa wO (1+g)),(qa wO (1+j)),(qa wO (1+i))])) n fun _ e=>
 ∃a:bS,ap e f 0 a/\
 R a e
theorem jc(c:Int)(a:Int)(b:Int)(d: @eW R h c a b):ac wS 13 #[c,a,b] h R:=av ae Tryz.func13 .n d
abbrev kw:FuncId:=14
def fK(b:Sl)(a:Int):Prop:=
 Br (a<(b.len:Int))
 (∃c,(b.ptr=some c/\0<=a/\a<(b.len:Int))/\
 ∃x2,cellOf h (c.add (a.toNat*1))=some (wI wO x2)/\
 R x2 h)
 (R (wI wO (0:Int)) h)
theorem jZ(b:Sl)(a:Int)(c: @fK R h b a):ac wS 14 #[b,a] h R:=av ae Tryz.func14 .n c
abbrev sg:FuncId:=15
def nd:Prop:=
 aJ wS (qA 85 (wN #[false,false,(wI wO (0:Int)),(wI wO (0:Int))])) h fun a b=>
 R a b
theorem pR(a: @nd R h):ac wS 15 #[] h R:=av ae Tryz.func15 .n a
abbrev oa:FuncId:=16
def kx(G:bS)(b:Int)(d:Option Addr)(a:Sl):Prop:=
 aJ wS (qA 23 G) h fun m S=>
 ag wS 30 #[a] (.many [cz,uQ]) S fun l J=>
 aP (σ:=Unit) (fun _ N=>
 aP (σ:=Option Addr) (fun f O=>
 aM (σ:=Int) (fun i W h8=>
 Br (i<(l.1.len:Int))
 (∃w,(l.1.ptr=some w/\0<=i/\i<(l.1.len:Int))/\
 ∃g,cellOf h8 (w.add (i.toNat*1))=some (wI wO g)/\
 ∃o,(a.ptr=some o/\0<=g/\g<(a.len:Int))/\
 ∃n,cellOf h8 (o.add (g.toNat*1))=some (wI wO n)/\
 ∃t,(f=some t)/\
 ∃A:bI,ap h8 t 0 A/\
 ag wS 33 #[A] aH h8 fun I D=>
 (an.ok [(o.add (g.toNat*1),n)] D)/\
 Br (n<(I.len:Int))
 (R (.tuple #[(wK none),(wI wO (7:Int))]) D)
 (W (qa wO (i+1)) D))
 (aM (σ:=Int) (fun j P e=>
 Br (j<(l.1.len:Int))
 (∃v,(l.1.ptr=some v/\0<=j/\j<(l.1.len:Int))/\
 ∃c,cellOf e (v.add (j.toNat*1))=some (wI wO c)/\
 ∃a22,(a.ptr=some a22/\0<=c/\c<(a.len:Int))/\
 ∃y,cellOf e (a22.add (c.toNat*1))=some (wI wO y)/\
 ∃s,(f=some s)/\
 ag wS 34 #[y,d] fH e fun H x=>
 (an.ok [] x)/\
 (0<=c/\c<((64:Nat):Int))/\
 ab wS (qb 48 ((s.add 10).add (c.toNat*1)) H) x fun _ z=>
 (an.ok [] z)/\
 P (qa wO (j+1)) z)
 (∃B,(f=some B)/\
 ∃q:bI,ap e B 0 q/\
 ag wS 36 #[q,l.1] aH e fun F E=>
 ag wS 35 #[(.func (.func 29) #[f] #[]),F] cb E fun p u=>
 Br (p !=0)
 (R (.tuple #[(wK none),p]) u)
 (R (.tuple #[f,(wI wO (0:Int))]) u))) (0:Int) h8)) (0:Int) O)
 (fun V=>
 ∃k:bS,ap N m 0 k/\
 ag wS 32 #[d] cb N fun T K=>
 (an.ok [(m,k.1),(m.add 1,k.2.1),(m.add 2,k.2.2)] K)/\
 ∃L:Value,(aj wS (zy 91 #[(0,(wN #[(wI wO (1:Int)),(wI wO (0:Int)),k.1,k.2.1,k.2.2,b,l.1,(wJ none 0 0)])),(1,d),(2,T)]) L)/\
 aJ wS (qA 91 L) K fun a9 M=>
 (an.ok [(m,k.1),(m.add 1,k.2.1),(m.add 2,k.2.2)] M)/\
 V (some a9) M))
 (fun Q=>
 Br (!l.2) (R (.tuple #[(wK none),(wI wO (1:Int))]) J) (∃x3:bS,ap J m 0 x3/\
 ag wS 31 #[x3] bJ J fun U r=>
 Br (!U) (R (.tuple #[(wK none),(wI wO (1:Int))]) r) (Br (b<0) (R (.tuple #[(wK none),(wI wO (1:Int))]) r) (Br (b>16) (R (.tuple #[(wK none),(wI wO (1:Int))]) r) (Br (qo d)
 (R (.tuple #[(wK none),(wI wO (1:Int))]) r)
 (Q () r))))))
theorem nF(d:bS)(b:Int)(c:Option Addr)(a:Sl)(e: @kx R h d b c a):ac wS 16 #[d,b,c,a] h R:=av ae Tryz.func16 (ak.tn (ak.tn (.two (.join [] [(8,10),(23,42)] .n) (.two (.join [(12,se)] [(12,13),(42,51)] .n) (.two (ak.tn (.inn (.loop [(53,be)] [(8,10),(14,15),(53,69)] .n))) (.two (ak.tn (.inn (.loop [(71,be)] [(16,17),(71,87)] .n))) .n)))))) e
abbrev iH:FuncId:=17
def eB(w:bS)(d:Int)(c:Option Addr)(a:Sl):Prop:=
 aJ wS (qA 23 w) h fun B u=>
 Br (qo c)
 (R (.tuple #[(wK none),(wI wO (1:Int))]) u)
 (∃x2:bS,ap u B 0 x2/\
 ag wS 37 #[x2,d,a] (.many [(.agg [(.int .i64),(.int .i64),(.int .i64),(.int .i64),(.int .i64),(.int .i64),.slc,.slc]),be]) u fun x F=>
 aJ wS (qC 74 true (.tuple #[])) F fun a4 E=>
 ab wS (qb 74 a4 x.1) E fun _ p=>
 Br (x.2 !=0)
 (R (.tuple #[(wK none),x.2]) p)
 (∃f:bI,ap p a4 0 f/\
 ∃q,(c=some q)/\
 ∃v,cellOf p (q.add 3)=some (wI wO v)/\
 ∃A:Value,(aj wS (zy 76 #[(0,f),(1,c),(2,v)]) A)/\
 aJ wS (qA 76 A) p fun a9 s=>
 (an.ok [(q.add 3,v),(a4,f.1),(a4.add 1,f.2.1),(a4.add 2,f.2.2.1),(a4.add 3,f.2.2.2.1),(a4.add 4,f.2.2.2.2.1),(a4.add 5,f.2.2.2.2.2.1),(a4.add 6,f.2.2.2.2.2.2.1),(a4.add 7,f.2.2.2.2.2.2.2)] s)/\
 ∃g:Sl,cellOf s (a4.add 6)=some (g:Value)/\
 aM (σ:=Int) (fun e D i=>
 Br (e<(g.len:Int))
 (∃n,(g.ptr=some n/\0<=e/\e<(g.len:Int))/\
 ∃b,cellOf i (n.add (e.toNat*1))=some (wI wO b)/\
 ∃l,(a.ptr=some l/\0<=b/\b<(a.len:Int))/\
 ∃k,cellOf i (l.add (b.toNat*1))=some (wI wO k)/\
 ∃m:Addr,(some a9=some m)/\
 ag wS 38 #[k,c] fH i fun t y=>
 (an.ok [] y)/\
 (0<=b/\b<((64:Nat):Int))/\
 ab wS (qb 67 ((m.add 10).add (b.toNat*1)) t) y fun _ h8=>
 (an.ok [] h8)/\
 D (qa wO (e+1)) h8)
 (∃o:bI,ap i a4 0 o/\
 ∃j:Sl,cellOf i (a4.add 6)=some (j:Value)/\
 ag wS 39 #[a9,o,j] cb i fun r z=>
 Br (r !=0)
 (R (.tuple #[(wK none),(wI wO (14:Int))]) z)
 (R (.tuple #[a9,(wI wO (0:Int))]) z))) (0:Int) s))
theorem ip(d:bS)(b:Int)(c:Option Addr)(a:Sl)(e: @eB R h d b c a):ac wS 17 #[d,b,c,a] h R:=av ae Tryz.func17 (ak.tn (ak.tn (ak.tn (ak.tn (ak.tn (.two (ak.tn (.inn (.loop [(38,be)] [(14,15),(38,54)] .n))) .n)))))) e
abbrev jx:FuncId:=18
def eX(a:Option Addr)(i:Option Addr):Prop:=
 Br (!((!(qo a))==(!(qo i))))
 (R false h)
 (Br (qo a)
 (R true h)
 (aP (σ:=Unit) (fun _ F=>
 aM (σ:=Int) (fun f X s=>
 Br (f<64)
 (∃t,(i=some t)/\
 (0<=f/\f<((64:Nat):Int))/\
 ∃r:Option Addr,cellOf s ((t.add 10).add (f.toNat*1))=some (.pointer r)/\
 ag wS 29 #[a,f] fH s fun J x=>
 (an.ok [((t.add 10).add (f.toNat*1),r)] x)/\
 ag wS 19 #[J,r] bJ x fun G u=>
 (an.ok [] u)/\
 Br (!G)
 (R false u)
 (X (qa wO (f+1)) u))
 (ag wS 29 #[a,(wI wO (-1:Int))] fH s fun z w=>
 Br (qo z) (ag wS 29 #[a,(wI wO (64:Int))] fH w fun E H=>
 R (qo E) H) (R false w))) (0:Int) F)
 (fun Q=>
 ∃k,(i=some k)/\
 ∃x2:bI,ap h k 0 x2/\
 ag wS 41 #[a] (.one (.agg [(.int .i64),(.int .i64),(.int .i64),(.int .i64),(.int .i64),(.int .i64),.slc,.slc])) h fun Y M=>
 (an.ok [(k,x2.1),(k.add 1,x2.2.1),(k.add 2,x2.2.2.1),(k.add 3,x2.2.2.2.1),(k.add 4,x2.2.2.2.2.1),(k.add 5,x2.2.2.2.2.2.1),(k.add 6,x2.2.2.2.2.2.2.1),(k.add 7,x2.2.2.2.2.2.2.2)] M)/\
 ag wS 40 #[Y,x2] bJ M fun U j=>
 (an.ok [] j)/\
 Br (!U) ((an.ok [] j)/\
 (an.ok [] j)/\
 (an.ok [] j)/\
 (an.ok [] j)/\
 (an.ok [] j)/\
 (an.ok [] j)/\
 (an.ok [] j)/\
 (an.ok [] j)/\
 (an.ok [] j)/\
 (an.ok [] j)/\
 R false j) (ag wS 43 #[a] aH j fun Z N=>
 (an.ok [] N)/\
 ag wS 44 #[i] aH N fun V P=>
 (an.ok [] P)/\
 ag wS 42 #[Z,V] bJ P fun T l=>
 (an.ok [] l)/\
 Br (!T) ((an.ok [] l)/\
 (an.ok [] l)/\
 (an.ok [] l)/\
 (an.ok [] l)/\
 (an.ok [] l)/\
 (an.ok [] l)/\
 (an.ok [] l)/\
 R false l) (ag wS 45 #[a] bJ l fun W O=>
 (an.ok [] O)/\
 ag wS 46 #[i] bJ O fun S q=>
 (an.ok [] q)/\
 Br (!(W==S)) ((an.ok [] q)/\
 (an.ok [] q)/\
 (an.ok [] q)/\
 (an.ok [] q)/\
 (an.ok [] q)/\
 R false q) (ag wS 47 #[a] fH q fun A h8=>
 (an.ok [] h8)/\
 Br (qo A) ((an.ok [] h8)/\
 (an.ok [] h8)/\
 (an.ok [] h8)/\
 (an.ok [] h8)/\
 R false h8) (∃c,(i=some c)/\
 ∃d:Option Addr,cellOf h8 (c.add 8)=some (.pointer d)/\
 ∃e,(d=some e)/\
 ∃b:Bool,cellOf h8 e=some (wM b)/\
 ag wS 47 #[a] fH h8 fun I L=>
 (an.ok [(e,b),(c.add 8,d)] L)/\
 ag wS 48 #[I] bJ L fun K g=>
 (an.ok [(e,b),(c.add 8,d)] g)/\
 Br (K==b) ((an.ok [(e,b),(c.add 8,d)] g)/\
 (an.ok [(e,b),(c.add 8,d)] g)/\
 R false g) (∃o,(i=some o)/\
 ∃p:Option Addr,cellOf g (o.add 8)=some (.pointer p)/\
 ∃n,(p=some n)/\
 ∃m,cellOf g (n.add 3)=some (wI wO m)/\
 ag wS 47 #[a] fH g fun B y=>
 (an.ok [(n.add 3,m),(o.add 8,p),(e,b),(c.add 8,d)] y)/\
 ag wS 32 #[B] cb y fun D v=>
 (an.ok [(n.add 3,m),(o.add 8,p),(e,b),(c.add 8,d)] v)/\
 Br (D !=m)
 (R false v)
 (Q () v)))))))))
theorem jd(b:Option Addr)(a:Option Addr)(c: @eX R h b a):ac wS 18 #[b,a] h R:=av ae Tryz.func18 (ak.tn (ak.tn (ak.tn (.two (.join [] [(4,5),(13,67)] .n) (.two (ak.tn (.inn (.loop [(67,be)] [(4,6),(67,82)] .n))) .n))))) c
abbrev eN:FuncId:=19
def dk(c:Option Addr)(d:Option Addr):Prop:=
 Br (!((!(qo c))==(!(qo d))))
 (R false h)
 (Br (qo c)
 (R true h)
 (∃q,(d=some q)/\
 ∃x2:Sl,cellOf h (q.add 2)=some (x2:Value)/\
 ∃a3,(d=some a3)/\
 ∃r:Sl,cellOf h (a3.add 2)=some (r:Value)/\
 ar wS (qg 24 4 #[(0,(wI wO (-1:Int))),(1,(wI wO (0:Int))),(2,(qa wO ((x2.len:Int)-1))),(3,(wI wO (r.len:Int)))]) aH h fun v5 G=>
 (an.ok [(a3.add 2,r),(q.add 2,x2)] G)/\
 aM (σ:=Int) (fun n I f=>
 Br (n<(v5.len:Int))
 (∃H,(v5.ptr=some H/\0<=n/\n<(v5.len:Int))/\
 ∃j,cellOf f (H.add (n.toNat*1))=some (wI wO j)/\
 aP (σ:=Sl) (fun x J=>
 ag wS 50 #[c,j] aH J fun A K=>
 ag wS 49 #[A,x] bJ K fun t E=>
 Br (!t)
 (R false E)
 (I (qa wO (n+1)) E))
 (fun y=>
 Br (j>=0) (∃a9,(d=some a9)/\
 ∃m:Sl,cellOf f (a9.add 2)=some (m:Value)/\
 Br (j<(m.len:Int))
 (∃l,(d=some l)/\
 ∃i:Sl,cellOf f (l.add 2)=some (i:Value)/\
 ∃p,(i.ptr=some p/\0<=j/\j<(i.len:Int))/\
 ∃e:Sl,cellOf f (p.add (j.toNat*1))=some (e:Value)/\
 y (⟨e.ptr,e.len,e.cap⟩:Sl) f)
 (y (⟨none,0,0⟩:Sl) f)) (y (⟨none,0,0⟩:Sl) f)))
 (∃b,(d=some b)/\
 ∃a:Sl,cellOf f (b.add 2)=some (a:Value)/\
 ag wS 51 #[c] cb f fun s g=>
 (an.ok [(b.add 2,a)] g)/\
 Br (s==(a.len:Int)) (ag wS 53 #[c] cb g fun u D=>
 (an.ok [(b.add 2,a)] D)/\
 ag wS 54 #[c] cb D fun v h8=>
 (an.ok [(b.add 2,a)] h8)/\
 ag wS 55 #[c] aH h8 fun B F=>
 (an.ok [(b.add 2,a)] F)/\
 ag wS 56 #[c] bJ F fun w k=>
 (an.ok [(b.add 2,a)] k)/\
 ag wS 52 #[u,v,B,w,d] bJ k fun z o=>
 (an.ok [(b.add 2,a)] o)/\
 R z o) ((an.ok [(b.add 2,a)] g)/\
 (an.ok [(b.add 2,a)] g)/\
 (an.ok [(b.add 2,a)] g)/\
 (an.ok [(b.add 2,a)] g)/\
 (an.ok [(b.add 2,a)] g)/\
 R false g))) (0:Int) G))
theorem eC(a:Option Addr)(b:Option Addr)(c: @dk R h a b):ac wS 19 #[a,b] h R:=av ae Tryz.func19 (ak.tn (ak.tn (ak.tn (.two (ak.tn (.inn (.loop [(28,be)] [(4,5),(6,8),(28,57)] (ak.tn (ak.tn (.two (.inn (ak.tn (ak.tn (.two (.join [(7,cz)] [(7,8),(32,50)] .n) .n)))) .n)))))) .n)))) c
abbrev jy:FuncId:=20
def eY(b:Option Addr)(F:Int×ByteArray×Sl×Int×Int×Int×Int×Sl×Sl):Prop:=
 aJ wS (qA 45 F) h fun i W=>
 aJ wS (qC 41 true (.tuple #[])) W fun c a=>
 aP (σ:=Unit) (fun _ w=>
 ∃A:Int×Sl×Sl×Int×Int×Int×Sl×Int,ap w c 0 A/\
 ab wS (qb 41 c A) w fun _ k=>
 ∃e:Int×Sl×Sl×Int×Int×Int×Sl×Int,ap k c 0 e/\
 R e k)
 (fun g=>
 ∃x3,cellOf a i=some (wI wO x3)/\
 Br (x3==1)
 (∃a4,(b=some a4)/\
 ∃M:Option Addr,cellOf a (a4.add 1)=some (.pointer M)/\
 ∃S:ByteArray,cellOf a (i.add 1)=some (wL S)/\
 ∃T:Sl,cellOf a (i.add 2)=some (T:Value)/\
 ag wS 57 #[M,S,T] cb a fun X Q=>
 (an.ok [] Q)/\
 ab wS (qb 29 c X) Q fun _ V=>
 (an.ok [] V)/\
 g () V)
 (Br (x3==2)
 (∃a9,(b=some a9)/\
 ∃s:Option Addr,cellOf a (a9.add 1)=some (.pointer s)/\
 ∃q:ByteArray,cellOf a (i.add 1)=some (wL q)/\
 ag wS 58 #[s,q] (.many [cz,be]) a fun t O=>
 (an.ok [] O)/\
 ab wS (qb 36 (c.add 1) t.1) O fun _ U=>
 (an.ok [] U)/\
 ab wS (qb 29 c t.2) U fun _ N=>
 (an.ok [] N)/\
 g () N)
 (Br (x3==3)
 (∃D,(b=some D)/\
 ∃n:Option Addr,cellOf a (D.add 1)=some (.pointer n)/\
 ∃j:ByteArray,cellOf a (i.add 1)=some (wL j)/\
 ag wS 59 #[n,j] cb a fun L h8=>
 (an.ok [] h8)/\
 ab wS (qb 29 c L) h8 fun _ P=>
 (an.ok [] P)/\
 g () P)
 (Br (x3==4)
 (∃y,(b=some y)/\
 ∃E:Option Addr,cellOf a (y.add 1)=some (.pointer E)/\
 ag wS 60 #[E] aH a fun J G=>
 ab wS (qb 37 (c.add 2) J) G fun _ f=>
 ∃v,(b=some v)/\
 ∃o:Option Addr,cellOf f (v.add 1)=some (.pointer o)/\
 Br (qo o) (ab wS (qb 29 c (wI wO (14:Int))) f fun _ K=>
 g () K) (∃a22,(b=some a22)/\
 ∃B:Option Addr,cellOf f (a22.add 1)=some (.pointer B)/\
 ag wS 45 #[B] bJ f fun I r=>
 Br I
 (ab wS (qb 29 c (wI wO (14:Int))) r fun _ H=>
 g () H)
 (g () r)))
 (Br (x3==5)
 (∃x,(b=some x)/\
 ∃m:Option Addr,cellOf a (x.add 1)=some (.pointer m)/\
 ∃p:ByteArray,cellOf a (i.add 1)=some (wL p)/\
 ag wS 61 #[m,p] (.many [(.agg [(.int .i64),(.int .i64),(.int .i64),.slc]),be]) a fun d u=>
 (an.ok [] u)/\
 ab wS (qb 39 (c.add 3) (wN #[d.1.1,d.1.2.1,d.1.2.2.1,d.1.2.2.2])) u fun _ z=>
 (an.ok [] z)/\
 ab wS (qb 29 c d.2) z fun _ l=>
 (an.ok [] l)/\
 g () l)
 (g () a))))))
theorem je(a:Option Addr)(b:Int×ByteArray×Sl×Int×Int×Int×Int×Sl×Sl)(c: @eY R h a b):ac wS 20 #[a,b] h R:=av ae Tryz.func20 (ak.tn (.two (.join [] [(5,78)] .n) .n)) c
abbrev bG:FuncId:=29
def gh(b:Option Addr)(a:Int):Prop:=
 aP (σ:=Unit) (fun _ c=>
 ∃d,(b=some d)/\
 (0<=a/\a<((64:Nat):Int))/\
 ∃x3:Option Addr,cellOf c ((d.add 10).add (a.toNat*1))=some (.pointer x3)/\
 R x3 c)
 (fun e=>
 Br (qo b) (R (wK none) h) (Br (a<0) (R (wK none) h) (Br (a>=64)
 (R (wK none) h)
 (e () h))))
theorem ky(b:Option Addr)(a:Int)(c: @gh R h b a):ac wS 29 #[b,a] h R:=av ae Tryz.func29 (ak.tn (.two (.join [] [(4,15)] .n) .n)) c
abbrev oc:FuncId:=30
def kz(a:Sl):Prop:=
 aM (σ:=Sl×Int) (fun b e c=>
 Br (b.2<(a.len:Int))
 (∃g,(a.ptr=some g/\0<=b.2/\b.2<(a.len:Int))/\
 ∃x3,cellOf c (g.add (b.2.toNat*1))=some (wI wO x3)/\
 aP (σ:=Unit) (fun _ f=>
 Br (x3>0)
 (ar wS (qg 24 1 #[(0,b.2)]) aH f fun v5 j=>
 ar wS (qh #[24,24] 24 #[b.1,v5]) aH j fun d k=>
 e ((⟨d.ptr,d.len,d.cap⟩:Sl),qa wO (b.2+1)) k)
 (e ((⟨b.1.ptr,b.1.len,b.1.cap⟩:Sl),qa wO (b.2+1)) f))
 (fun i=>
 Br (x3<0) (R (.tuple #[(wJ none 0 0),false]) c) (Br (x3>512)
 (R (.tuple #[(wJ none 0 0),false]) c)
 (i () c))))
 (Br ((a.len:Int)<=64) (R (.tuple #[b.1,(decide ((b.1.len:Int)>0))]) c) (R (.tuple #[b.1,false]) c))) ((⟨none,0,0⟩:Sl),(0:Int)) h
theorem nG(a:Sl)(b: @kz R h a):ac wS 30 #[a] h R:=av ae Tryz.func30 (ak.tn (ak.tn (.two (ak.tn (.inn (.loop [(4,cz),(9,be)] [(2,7),(9,27)] (ak.tn (ak.tn (.two (.inn (ak.tn (.two (.join [] [(2,4),(14,20)] .n) .n))) .n)))))) .n))) b
abbrev tX:FuncId:=31
def pE(c:bS):Prop:=
 aJ wS (qA 23 c) h fun b a=>
 ∃x2,cellOf a b=some (wI wO x2)/\
 Br (x2>=1) (∃x3,cellOf a b=some (wI wO x3)/\
 Br (x3<=16) (∃d,cellOf a (b.add 1)=some (wI wO d)/\
 Br (d>=1) (∃f,cellOf a (b.add 1)=some (wI wO f)/\
 Br (f<=4) (∃g,cellOf a (b.add 2)=some (wI wO g)/\
 Br (g>=1) (∃e,cellOf a (b.add 2)=some (wI wO e)/\
 R (decide (e<=24)) a) (R false a)) (R false a)) (R false a)) (R false a)) (R false a)
theorem sK(a:bS)(b: @pE R h a):ac wS 31 #[a] h R:=av ae Tryz.func31 .n b
abbrev lD:FuncId:=32
def gZ(a:Option Addr):Prop:=
 Br (qo a)
 (R (wI wO (0:Int)) h)
 (∃b,(a=some b)/\
 ∃x2,cellOf h (b.add 3)=some (wI wO x2)/\
 R x2 h)
theorem kQ(a:Option Addr)(b: @gZ R h a):ac wS 32 #[a] h R:=av ae Tryz.func32 .n b
abbrev pS:FuncId:=33
def mn(d:bI):Prop:=
 aJ wS (qA 74 d) h fun l j=>
 ∃x2:bI,ap j l 0 x2/\
 ag wS 84 #[x2] aH j fun b o=>
 ((48:Int)≠0)/\
 aM (σ:=Sl×Int) (fun a m e=>
 Br (decide (a.2<(qa wO (wC (qa wO ((qa wO ((b.len:Int)+48))-1)) 48))))
 (∃i,cellOf e l=some (wI wO i)/\
 (0<=(qa wO (a.2*48))/\(qa wO (a.2*48))<=(if(qa wO ((qa wO (a.2+1))*48))<(b.len:Int)then qa wO ((qa wO (a.2+1))*48)else(b.len:Int))/\(if(qa wO ((qa wO (a.2+1))*48))<(b.len:Int)then qa wO ((qa wO (a.2+1))*48)else(b.len:Int))<=(b.cap:Int))/\
 ag wS 85 #[i,a.2,(qa wO (wC (qa wO ((qa wO ((b.len:Int)+48))-1)) 48)),(.slice (if b.cap=(qa wO (a.2*48)).toNat then b.ptr else b.ptr.map (·.add ((qa wO (a.2*48)).toNat*1))) ((if(qa wO ((qa wO (a.2+1))*48))<(b.len:Int)then qa wO ((qa wO (a.2+1))*48)else(b.len:Int)).toNat-(qa wO (a.2*48)).toNat) (b.cap-(qa wO (a.2*48)).toNat))] aH e fun p k=>
 (an.ok [] k)/\
 ar wS (qg 92 1 #[(0,p)]) aH k fun n g=>
 (an.ok [] g)/\
 ar wS (qh #[92,92] 92 #[a.1,n]) aH g fun c f=>
 (an.ok [] f)/\
 m ((⟨c.ptr,c.len,c.cap⟩:Sl),qa wO (a.2+1)) f)
 (R a.1 e)) ((⟨none,0,0⟩:Sl),(0:Int)) o
theorem oV(a:bI)(b: @mn R h a):ac wS 33 #[a] h R:=av ae Tryz.func33 (ak.tn (ak.tn (ak.tn (ak.tn (.two (ak.tn (.inn (.loop [(5,cz),(16,be)] [(5,8),(16,39)] .n))) .n))))) b
abbrev sh:FuncId:=34
def ne(a:Int)(b:Option Addr):Prop:=
 aP (σ:=Unit) (fun _ e=>
 aJ wS (qA 148 (wN #[b,a,(wJ none 0 0),(wI wO (0:Int)),(wJ none 0 0),false,false])) e fun f d=>
 R f d)
 (fun c=>
 Br (a<1) (R (wK none) h) (Br (a>512) (R (wK none) h) (Br (qo b)
 (R (wK none) h)
 (c () h))))
theorem pT(a:Int)(b:Option Addr)(c: @ne R h a b):ac wS 34 #[a,b] h R:=av ae Tryz.func34 (ak.tn (.two (.join [] [(4,15)] .n) .n)) c
abbrev tY:FuncId:=35
def pF(a:FuncId×Array Value×Array Value)(d:Sl):Prop:=
 aM (σ:=Sl×Int) (fun b t j=>
 Br (b.2<(d.len:Int))
 (∃q,(d.ptr=some q/\0<=b.2/\b.2<(d.len:Int))/\
 ∃x3:Int×Sl,ap j (q.add (b.2.toNat*2)) 0 x3/\
 aJ wS (qC 151 true (.tuple #[])) j fun a4 z=>
 ab wS (qb 151 a4 x3) z fun _ k=>
 aP (σ:=Unit) (fun _ n=>
 ∃e,cellOf n a4=some (wI wO e)/\
 ar wS (qg 24 1 #[(0,e)]) aH n fun g h8=>
 ar wS (qh #[24,24] 24 #[b.1,g]) aH h8 fun c u=>
 t ((⟨c.ptr,c.len,c.cap⟩:Sl),qa wO (b.2+1)) u)
 (fun x=>
 aP (σ:=Int) (fun o r=>
 Br (o !=0)
 (R o r)
 (x () r))
 (fun y=>
 ∃m,cellOf k a4=some (wI wO m)/\
 ∃l:Sl,cellOf k (a4.add 1)=some (l:Value)/\
 nA C a.1 (a.2.1.toList++[(wI wO m)]++a.2.2.toList) fH k fun v s=>
 (an.ok [(a4.add 1,l)] s)/\
 ag wS 86 #[v,l] cb s fun w p=>
 (an.ok [] p)/\
 y w p)))
 (ag wS 87 #[(.func (.func a.1) a.2.1 a.2.2),b.1] cb j fun f i=>
 R f i)) ((⟨none,0,0⟩:Sl),(0:Int)) h
theorem sL(a:FuncId×Array Value×Array Value)(b:Sl)(c: @pF R h a b):ac wS 35 #[(.func (.func a.1) a.2.1 a.2.2),b] h R:=av ae Tryz.func35 (ak.tn (ak.tn (.two (ak.tn (.inn (.loop [(5,cz),(11,be)] [(4,6),(7,9),(11,31)] (ak.tn (ak.tn (.two (.inn (ak.tn (.two (.join [] [(4,5),(8,9),(15,25)] (.two (.join [(8,be)] [(8,9),(15,22)] .n) .n)) .n))) .n)))))) .n))) c
abbrev si:FuncId:=36
def nf(f:bI)(a:Sl):Prop:=
 aJ wS (qA 74 f) h fun o l=>
 ∃x2:bI,ap l o 0 x2/\
 ag wS 33 #[x2] aH l fun i t=>
 aM (σ:=Sl×Int) (fun b p e=>
 Br (b.2<(a.len:Int))
 (∃a5,(a.ptr=some a5/\0<=b.2/\b.2<(a.len:Int))/\
 ∃n,cellOf e (a5.add (b.2.toNat*1))=some (wI wO n)/\
 aM (σ:=Sl×Int) (fun c r j=>
 Br (c.2<(i.len:Int))
 (∃m,(i.ptr=some m/\0<=c.2/\c.2<(i.len:Int))/\
 ∃k:Sl,cellOf j (m.add (c.2.toNat*1))=some (k:Value)/\
 ar wS (qg 96 1 #[(0,(wN #[n,k]))]) aH j fun g q=>
 ar wS (qh #[96,96] 96 #[c.1,g]) aH q fun d s=>
 r ((⟨d.ptr,d.len,d.cap⟩:Sl),qa wO (c.2+1)) s)
 (p ((⟨c.1.ptr,c.1.len,c.1.cap⟩:Sl),qa wO (b.2+1)) j)) ((⟨b.1.ptr,b.1.len,b.1.cap⟩:Sl),(0:Int)) e)
 (R b.1 e)) ((⟨none,0,0⟩:Sl),(0:Int)) t
theorem pU(b:bI)(a:Sl)(c: @nf R h b a):ac wS 36 #[b,a] h R:=av ae Tryz.func36 (ak.tn (ak.tn (ak.tn (.two (ak.tn (.inn (.loop [(6,cz),(15,be)] [(6,7),(8,9),(10,11),(15,33)] (ak.tn (ak.tn (.two (.inn (ak.tn (ak.tn (.inn (.loop [(6,cz),(21,be)] [(6,7),(10,11),(21,32)] .n))))) .n)))))) .n)))) c
abbrev gw:FuncId:=37
def dK(U:bS)(b:Int)(a:Sl):Prop:=
 aJ wS (qA 23 U) h fun X h1=>
 aJ wS (qC 74 true (.tuple #[])) h1 fun c h2=>
 aP (σ:=Unit) (fun _ h8=>
 ∃q:bS,ap h8 X 0 q/\
 aJ wS (qC 74 true (.tuple #[])) h8 fun f h9=>
 ab wS (qb 74 f (wN #[(wI wO (1:Int)),(wI wO (0:Int)),q.1,q.2.1,q.2.2,b,(wJ none 0 0),(wJ none 0 0)])) h9 fun _ O=>
 aM (σ:=Int) (fun e Z d=>
 Br (e<(a.len:Int))
 (∃M,(a.ptr=some M/\0<=e/\e<(a.len:Int))/\
 ∃p,cellOf d (M.add (e.toNat*1))=some (wI wO p)/\
 aP (σ:=Unit) (fun _ x=>
 Br (p>0)
 (∃L:Sl,cellOf x (f.add 6)=some (L:Value)/\
 ar wS (qg 24 1 #[(0,e)]) aH x fun Q T=>
 ar wS (qh #[24,24] 24 #[L,Q]) aH T fun P V=>
 ab wS (qb 24 (f.add 6) P) V fun _ N=>
 Z (qa wO (e+1)) N)
 (Z (qa wO (e+1)) x))
 (fun K3=>
 Br (p<0) (ab wS (qb 74 c (wN #[(wI wO (0:Int)),(wI wO (0:Int)),(wI wO (0:Int)),(wI wO (0:Int)),(wI wO (0:Int)),(wI wO (0:Int)),(wJ none 0 0),(wJ none 0 0)])) d fun _ K=>
 ∃k:bI,ap K c 0 k/\
 R (.tuple #[k,(wI wO (1:Int))]) K) (Br (p>512)
 (ab wS (qb 74 c (wN #[(wI wO (0:Int)),(wI wO (0:Int)),(wI wO (0:Int)),(wI wO (0:Int)),(wI wO (0:Int)),(wI wO (0:Int)),(wJ none 0 0),(wJ none 0 0)])) d fun _ F=>
 ∃m:bI,ap F c 0 m/\
 R (.tuple #[m,(wI wO (1:Int))]) F)
 (K3 () d))))
 (∃B:Sl,cellOf d (f.add 6)=some (B:Value)/\
 Br ((B.len:Int)==0)
 (ab wS (qb 74 c (wN #[(wI wO (0:Int)),(wI wO (0:Int)),(wI wO (0:Int)),(wI wO (0:Int)),(wI wO (0:Int)),(wI wO (0:Int)),(wJ none 0 0),(wJ none 0 0)])) d fun _ I=>
 ∃l:bI,ap I c 0 l/\
 R (.tuple #[l,(wI wO (1:Int))]) I)
 (∃r:Sl,cellOf d (f.add 6)=some (r:Value)/\
 aM (σ:=Int) (fun i K4 g=>
 Br (i<(r.len:Int))
 (∃J,(r.ptr=some J/\0<=i/\i<(r.len:Int))/\
 ∃j,cellOf g (J.add (i.toNat*1))=some (wI wO j)/\
 ∃y,(a.ptr=some y/\0<=j/\j<(a.len:Int))/\
 ∃z,cellOf g (y.add (j.toNat*1))=some (wI wO z)/\
 ∃A:bI,ap g f 0 A/\
 ag wS 89 #[A] aH g fun S w=>
 (an.ok [(y.add (j.toNat*1),z)] w)/\
 Br (z<(S.len:Int))
 (ab wS (qb 74 c (wN #[(wI wO (0:Int)),(wI wO (0:Int)),(wI wO (0:Int)),(wI wO (0:Int)),(wI wO (0:Int)),(wI wO (0:Int)),(wJ none 0 0),(wJ none 0 0)])) w fun _ G=>
 ∃n:bI,ap G c 0 n/\
 R (.tuple #[n,(wI wO (7:Int))]) G)
 (K4 (qa wO (i+1)) w))
 (∃E:bI,ap g f 0 E/\
 ab wS (qb 74 c E) g fun _ H=>
 ∃o:bI,ap H c 0 o/\
 R (.tuple #[o,(wI wO (0:Int))]) H)) (0:Int) d))) (0:Int) O)
 (fun K1=>
 ∃x3:bS,ap h2 X 0 x3/\
 ag wS 88 #[x3] bJ h2 fun r4 D=>
 Br (!r4) (ab wS (qb 74 c (wN #[(wI wO (0:Int)),(wI wO (0:Int)),(wI wO (0:Int)),(wI wO (0:Int)),(wI wO (0:Int)),(wI wO (0:Int)),(wJ none 0 0),(wJ none 0 0)])) D fun _ h4=>
 ∃v:bI,ap h4 c 0 v/\
 R (.tuple #[v,(wI wO (1:Int))]) h4) (Br (b<0) (ab wS (qb 74 c (wN #[(wI wO (0:Int)),(wI wO (0:Int)),(wI wO (0:Int)),(wI wO (0:Int)),(wI wO (0:Int)),(wI wO (0:Int)),(wJ none 0 0),(wJ none 0 0)])) D fun _ Y=>
 ∃s:bI,ap Y c 0 s/\
 R (.tuple #[s,(wI wO (1:Int))]) Y) (Br (b>16) (ab wS (qb 74 c (wN #[(wI wO (0:Int)),(wI wO (0:Int)),(wI wO (0:Int)),(wI wO (0:Int)),(wI wO (0:Int)),(wI wO (0:Int)),(wJ none 0 0),(wJ none 0 0)])) D fun _ h6=>
 ∃t:bI,ap h6 c 0 t/\
 R (.tuple #[t,(wI wO (1:Int))]) h6) (Br ((a.len:Int)>64)
 (ab wS (qb 74 c (wN #[(wI wO (0:Int)),(wI wO (0:Int)),(wI wO (0:Int)),(wI wO (0:Int)),(wI wO (0:Int)),(wI wO (0:Int)),(wJ none 0 0),(wJ none 0 0)])) D fun _ W=>
 ∃u:bI,ap W c 0 u/\
 R (.tuple #[u,(wI wO (1:Int))]) W)
 (K1 () D)))))
theorem fX(c:bS)(a:Int)(b:Sl)(d: @dK R h c a b):ac wS 37 #[c,a,b] h R:=av ae Tryz.func37 (ak.tn (.two (.join [] [(7,8),(13,30)] .n) (ak.tn (.two (ak.tn (.inn (.loop [(35,be)] [(7,8),(9,11),(35,56)] (ak.tn (ak.tn (.two (.inn (ak.tn (.two (.join [] [(7,8),(40,47)] .n) .n))) .n)))))) (ak.tn (.two (ak.tn (.inn (.loop [(64,be)] [(7,8),(12,13),(64,78)] .n))) .n)))))) d
abbrev hG:FuncId:=38
def dV(a:Int)(b:Option Addr):Prop:=
 aP (σ:=Unit) (fun _ e=>
 aJ wS (qA 107 (wN #[a,b,(wJ none 0 0),(wI wO (0:Int)),false,(wJ none 0 0),false])) e fun f d=>
 R f d)
 (fun c=>
 Br (a<1) (R (wK none) h) (Br (a>512) (R (wK none) h) (Br (qo b)
 (R (wK none) h)
 (c () h))))
theorem gx(a:Int)(b:Option Addr)(c: @dV R h a b):ac wS 38 #[a,b] h R:=av ae Tryz.func38 (ak.tn (.two (.join [] [(4,15)] .n) .n)) c
abbrev fL:FuncId:=39
def dq(k:Option Addr)(f:bI)(a:Sl):Prop:=
 aJ wS (qA 74 f) h fun r u=>
 aM (σ:=Sl×Int) (fun c s e=>
 Br (c.2<(a.len:Int))
 (∃a3,(a.ptr=some a3/\0<=c.2/\c.2<(a.len:Int))/\
 ∃n,cellOf e (a3.add (c.2.toNat*1))=some (wI wO n)/\
 ∃m:bI,ap e r 0 m/\
 ag wS 89 #[m] aH e fun i v=>
 aM (σ:=Sl×Int) (fun b w l=>
 Br (b.2<(i.len:Int))
 (∃p,(i.ptr=some p/\0<=b.2/\b.2<(i.len:Int))/\
 ∃o:Sl,cellOf l (p.add (b.2.toNat*1))=some (o:Value)/\
 ar wS (qg 154 1 #[(0,(wN #[n,o]))]) aH l fun g t=>
 ar wS (qh #[154,154] 154 #[b.1,g]) aH t fun d x=>
 w ((⟨d.ptr,d.len,d.cap⟩:Sl),qa wO (b.2+1)) x)
 (s ((⟨b.1.ptr,b.1.len,b.1.cap⟩:Sl),qa wO (c.2+1)) l)) ((⟨c.1.ptr,c.1.len,c.1.cap⟩:Sl),(0:Int)) v)
 (ag wS 90 #[k,c.1] cb e fun j q=>
 R j q)) ((⟨none,0,0⟩:Sl),(0:Int)) u
theorem fA(c:Option Addr)(b:bI)(a:Sl)(d: @dq R h c b a):ac wS 39 #[c,b,a] h R:=av ae Tryz.func39 (ak.tn (ak.tn (.two (ak.tn (.inn (.loop [(7,cz),(14,be)] [(7,8),(9,10),(11,12),(14,33)] (ak.tn (ak.tn (.two (.inn (ak.tn (ak.tn (.inn (.loop [(7,cz),(21,be)] [(7,8),(11,12),(21,32)] .n))))) .n)))))) .n))) d
abbrev hJ:FuncId:=40
def dW(Q:bI)(O:bI):Prop:=
 aJ wS (qA 74 Q) h fun m h1=>
 aJ wS (qA 74 O) h1 fun l k=>
 aP (σ:=Unit) (fun _ h4=>
 ∃L:Sl,cellOf h4 (m.add 7)=some (L:Value)/\
 aM (σ:=Int) (fun a K2 n=>
 Br (a<(L.len:Int))
 (aP (σ:=Addr×Addr) (fun i f=>
 ∃z:ByteArray,cellOf f i.1=some (wL z)/\
 ∃x:ByteArray,cellOf f i.2=some (wL x)/\
 Br (!(z.toList==x.toList)) (R false f) (∃q,cellOf f (i.1.add 1)=some (wI wO q)/\
 ∃r,cellOf f (i.2.add 1)=some (wI wO r)/\
 Br (q !=r) (R false f) (∃H,cellOf f (i.1.add 2)=some (wI wO H)/\
 ∃D,cellOf f (i.2.add 2)=some (wI wO D)/\
 Br (H !=D) (R false f) (∃v:Sl,cellOf f (i.1.add 3)=some (v:Value)/\
 ∃I:Sl,cellOf f (i.2.add 3)=some (I:Value)/\
 ag wS 42 #[v,I] bJ f fun P F=>
 Br (!P)
 (R false F)
 (K2 (qa wO (a+1)) F)))))
 (fun K3=>
 ∃j:Sl,cellOf n (m.add 7)=some (j:Value)/\
 ∃e,(j.ptr=some e/\0<=a/\a<(j.len:Int))/\
 ∃d:kv,ap n (e.add (a.toNat*4)) 0 d/\
 ∃g:Sl,cellOf n (l.add 7)=some (g:Value)/\
 ∃c,(g.ptr=some c/\0<=a/\a<(g.len:Int))/\
 ∃b:kv,ap n (c.add (a.toNat*4)) 0 b/\
 (aJ wS (qC 137 true (.tuple #[])) n fun M Z=>
 (an.ok [(c.add (a.toNat*4),b.1),((c.add (a.toNat*4)).add 1,b.2.1),((c.add (a.toNat*4)).add 2,b.2.2.1),((c.add (a.toNat*4)).add 3,b.2.2.2),(l.add 7,g),(e.add (a.toNat*4),d.1),((e.add (a.toNat*4)).add 1,d.2.1),((e.add (a.toNat*4)).add 2,d.2.2.1),((e.add (a.toNat*4)).add 3,d.2.2.2),(m.add 7,j)] Z)/\
 aJ wS (qC 137 true (.tuple #[])) Z fun A T=>
 (an.ok [(c.add (a.toNat*4),b.1),((c.add (a.toNat*4)).add 1,b.2.1),((c.add (a.toNat*4)).add 2,b.2.2.1),((c.add (a.toNat*4)).add 3,b.2.2.2),(l.add 7,g),(e.add (a.toNat*4),d.1),((e.add (a.toNat*4)).add 1,d.2.1),((e.add (a.toNat*4)).add 2,d.2.2.1),((e.add (a.toNat*4)).add 3,d.2.2.2),(m.add 7,j)] T)/\
 ab wS (qb 137 M d) T fun _ h8=>
 (an.ok [(c.add (a.toNat*4),b.1),((c.add (a.toNat*4)).add 1,b.2.1),((c.add (a.toNat*4)).add 2,b.2.2.1),((c.add (a.toNat*4)).add 3,b.2.2.2),(l.add 7,g)] h8)/\
 ab wS (qb 137 A b) h8 fun _ W=>
 (an.ok [] W)/\
 K3 (M,A) W)/\(aJ wS (qC 137 true (.tuple #[])) n fun a28 p=>
 (an.ok [(c.add (a.toNat*4),b.1),((c.add (a.toNat*4)).add 1,b.2.1),((c.add (a.toNat*4)).add 2,b.2.2.1),((c.add (a.toNat*4)).add 3,b.2.2.2),(l.add 7,g),(e.add (a.toNat*4),d.1),((e.add (a.toNat*4)).add 1,d.2.1),((e.add (a.toNat*4)).add 2,d.2.2.1),((e.add (a.toNat*4)).add 3,d.2.2.2),(m.add 7,j)] p)/\
 aJ wS (qC 137 true (.tuple #[])) p fun t J=>
 (an.ok [(c.add (a.toNat*4),b.1),((c.add (a.toNat*4)).add 1,b.2.1),((c.add (a.toNat*4)).add 2,b.2.2.1),((c.add (a.toNat*4)).add 3,b.2.2.2),(l.add 7,g),(e.add (a.toNat*4),d.1),((e.add (a.toNat*4)).add 1,d.2.1),((e.add (a.toNat*4)).add 2,d.2.2.1),((e.add (a.toNat*4)).add 3,d.2.2.2),(m.add 7,j)] J)/\
 ab wS (qb 137 t d) J fun _ K=>
 (an.ok [(c.add (a.toNat*4),b.1),((c.add (a.toNat*4)).add 1,b.2.1),((c.add (a.toNat*4)).add 2,b.2.2.1),((c.add (a.toNat*4)).add 3,b.2.2.2),(l.add 7,g)] K)/\
 ab wS (qb 137 a28 b) K fun _ B=>
 (an.ok [] B)/\
 K3 (t,a28) B)))
 (R true n)) (0:Int) h4)
 (fun K1=>
 ∃x3,cellOf k m=some (wI wO x3)/\
 ∃V,cellOf k l=some (wI wO V)/\
 Br (x3 !=V) (R false k) (∃S,cellOf k (m.add 1)=some (wI wO S)/\
 ∃X,cellOf k (l.add 1)=some (wI wO X)/\
 Br (S !=X) (R false k) (∃Y:bS,ap k (m.add 2) 0 Y/\
 ∃x8:bS,ap k (l.add 2) 0 x8/\
 ∃U:Bool,(iO wS .neq 23 (.tmp 22) (.tmp 24) Y x8 (wM U))/\
 Br U (R false k) (∃E,cellOf k (m.add 5)=some (wI wO E)/\
 ∃y,cellOf k (l.add 5)=some (wI wO y)/\
 Br (E !=y) (R false k) (∃G:Sl,cellOf k (m.add 6)=some (G:Value)/\
 ∃w:Sl,cellOf k (l.add 6)=some (w:Value)/\
 ag wS 42 #[G,w] bJ k fun N s=>
 Br (!N) (R false s) (∃o:Sl,cellOf s (m.add 7)=some (o:Value)/\
 ∃u:Sl,cellOf s (l.add 7)=some (u:Value)/\
 Br ((o.len:Int) !=(u.len:Int))
 (R false s)
 (K1 () s)))))))
theorem gy(b:bI)(a:bI)(c: @dW R h b a):ac wS 40 #[b,a] h R:=av ae Tryz.func40 (ak.tn (.two (.join [] [(4,5),(8,51)] .n) (.two (ak.tn (.inn (.loop [(54,be)] [(4,8),(54,95)] (ak.tn (ak.tn (.two (.inn (ak.tn (.two (.join [(6,(.sc .adr)),(7,(.sc .adr))] [(6,8),(57,67)] .n) .n))) .n)))))) .n))) c
end
end Go.Proofs.YtcamechmadjclaaGreatDoor
