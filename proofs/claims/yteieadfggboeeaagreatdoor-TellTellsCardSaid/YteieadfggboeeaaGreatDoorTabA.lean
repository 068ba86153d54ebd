/- Part of the proofs that the laws of this seat answer true whatever the input reads, and leave it as it was; no condition. -/
import Derived.Test.YteieadfggboeeaaGreatDoorPlA
import Derived.Test.YteieadfggboeeaaGreatDoorProg
set_option linter.unusedVariables false
set_option linter.unusedSimpArgs false
namespace Go.Qw
open Go Go.Vc Go.Proofs
set_option maxRecDepth 1000000
instance:Coe Int Value:=⟨fun x=>.int .i64 x⟩
instance:Coe Sl Value:=⟨fun s=>.slice s.ptr s.len s.cap⟩
instance:Coe ByteArray Value:=⟨.string⟩
instance:Coe (Option Addr) Value:=⟨.pointer⟩
instance:Coe Addr Value:=⟨fun a=>.pointer (some a)⟩
instance:Coe Bool Value:=⟨.bool⟩
instance:Coe (Int×ByteArray×Sl×Int×Int×Int×Int×Sl×Sl) (List Value):=⟨fun x=>[x.1,x.2.1,x.2.2.1,x.2.2.2.1,x.2.2.2.2.1,x.2.2.2.2.2.1,(.int .u32 x.2.2.2.2.2.2.1),x.2.2.2.2.2.2.2.1,x.2.2.2.2.2.2.2.2]⟩
instance:Coe (Int×ByteArray×Sl×Int×Int×Int×Int×Sl×Sl) Value:=⟨fun x=>.agg (List.toArray x)⟩
instance:Coe (Int×Sl×Sl×Int×Int×Int×Sl×Int) (List Value):=⟨fun x=>[x.1,x.2.1,x.2.2.1,x.2.2.2.1,x.2.2.2.2.1,x.2.2.2.2.2.1,x.2.2.2.2.2.2.1,x.2.2.2.2.2.2.2]⟩
instance:Coe (Int×Sl×Sl×Int×Int×Int×Sl×Int) Value:=⟨fun x=>.agg (List.toArray x)⟩
instance:Coe (Int×Int×Int) (List Value):=⟨fun x=>[x.1,x.2.1,x.2.2]⟩
instance:Coe (Int×Int×Int) Value:=⟨fun x=>.agg (List.toArray x)⟩
instance:Coe (Int×Int×Int×Int×Int×Int×Sl×Sl) (List Value):=⟨fun x=>[x.1,x.2.1,x.2.2.1,x.2.2.2.1,x.2.2.2.2.1,x.2.2.2.2.2.1,x.2.2.2.2.2.2.1,x.2.2.2.2.2.2.2]⟩
instance:Coe (Int×Int×Int×Int×Int×Int×Sl×Sl) Value:=⟨fun x=>.agg (List.toArray x)⟩
instance:Coe (Int×Int×Int×Sl) (List Value):=⟨fun x=>[x.1,x.2.1,x.2.2.1,x.2.2.2]⟩
instance:Coe (Int×Int×Int×Sl) Value:=⟨fun x=>.agg (List.toArray x)⟩
instance:Coe (ByteArray×Int×Int×Sl) (List Value):=⟨fun x=>[x.1,x.2.1,x.2.2.1,x.2.2.2]⟩
instance:Coe (ByteArray×Int×Int×Sl) Value:=⟨fun x=>.agg (List.toArray x)⟩
instance:Coe (Int×Sl) (List Value):=⟨fun x=>[x.1,x.2]⟩
instance:Coe (Int×Sl) Value:=⟨fun x=>.agg (List.toArray x)⟩
instance:Coe (Int×Int×Int×Int×Int×Int×Int×Sl) (List Value):=⟨fun x=>[x.1,x.2.1,x.2.2.1,x.2.2.2.1,x.2.2.2.2.1,x.2.2.2.2.2.1,(.int .u32 x.2.2.2.2.2.2.1),x.2.2.2.2.2.2.2]⟩
instance:Coe (Int×Int×Int×Int×Int×Int×Int×Sl) Value:=⟨fun x=>.agg (List.toArray x)⟩
instance:Coe (Sl×Sl) (List Value):=⟨fun x=>[x.1,x.2]⟩
instance:Coe (Sl×Sl) Value:=⟨fun x=>.agg (List.toArray x)⟩
instance:Coe (Sl×Sl×Sl) (List Value):=⟨fun x=>[x.1,x.2.1,x.2.2]⟩
instance:Coe (Sl×Sl×Sl) Value:=⟨fun x=>.agg (List.toArray x)⟩
instance:Coe (Int×Int) (List Value):=⟨fun x=>[x.1,x.2]⟩
instance:Coe (Int×Int) Value:=⟨fun x=>.agg (List.toArray x)⟩
instance:Coe (Int×Int×Int×Sl×Sl) (List Value):=⟨fun x=>[x.1,x.2.1,x.2.2.1,x.2.2.2.1,x.2.2.2.2]⟩
instance:Coe (Int×Int×Int×Sl×Sl) Value:=⟨fun x=>.agg (List.toArray x)⟩
abbrev ic:=Int×Int×Int×Int×Int×Int×Sl×Sl
abbrev gQ:=Int×Int×Int
abbrev oy:=ByteArray×Int×Int×Sl
abbrev bE:=Int×ByteArray×Sl×Int×Int×Int×Int×Sl×Sl
abbrev fM:=Int×Sl×Sl×Int×Int×Int×Sl×Int
abbrev aT:Rt:=.one (.sc .slc)
abbrev cU:Rt:=.one (.sc (.int .i64))
abbrev xf:Rt:=.one (.sc .ptr)
abbrev cB:Rt:=.one (.sc .bool)
abbrev vr:Rt:=.many []
abbrev fw:Ty:=.sc .slc
abbrev bk:Ty:=.sc (.int .i64)
abbrev zC:Ty:=.sc .ptr
abbrev eW:Ty:=.sc .bool
abbrev bo:Ty:=.sc .str
variable {R:Value→Heap→Prop} {h:Heap}
def bM:ByteArray:=⟨#[48,49,50,51,52,53,54,55,56,57,97,98,99,100,101,102,103,104,105,106,107,108,109,110,111,112,113,114,115,116,117,118,119,120,121,122]⟩
def al:ByteArray:=⟨#[48,48,48,49,48,50,48,51,48,52,48,53,48,54,48,55,48,56,48,57,49,48,49,49,49,50,49,51,49,52,49,53,49,54,49,55,49,56,49,57,50,48,50,49,50,50,50,51,50,52,50,53,50,54,50,55,50,56,50,57,51,48,51,49,51,50,51,51,51,52,51,53,51,54,51,55,51,56,51,57,52,48,52,49,52,50,52,51,52,52,52,53,52,54,52,55,52,56,52,57,53,48,53,49,53,50,53,51,53,52,53,53,53,54,53,55,53,56,53,57,54,48,54,49,54,50,54,51,54,52,54,53,54,54,54,55,54,56,54,57,55,48,55,49,55,50,55,51,55,52,55,53,55,54,55,55,55,56,55,57,56,48,56,49,56,50,56,51,56,52,56,53,56,54,56,55,56,56,56,57,57,48,57,49,57,50,57,51,57,52,57,53,57,54,57,55,57,56,57,57]⟩
def ap:ByteArray:=⟨#[48,49,50,51,52,53,54,55,56,57,97,98,99,100,101,102]⟩
def ko:ByteArray:=⟨#[45]⟩
def cZ:ByteArray:=⟨#[115,116,97,116,32]⟩
def bF:ByteArray:=⟨#[101,114,114,111,114,32]⟩
def er:ByteArray:=⟨#[98,121,116,101,115,32]⟩
def eu:ByteArray:=⟨#[110,97,109,101,115]⟩
def dS:ByteArray:=⟨#[109,105,110,116,101,100,32]⟩
def pW:ByteArray:=⟨#[111,107]⟩
def ul:ByteArray:=⟨#[97,100,100]⟩
def qr:ByteArray:=⟨#[114,101,116,105,114,101]⟩
def pl:ByteArray:=⟨#[114,101,112,108,97,99,101]⟩
def sJ:ByteArray:=⟨#[108,111,115,101]⟩
def rE:ByteArray:=⟨#[115,99,114,117,98]⟩
def rF:ByteArray:=⟨#[115,112,111,105,108]⟩
def um:ByteArray:=⟨#[97,114,109]⟩
def sK:ByteArray:=⟨#[102,97,108,108]⟩
def vt:ByteArray:=⟨#[112,117,116]⟩
def mi:ByteArray:=⟨#[103,101,116]⟩
def mj:ByteArray:=⟨#[100,101,108]⟩
def fN:ByteArray:=⟨#[115,116,97,116]⟩
def sL:ByteArray:=⟨#[108,105,115,116]⟩
def bx:ByteArray:=⟨#[]⟩
def gq:ByteArray:=⟨#[115,99,114,117,98,32,49,32,50,48]⟩
def un:ByteArray:=⟨#[108,105,115,116,10]⟩
def sM:ByteArray:=⟨#[110,97,109,101,115,10]⟩
def aV:ByteArray:=⟨#[32]⟩
abbrev aH:Nat:=3
abbrev ay:Nat:=5
abbrev bA:Nat:=9
abbrev nH:Nat:=22
abbrev bQ:Nat:=26
abbrev av:Nat:=29
abbrev aP:Nat:=38
abbrev ew:Nat:=44
abbrev am:Nat:=65
abbrev xL:Nat:=68
abbrev aC:Nat:=73
abbrev nI:Nat:=82
abbrev mU:Nat:=95
abbrev aN:Nat:=98
abbrev aM:Nat:=113
abbrev bJ:Nat:=118
abbrev dT:Nat:=121
abbrev qt:Nat:=122
abbrev pm:Nat:=127
abbrev gI:Nat:=157
abbrev bK:Nat:=170
abbrev eL:Nat:=176
abbrev fk:Nat:=184
abbrev cH:Nat:=187
abbrev ac:TI:=⟨.fn,(.sc .fn),1,8,[.nilFunc]⟩
abbrev vu:TI:=⟨.int .i64,(.sc (.int .i64)),1,8,[(.int .i64 0)]⟩
abbrev xg:TI:=⟨.int .u8,(.sc (.int .u8)),1,1,[(.int .u8 0)]⟩
abbrev yn:TI:=⟨.str,(.sc .str),1,16,[(.string ⟨#[]⟩)]⟩
abbrev xh:TI:=⟨.int .u64,(.sc (.int .u64)),1,8,[(.int .u64 0)]⟩
abbrev yo:TI:=⟨.other,(.sc .any),1,16,[.nilIface]⟩
abbrev yp:TI:=⟨.int .i32,(.sc (.int .i32)),1,4,[(.int .i32 0)]⟩
abbrev xi:TI:=⟨.struct [(0,3),(1,3),(2,3)],(.agg [(.int .i64),(.int .i64),(.int .i64)]),3,24,[(.int .i64 0),(.int .i64 0),(.int .i64 0)]⟩
abbrev vv:TI:=⟨.other,(.sc .any),1,0,[(.tuple #[(.slice none 0 0),(.bool .false)])]⟩
abbrev xj:TI:=⟨.other,(.sc .any),1,0,[(.tuple #[(.pointer none),(.int .i64 0)])]⟩
abbrev wz:TI:=⟨.mp,(.sc .mp),1,8,[(.map none)]⟩
abbrev wA:TI:=⟨.other,(.sc .any),1,0,[(.tuple #[(.int .i64 0),(.int .i64 0)])]⟩
abbrev wB:TI:=⟨.other,(.sc .any),1,0,[(.tuple #[(.slice none 0 0),(.int .i64 0)])]⟩
abbrev wC:TI:=⟨.array 256 4,(.arr .bool),256,256,List.replicate 256 (.bool .false)⟩
abbrev uo:TI:=⟨.struct [(0,3),(1,26)],(.agg [(.int .i64),.slc]),2,32,[(.int .i64 0),(.slice none 0 0)]⟩
noncomputable def xk:cR:=[⟨.other,(.sc .any),1,0,[(.tuple #[])]⟩,ac,vu,vu,⟨.bool,(.sc .bool),1,1,[(.bool .false)]⟩,xg,xg,⟨.struct [(0,2),(1,3),(2,4),(3,6)],(.agg [(.int .i64),(.int .i64),.bool,(.int .u8)]),4,24,[(.int .i64 0),(.int .i64 0),(.bool .false),(.int .u8 0)]⟩,⟨.struct [(0,2),(1,3),(2,4),(3,6)],(.agg [(.int .i64),(.int .i64),.bool,(.int .u8)]),4,24,[(.int .i64 0),(.int .i64 0),(.bool .false),(.int .u8 0)]⟩,yn,yn,yn,xh,⟨.struct [(0,9),(1,12)],(.agg [.str,(.int .u64)]),2,24,[(.string ⟨#[]⟩),(.int .u64 0)]⟩,⟨.struct [(0,9),(1,12)],(.agg [.str,(.int .u64)]),2,24,[(.string ⟨#[]⟩),(.int .u64 0)]⟩,⟨.ptr 502,(.sc .ptr),1,8,[(.pointer none)]⟩,⟨.ptr 505,(.sc .ptr),1,8,[(.pointer none)]⟩,⟨.ptr 512,(.sc .ptr),1,8,[(.pointer none)]⟩,⟨.struct [(0,17)],(.agg [.ptr]),1,8,[(.pointer none)]⟩,⟨.struct [(0,17)],(.agg [.ptr]),1,8,[(.pointer none)]⟩,yo,yp,⟨.slice 3,(.sc .slc),1,24,[(.slice none 0 0)]⟩,ac,ac,⟨.slice 9,(.sc .slc),1,24,[(.slice none 0 0)]⟩,⟨.slice 5,(.sc .slc),1,24,[(.slice none 0 0)]⟩,⟨.int .u32,(.sc (.int .u32)),1,4,[(.int .u32 0)]⟩,⟨.struct [(0,3),(1,9),(2,26),(3,3),(4,3),(5,3),(6,27),(7,22),(8,22)],(.agg [(.int .i64),.str,.slc,(.int .i64),(.int .i64),(.int .i64),(.int .u32),.slc,.slc]),9,128,[(.int .i64 0),(.string ⟨#[]⟩),(.slice none 0 0),(.int .i64 0),(.int .i64 0),(.int .i64 0),(.int .u32 0),(.slice none 0 0),(.slice none 0 0)]⟩,⟨.struct [(0,3),(1,9),(2,26),(3,3),(4,3),(5,3),(6,27),(7,22),(8,22)],(.agg [(.int .i64),.str,.slc,(.int .i64),(.int .i64),(.int .i64),(.int .u32),.slc,.slc]),9,128,[(.int .i64 0),(.string ⟨#[]⟩),(.slice none 0 0),(.int .i64 0),(.int .i64 0),(.int .i64 0),(.int .u32 0),(.slice none 0 0),(.slice none 0 0)]⟩,⟨.other,(.sc .any),1,0,[(.tuple #[(.agg #[(.int .i64 0),(.string ⟨#[]⟩),(.slice none 0 0),(.int .i64 0),(.int .i64 0),(.int .i64 0),(.int .u32 0),(.slice none 0 0),(.slice none 0 0)]),(.bool .false)])]⟩,ac,ac,ac,vu,⟨.struct [(0,3),(1,3),(2,3),(3,22)],(.agg [(.int .i64),(.int .i64),(.int .i64),.slc]),4,48,[(.int .i64 0),(.int .i64 0),(.int .i64 0),(.slice none 0 0)]⟩,⟨.struct [(0,3),(1,3),(2,3),(3,22)],(.agg [(.int .i64),(.int .i64),(.int .i64),.slc]),4,48,[(.int .i64 0),(.int .i64 0),(.int .i64 0),(.slice none 0 0)]⟩,⟨.struct [(0,34),(1,26),(2,25),(3,36),(7,3)],(.agg [(.int .i64),.slc,.slc,(.int .i64),(.int .i64),(.int .i64),.slc,(.int .i64)]),8,112,[(.int .i64 0),(.slice none 0 0),(.slice none 0 0),(.int .i64 0),(.int .i64 0),(.int .i64 0),(.slice none 0 0),(.int .i64 0)]⟩,⟨.struct [(0,34),(1,26),(2,25),(3,36),(7,3)],(.agg [(.int .i64),.slc,.slc,(.int .i64),(.int .i64),(.int .i64),.slc,(.int .i64)]),8,112,[(.int .i64 0),(.slice none 0 0),(.slice none 0 0),(.int .i64 0),(.int .i64 0),(.int .i64 0),(.slice none 0 0),(.int .i64 0)]⟩,ac,ac,ac,ac,xi,xi,ac,⟨.slice 29,(.sc .slc),1,24,[(.slice none 0 0)]⟩,ac,ac,ac,ac,ac,ac,vv,ac,ac,vv,ac,vv,ac,ac,ac,ac,⟨.ptr 65,(.sc .ptr),1,8,[(.pointer none)]⟩,⟨.struct [(0,63),(1,26)],(.agg [.ptr,.slc]),2,32,[(.pointer none),(.slice none 0 0)]⟩,⟨.struct [(0,63),(1,26)],(.agg [.ptr,.slc]),2,32,[(.pointer none),(.slice none 0 0)]⟩,ac,yo,yo,⟨.other,(.sc .any),1,0,[(.tuple #[(.int .i64 0),.nilIface])]⟩,ac,ac,ac,⟨.ptr 98,(.sc .ptr),1,8,[(.pointer none)]⟩,xj,ac,ac,ac,ac,ac,ac,ac,wz,⟨.other,(.sc .any),1,0,[(.tuple #[(.int .i64 0),(.bool .false)])]⟩,ac,ac,ac,ac,⟨.ptr 5,(.sc .ptr),1,8,[(.pointer none)]⟩,xh,⟨.ptr 113,(.sc .ptr),1,8,[(.pointer none)]⟩,ac,⟨.ptr 121,(.sc .ptr),1,8,[(.pointer none)]⟩,xj,ac,⟨.ptr 184,(.sc .ptr),1,8,[(.pointer none)]⟩,⟨.array 64 95,(.arr .ptr),64,512,List.replicate 64 (.pointer none)⟩,⟨.struct [(0,90),(1,92),(2,96)],(.arr .any),66,528,List.replicate 66 (.pointer none)⟩,⟨.struct [(0,90),(1,92),(2,96)],(.arr .any),66,528,List.replicate 66 (.pointer none)⟩,ac,ac,ac,ac,wA,ac,ac,ac,ac,ac,ac,⟨.other,(.sc .any),1,8,[(.pointer none)]⟩,ac,⟨.struct [(0,4),(1,4),(2,3),(3,3)],(.agg [.bool,.bool,(.int .i64),(.int .i64)]),4,24,[(.bool .false),(.bool .false),(.int .i64 0),(.int .i64 0)]⟩,⟨.struct [(0,4),(1,4),(2,3),(3,3)],(.agg [.bool,.bool,(.int .i64),(.int .i64)]),4,24,[(.bool .false),(.bool .false),(.int .i64 0),(.int .i64 0)]⟩,ac,ac,⟨.slice 157,(.sc .slc),1,24,[(.slice none 0 0)]⟩,⟨.struct [(0,3),(1,3),(2,44),(5,3),(6,22),(7,116)],(.agg [(.int .i64),(.int .i64),(.int .i64),(.int .i64),(.int .i64),(.int .i64),.slc,.slc]),8,96,[(.int .i64 0),(.int .i64 0),(.int .i64 0),(.int .i64 0),(.int .i64 0),(.int .i64 0),(.slice none 0 0),(.slice none 0 0)]⟩,⟨.struct [(0,3),(1,3),(2,44),(5,3),(6,22),(7,116)],(.agg [(.int .i64),(.int .i64),(.int .i64),(.int .i64),(.int .i64),(.int .i64),.slc,.slc]),8,96,[(.int .i64 0),(.int .i64 0),(.int .i64 0),(.int .i64 0),(.int .i64 0),(.int .i64 0),(.slice none 0 0),(.slice none 0 0)]⟩,ac,⟨.struct [(0,118),(8,90),(9,3),(10,96)],(.arr .any),74,624,[(.int .i64 0),(.int .i64 0),(.int .i64 0),(.int .i64 0),(.int .i64 0),(.int .i64 0),(.slice none 0 0),(.slice none 0 0),(.pointer none),(.int .i64 0)]++List.replicate 64 (.pointer none)⟩,⟨.struct [(0,118),(8,90),(9,3),(10,96)],(.arr .any),74,624,[(.int .i64 0),(.int .i64 0),(.int .i64 0),(.int .i64 0),(.int .i64 0),(.int .i64 0),(.slice none 0 0),(.slice none 0 0),(.pointer none),(.int .i64 0)]++List.replicate 64 (.pointer none)⟩,⟨.slice 26,(.sc .slc),1,24,[(.slice none 0 0)]⟩,ac,ac,ac,ac,⟨.slice 187,(.sc .slc),1,24,[(.slice none 0 0)]⟩,ac,ac,ac,wB,ac,ac,ac,⟨.other,(.sc .any),1,0,[(.tuple #[(.agg #[(.int .i64 0),(.int .i64 0),(.int .i64 0),(.slice none 0 0)]),(.int .i64 0)])]⟩,ac,ac,ac,ac,ac,ac,ac,ac,ac,⟨.ptr 148,(.sc .ptr),1,8,[(.pointer none)]⟩,⟨.array 64 3,(.arr (.int .i64)),64,512,List.replicate 64 (.int .i64 0)⟩,⟨.struct [(0,92),(1,118),(9,118),(17,22),(18,3),(19,146),(83,127)],(.arr .any),84,768,[(.pointer none),(.int .i64 0),(.int .i64 0),(.int .i64 0),(.int .i64 0),(.int .i64 0),(.int .i64 0),(.slice none 0 0),(.slice none 0 0),(.int .i64 0),(.int .i64 0),(.int .i64 0),(.int .i64 0),(.int .i64 0),(.int .i64 0),(.slice none 0 0),(.slice none 0 0),(.slice none 0 0)]++List.replicate 65 (.int .i64 0)++[(.slice none 0 0)]⟩,⟨.struct [(0,92),(1,118),(9,118),(17,22),(18,3),(19,146),(83,127)],(.arr .any),84,768,[(.pointer none),(.int .i64 0),(.int .i64 0),(.int .i64 0),(.int .i64 0),(.int .i64 0),(.int .i64 0),(.slice none 0 0),(.slice none 0 0),(.int .i64 0),(.int .i64 0),(.int .i64 0),(.int .i64 0),(.int .i64 0),(.int .i64 0),(.slice none 0 0),(.slice none 0 0),(.slice none 0 0)]++List.replicate 65 (.int .i64 0)++[(.slice none 0 0)]⟩,ac,ac,ac,⟨.ptr 154,(.sc .ptr),1,8,[(.pointer none)]⟩,⟨.struct [(0,92),(1,118),(9,22),(10,3),(11,3),(12,3)],(.agg [.ptr,(.int .i64),(.int .i64),(.int .i64),(.int .i64),(.int .i64),(.int .i64),.slc,.slc,.slc,(.int .i64),(.int .i64),(.int .i64)]),13,152,[(.pointer none),(.int .i64 0),(.int .i64 0),(.int .i64 0),(.int .i64 0),(.int .i64 0),(.int .i64 0),(.slice none 0 0),(.slice none 0 0),(.slice none 0 0),(.int .i64 0),(.int .i64 0),(.int .i64 0)]⟩,⟨.struct [(0,92),(1,118),(9,22),(10,3),(11,3),(12,3)],(.agg [.ptr,(.int .i64),(.int .i64),(.int .i64),(.int .i64),(.int .i64),(.int .i64),.slc,.slc,.slc,(.int .i64),(.int .i64),(.int .i64)]),13,152,[(.pointer none),(.int .i64 0),(.int .i64 0),(.int .i64 0),(.int .i64 0),(.int .i64 0),(.int .i64 0),(.slice none 0 0),(.slice none 0 0),(.slice none 0 0),(.int .i64 0),(.int .i64 0),(.int .i64 0)]⟩,ac,⟨.struct [(0,9),(1,3),(2,3),(3,22)],(.agg [.str,(.int .i64),(.int .i64),.slc]),4,56,[(.string ⟨#[]⟩),(.int .i64 0),(.int .i64 0),(.slice none 0 0)]⟩,⟨.struct [(0,9),(1,3),(2,3),(3,22)],(.agg [.str,(.int .i64),(.int .i64),.slc]),4,56,[(.string ⟨#[]⟩),(.int .i64 0),(.int .i64 0),(.slice none 0 0)]⟩,ac,⟨.other,(.sc .any),1,0,[(.tuple #[(.int .i64 0),(.slice none 0 0),(.bool .false)])]⟩,ac,ac,ac,ac,ac,⟨.slice 95,(.sc .slc),1,24,[(.slice none 0 0)]⟩,⟨.other,(.sc .any),1,0,[(.tuple #[(.int .i32 0),(.int .i64 0)])]⟩,ac,ac,wC,wC,⟨.other,(.sc .any),1,0,[(.tuple #[(.agg #[(.bool .false),(.bool .false),(.bool .false),(.bool .false),(.bool .false),(.bool .false),(.bool .false),(.bool .false),(.bool .false),(.bool .false),(.bool .false),(.bool .false),(.bool .false),(.bool .false),(.bool .false),(.bool .false),(.bool .false),(.bool .false),(.bool .false),(.bool .false),(.bool .false),(.bool .false),(.bool .false),(.bool .false),(.bool .false),(.bool .false),(.bool .false),(.bool .false),(.bool .false),(.bool .false),(.bool .false),(.bool .false),(.bool .false),(.bool .false),(.bool .false),(.bool .false),(.bool .false),(.bool .false),(.bool .false),(.bool .false),(.bool .false),(.bool .false),(.bool .false),(.bool .false),(.bool .false),(.bool .false),(.bool .false),(.bool .false),(.bool .false),(.bool .false),(.bool .false),(.bool .false),(.bool .false),(.bool .false),(.bool .false),(.bool .false),(.bool .false),(.bool .false),(.bool .false),(.bool .false),(.bool .false),(.bool .false),(.bool .false),(.bool .false),(.bool .false),(.bool .false),(.bool .false),(.bool .false),(.bool .false),(.bool .false),(.bool .false),(.bool .false),(.bool .false),(.bool .false),(.bool .false),(.bool .false),(.bool .false),(.bool .false),(.bool .false),(.bool .false),(.bool .false),(.bool .false),(.bool .false),(.bool .false),(.bool .false),(.bool .false),(.bool .false),(.bool .false),(.bool .false),(.bool .false),(.bool .false),(.bool .false),(.bool .false),(.bool .false),(.bool .false),(.bool .false),(.bool .false),(.bool .false),(.bool .false),(.bool .false),(.bool .false),(.bool .false),(.bool .false),(.bool .false),(.bool .false),(.bool .false),(.bool .false),(.bool .false),(.bool .false),(.bool .false),(.bool .false),(.bool .false),(.bool .false),(.bool .false),(.bool .false),(.bool .false),(.bool .false),(.bool .false),(.bool .false),(.bool .false),(.bool .false),(.bool .false),(.bool .false),(.bool .false),(.bool .false),(.bool .false),(.bool .false),(.bool .false),(.bool .false),(.bool .false),(.bool .false),(.bool .false),(.bool .false),(.bool .false),(.bool .false),(.bool .false),(.bool .false),(.bool .false),(.bool .false),(.bool .false),(.bool .false),(.bool .false),(.bool .false),(.bool .false),(.bool .false),(.bool .false),(.bool .false),(.bool .false),(.bool .false),(.bool .false),(.bool .false),(.bool .false),(.bool .false),(.bool .false),(.bool .false),(.bool .false),(.bool .false),(.bool .false),(.bool .false),(.bool .false),(.bool .false),(.bool .false),(.bool .false),(.bool .false),(.bool .false),(.bool .false),(.bool .false),(.bool .false),(.bool .false),(.bool .false),(.bool .false),(.bool .false),(.bool .false),(.bool .false),(.bool .false),(.bool .false),(.bool .false),(.bool .false),(.bool .false),(.bool .false),(.bool .false),(.bool .false),(.bool .false),(.bool .false),(.bool .false),(.bool .false),(.bool .false),(.bool .false),(.bool .false),(.bool .false),(.bool .false),(.bool .false),(.bool .false),(.bool .false),(.bool .false),(.bool .false),(.bool .false),(.bool .false),(.bool .false),(.bool .false),(.bool .false),(.bool .false),(.bool .false),(.bool .false),(.bool .false),(.bool .false),(.bool .false),(.bool .false),(.bool .false),(.bool .false),(.bool .false),(.bool .false),(.bool .false),(.bool .false),(.bool .false),(.bool .false),(.bool .false),(.bool .false),(.bool .false),(.bool .false),(.bool .false),(.bool .false),(.bool .false),(.bool .false),(.bool .false),(.bool .false),(.bool .false),(.bool .false),(.bool .false),(.bool .false),(.bool .false),(.bool .false),(.bool .false),(.bool .false),(.bool .false),(.bool .false),(.bool .false),(.bool .false),(.bool .false),(.bool .false),(.bool .false),(.bool .false),(.bool .false),(.bool .false),(.bool .false),(.bool .false),(.bool .false),(.bool .false),(.bool .false),(.bool .false),(.bool .false),(.bool .false),(.bool .false),(.bool .false),(.bool .false),(.bool .false)]),(.bool .false)])]⟩,ac,ac,⟨.ptr 170,(.sc .ptr),1,8,[(.pointer none)]⟩,ac,⟨.array 24 5,(.arr (.int .u8)),24,24,List.replicate 24 (.int .u8 0)⟩,ac,ac,⟨.other,(.sc .any),1,0,[(.tuple #[(.slice none 0 0),(.string ⟨#[]⟩)])]⟩,ac,ac,ac,⟨.struct [(0,90),(1,3),(2,122),(3,3),(4,122),(5,4),(6,4)],(.agg [.ptr,(.int .i64),.slc,(.int .i64),.slc,.bool,.bool]),7,80,[(.pointer none),(.int .i64 0),(.slice none 0 0),(.int .i64 0),(.slice none 0 0),(.bool .false),(.bool .false)]⟩,⟨.struct [(0,90),(1,3),(2,122),(3,3),(4,122),(5,4),(6,4)],(.agg [.ptr,(.int .i64),.slc,(.int .i64),.slc,.bool,.bool]),7,80,[(.pointer none),(.int .i64 0),(.slice none 0 0),(.int .i64 0),(.slice none 0 0),(.bool .false),(.bool .false)]⟩,ac,uo,uo,ac,ac,ac,ac,vv,ac,ac,ac,ac,ac,ac,⟨.slice 265,(.sc .slc),1,24,[(.slice none 0 0)]⟩,ac,ac,ac,ac,ac,ac,ac,ac,⟨.slice 211,(.sc .slc),1,24,[(.slice none 0 0)]⟩,ac,⟨.struct [(0,3),(1,3),(2,3),(3,44),(6,27),(7,26)],(.agg [(.int .i64),(.int .i64),(.int .i64),(.int .i64),(.int .i64),(.int .i64),(.int .u32),.slc]),8,80,[(.int .i64 0),(.int .i64 0),(.int .i64 0),(.int .i64 0),(.int .i64 0),(.int .i64 0),(.int .u32 0),(.slice none 0 0)]⟩,⟨.struct [(0,3),(1,3),(2,3),(3,44),(6,27),(7,26)],(.agg [(.int .i64),(.int .i64),(.int .i64),(.int .i64),(.int .i64),(.int .i64),(.int .u32),.slc]),8,80,[(.int .i64 0),(.int .i64 0),(.int .i64 0),(.int .i64 0),(.int .i64 0),(.int .i64 0),(.int .u32 0),(.slice none 0 0)]⟩,ac,ac,xh,ac,ac,ac,ac,ac,ac,ac,ac,ac,ac,ac,ac,⟨.ptr 234,(.sc .ptr),1,8,[(.pointer none)]⟩,xj,ac,ac,⟨.ptr 324,(.sc .ptr),1,8,[(.pointer none)]⟩,⟨.slice 22,(.sc .slc),1,24,[(.slice none 0 0)]⟩,⟨.struct [(0,3),(1,3),(2,27),(3,231),(4,232),(5,22)],(.agg [(.int .i64),(.int .i64),(.int .u32),.ptr,.slc,.slc]),6,80,[(.int .i64 0),(.int .i64 0),(.int .u32 0),(.pointer none),(.slice none 0 0),(.slice none 0 0)]⟩,⟨.struct [(0,3),(1,3),(2,27),(3,231),(4,232),(5,22)],(.agg [(.int .i64),(.int .i64),(.int .u32),.ptr,.slc,.slc]),6,80,[(.int .i64 0),(.int .i64 0),(.int .u32 0),(.pointer none),(.slice none 0 0),(.slice none 0 0)]⟩,ac,ac,⟨.other,(.sc .any),1,0,[(.tuple #[(.agg #[(.int .i64 0),(.int .i64 0),(.int .i64 0),(.int .i64 0),(.int .i64 0),(.int .i64 0),(.slice none 0 0),(.slice none 0 0)]),(.bool .false)])]⟩,ac,ac,ac,ac,vu,⟨.other,(.sc .any),1,0,[(.tuple #[(.int .i64 0),.nilIface])]⟩,ac,⟨.ptr 315,(.sc .ptr),1,8,[(.pointer none)]⟩,ac,ac,ac,⟨.array 20 89,(.arr (.int .u64)),20,160,List.replicate 20 (.int .u64 0)⟩,⟨.array 65 5,(.arr (.int .u8)),65,65,List.replicate 65 (.int .u8 0)⟩,ac,ac,ac,ac,xj,ac,ac,ac,ac,ac,ac,ac,ac,uo,uo,ac,ac,ac,ac,ac,wB,ac,ac,ac,⟨.other,(.sc .any),1,0,[(.tuple #[(.agg #[(.int .i64 0),(.int .i64 0),(.int .i64 0),(.int .i64 0),(.int .i64 0),(.int .i64 0),(.int .u32 0),(.slice none 0 0)]),(.bool .false)])]⟩,ac,ac,ac,ac,ac,ac,ac,vu,wA,ac,ac,ac,ac,ac,ac,ac,wz,xi,xi,ac,ac,ac,ac,⟨.other,(.sc .any),1,0,[(.tuple #[(.slice none 0 0),(.bool .false),(.int .i64 0)])]⟩,ac,ac,ac,⟨.slice 118,(.sc .slc),1,24,[(.slice none 0 0)]⟩,ac,⟨.array 256 5,(.arr (.int .u8)),256,256,List.replicate 256 (.int .u8 0)⟩,⟨.struct [(0,5),(1,5)],(.agg [(.int .u8),(.int .u8)]),2,2,[(.int .u8 0),(.int .u8 0)]⟩,⟨.struct [(0,5),(1,5)],(.agg [(.int .u8),(.int .u8)]),2,2,[(.int .u8 0),(.int .u8 0)]⟩,⟨.array 16 307,(.arr (.int .u8)),32,32,List.replicate 32 (.int .u8 0)⟩,⟨.other,(.sc .any),1,0,[(.tuple #[(.int .u32 0),(.int .u32 0)])]⟩,ac,ac,⟨.other,(.sc .any),1,0,[(.tuple #[(.int .u64 0),.nilIface])]⟩,ac,⟨.struct [(0,9),(1,9),(2,68)],(.agg [.str,.str,.any]),3,48,[(.string ⟨#[]⟩),(.string ⟨#[]⟩),.nilIface]⟩,⟨.struct [(0,9),(1,9),(2,68)],(.agg [.str,.str,.any]),3,48,[(.string ⟨#[]⟩),(.string ⟨#[]⟩),.nilIface]⟩,ac,ac,ac,⟨.ptr 399,(.sc .ptr),1,8,[(.pointer none)]⟩,ac,ac,ac,⟨.struct [(0,44),(3,27),(4,122)],(.agg [(.int .i64),(.int .i64),(.int .i64),(.int .u32),.slc]),5,56,[(.int .i64 0),(.int .i64 0),(.int .i64 0),(.int .u32 0),(.slice none 0 0)]⟩,⟨.struct [(0,44),(3,27),(4,122)],(.agg [(.int .i64),(.int .i64),(.int .i64),(.int .u32),.slc]),5,56,[(.int .i64 0),(.int .i64 0),(.int .i64 0),(.int .u32 0),(.slice none 0 0)]⟩,⟨.cpx,(.sc (.cpx .f64)),1,16,[(.complex Go.FloatKind.f64 0 0)]⟩,ac,⟨.slice 332,(.sc .slc),1,24,[(.slice none 0 0)]⟩,⟨.array 64 4,(.arr .bool),64,64,List.replicate 64 (.bool .false)⟩,⟨.flt,(.sc (.flt .f64)),1,8,[(.float Go.FloatKind.f64 0)]⟩,ac,⟨.struct [(0,3),(1,329)],(.agg [(.int .i64),(.flt .f64)]),2,16,[(.int .i64 0),(.float Go.FloatKind.f64 0)]⟩,⟨.struct [(0,3),(1,329)],(.agg [(.int .i64),(.flt .f64)]),2,16,[(.int .i64 0),(.float Go.FloatKind.f64 0)]⟩,ac,ac,ac,ac,ac,ac,ac,ac,ac,⟨.slice 344,(.sc .slc),1,24,[(.slice none 0 0)]⟩,⟨.struct [(0,22),(1,26)],(.agg [.slc,.slc]),2,48,[(.slice none 0 0),(.slice none 0 0)]⟩,⟨.struct [(0,22),(1,26)],(.agg [.slc,.slc]),2,48,[(.slice none 0 0),(.slice none 0 0)]⟩,⟨.ptr 350,(.sc .ptr),1,8,[(.pointer none)]⟩,⟨.slice 423,(.sc .slc),1,24,[(.slice none 0 0)]⟩,⟨.struct [(0,346),(1,22),(2,22)],(.agg [.slc,.slc,.slc]),3,72,[(.slice none 0 0),(.slice none 0 0),(.slice none 0 0)]⟩,⟨.struct [(0,346),(1,22),(2,22)],(.agg [.slc,.slc,.slc]),3,72,[(.slice none 0 0),(.slice none 0 0),(.slice none 0 0)]⟩,⟨.struct [(0,319),(1,44),(4,122),(5,342),(6,348),(9,122),(10,122)],(.agg [.ptr,(.int .i64),(.int .i64),(.int .i64),.slc,.slc,.slc,.slc,.slc,.slc,.slc]),11,200,[(.pointer none),(.int .i64 0),(.int .i64 0),(.int .i64 0),(.slice none 0 0),(.slice none 0 0),(.slice none 0 0),(.slice none 0 0),(.slice none 0 0),(.slice none 0 0),(.slice none 0 0)]⟩,⟨.struct [(0,319),(1,44),(4,122),(5,342),(6,348),(9,122),(10,122)],(.agg [.ptr,(.int .i64),(.int .i64),(.int .i64),.slc,.slc,.slc,.slc,.slc,.slc,.slc]),11,200,[(.pointer none),(.int .i64 0),(.int .i64 0),(.int .i64 0),(.slice none 0 0),(.slice none 0 0),(.slice none 0 0),(.slice none 0 0),(.slice none 0 0),(.slice none 0 0),(.slice none 0 0)]⟩,⟨.slice 4,(.sc .slc),1,24,[(.slice none 0 0)]⟩,⟨.other,(.sc .any),1,0,[(.tuple #[(.slice none 0 0),(.slice none 0 0),(.slice none 0 0),(.int .i64 0)])]⟩,ac,ac,⟨.other,(.sc .any),1,0,[(.tuple #[(.slice none 0 0),(.slice none 0 0)])]⟩,ac,ac,ac,⟨.ptr 434,(.sc .ptr),1,8,[(.pointer none)]⟩,ac,ac,ac,ac,ac,ac,ac,xh,ac,ac,ac,⟨.ptr 3,(.sc .ptr),1,8,[(.pointer none)]⟩,ac,ac,wB,ac,⟨.ptr 441,(.sc .ptr),1,8,[(.pointer none)]⟩,ac,ac,⟨.slice 122,(.sc .slc),1,24,[(.slice none 0 0)]⟩,ac,ac,ac,ac,ac,⟨.ptr 387,(.sc .ptr),1,8,[(.pointer none)]⟩,⟨.struct [(0,9)],(.agg [.str]),1,16,[(.string ⟨#[]⟩)]⟩,⟨.struct [(0,9)],(.agg [.str]),1,16,[(.string ⟨#[]⟩)]⟩,⟨.array 32 5,(.arr (.int .u8)),32,32,List.replicate 32 (.int .u8 0)⟩,⟨.array 64 5,(.arr (.int .u8)),64,64,List.replicate 64 (.int .u8 0)⟩,ac,ac,ac,ac,⟨.array 255 5,(.arr (.int .u8)),255,255,List.replicate 255 (.int .u8 0)⟩,ac,⟨.array 256 3,(.arr (.int .i64)),256,2048,List.replicate 256 (.int .i64 0)⟩,ac,⟨.struct [(0,394),(255,396)],(.arr .any),511,2304,List.replicate 255 (.int .u8 0)++List.replicate 256 (.int .i64 0)⟩,⟨.struct [(0,394),(255,396)],(.arr .any),511,2304,List.replicate 255 (.int .u8 0)++List.replicate 256 (.int .i64 0)⟩,ac,⟨.ptr 404,(.sc .ptr),1,8,[(.pointer none)]⟩,ac,⟨.struct [(0,325),(1,325),(2,3),(3,3),(4,4)],(.agg [(.cpx .f64),(.cpx .f64),(.int .i64),(.int .i64),.bool]),5,56,[(.complex Go.FloatKind.f64 0 0),(.complex Go.FloatKind.f64 0 0),(.int .i64 0),(.int .i64 0),(.bool .false)]⟩,⟨.struct [(0,325),(1,325),(2,3),(3,3),(4,4)],(.agg [(.cpx .f64),(.cpx .f64),(.int .i64),(.int .i64),.bool]),5,56,[(.complex Go.FloatKind.f64 0 0),(.complex Go.FloatKind.f64 0 0),(.int .i64 0),(.int .i64 0),(.bool .false)]⟩,ac,ac,ac,ac,ac,ac,ac,ac,ac,ac,⟨.ptr 417,(.sc .ptr),1,8,[(.pointer none)]⟩,⟨.struct [(0,342),(1,351),(2,122)],(.agg [.slc,.slc,.slc]),3,72,[(.slice none 0 0),(.slice none 0 0),(.slice none 0 0)]⟩,⟨.struct [(0,342),(1,351),(2,122)],(.agg [.slc,.slc,.slc]),3,72,[(.slice none 0 0),(.slice none 0 0),(.slice none 0 0)]⟩,ac,⟨.other,(.sc .any),1,0,[(.tuple #[(.agg #[(.slice none 0 0),(.slice none 0 0),(.slice none 0 0)]),(.bool .false)])]⟩,ac,ac,⟨.struct [(0,3),(1,3)],(.agg [(.int .i64),(.int .i64)]),2,16,[(.int .i64 0),(.int .i64 0)]⟩,⟨.struct [(0,3),(1,3)],(.agg [(.int .i64),(.int .i64)]),2,16,[(.int .i64 0),(.int .i64 0)]⟩,ac,ac,ac,wC,⟨.other,(.sc .any),1,0,[(.tuple #[(.agg #[(.bool .false),(.bool .false),(.bool .false),(.bool .false),(.bool .false),(.bool .false),(.bool .false),(.bool .false),(.bool .false),(.bool .false),(.bool .false),(.bool .false),(.bool .false),(.bool .false),(.bool .false),(.bool .false),(.bool .false),(.bool .false),(.bool .false),(.bool .false),(.bool .false),(.bool .false),(.bool .false),(.bool .false),(.bool .false),(.bool .false),(.bool .false),(.bool .false),(.bool .false),(.bool .false),(.bool .false),(.bool .false),(.bool .false),(.bool .false),(.bool .false),(.bool .false),(.bool .false),(.bool .false),(.bool .false),(.bool .false),(.bool .false),(.bool .false),(.bool .false),(.bool .false),(.bool .false),(.bool .false),(.bool .false),(.bool .false),(.bool .false),(.bool .false),(.bool .false),(.bool .false),(.bool .false),(.bool .false),(.bool .false),(.bool .false),(.bool .false),(.bool .false),(.bool .false),(.bool .false),(.bool .false),(.bool .false),(.bool .false),(.bool .false),(.bool .false),(.bool .false),(.bool .false),(.bool .false),(.bool .false),(.bool .false),(.bool .false),(.bool .false),(.bool .false),(.bool .false),(.bool .false),(.bool .false),(.bool .false),(.bool .false),(.bool .false),(.bool .false),(.bool .false),(.bool .false),(.bool .false),(.bool .false),(.bool .false),(.bool .false),(.bool .false),(.bool .false),(.bool .false),(.bool .false),(.bool .false),(.bool .false),(.bool .false),(.bool .false),(.bool .false),(.bool .false),(.bool .false),(.bool .false),(.bool .false),(.bool .false),(.bool .false),(.bool .false),(.bool .false),(.bool .false),(.bool .false),(.bool .false),(.bool .false),(.bool .false),(.bool .false),(.bool .false),(.bool .false),(.bool .false),(.bool .false),(.bool .false),(.bool .false),(.bool .false),(.bool .false),(.bool .false),(.bool .false),(.bool .false),(.bool .false),(.bool .false),(.bool .false),(.bool .false),(.bool .false),(.bool .false),(.bool .false),(.bool .false),(.bool .false),(.bool .false),(.bool .false),(.bool .false),(.bool .false),(.bool .false),(.bool .false),(.bool .false),(.bool .false),(.bool .false),(.bool .false),(.bool .false),(.bool .false),(.bool .false),(.bool .false),(.bool .false),(.bool .false),(.bool .false),(.bool .false),(.bool .false),(.bool .false),(.bool .false),(.bool .false),(.bool .false),(.bool .false),(.bool .false),(.bool .false),(.bool .false),(.bool .false),(.bool .false),(.bool .false),(.bool .false),(.bool .false),(.bool .false),(.bool .false),(.bool .false),(.bool .false),(.bool .false),(.bool .false),(.bool .false),(.bool .false),(.bool .false),(.bool .false),(.bool .false),(.bool .false),(.bool .false),(.bool .false),(.bool .false),(.bool .false),(.bool .false),(.bool .false),(.bool .false),(.bool .false),(.bool .false),(.bool .false),(.bool .false),(.bool .false),(.bool .false),(.bool .false),(.bool .false),(.bool .false),(.bool .false),(.bool .false),(.bool .false),(.bool .false),(.bool .false),(.bool .false),(.bool .false),(.bool .false),(.bool .false),(.bool .false),(.bool .false),(.bool .false),(.bool .false),(.bool .false),(.bool .false),(.bool .false),(.bool .false),(.bool .false),(.bool .false),(.bool .false),(.bool .false),(.bool .false),(.bool .false),(.bool .false),(.bool .false),(.bool .false),(.bool .false),(.bool .false),(.bool .false),(.bool .false),(.bool .false),(.bool .false),(.bool .false),(.bool .false),(.bool .false),(.bool .false),(.bool .false),(.bool .false),(.bool .false),(.bool .false),(.bool .false),(.bool .false),(.bool .false),(.bool .false),(.bool .false),(.bool .false),(.bool .false),(.bool .false),(.bool .false),(.bool .false),(.bool .false),(.bool .false),(.bool .false),(.bool .false),(.bool .false),(.bool .false),(.bool .false),(.bool .false),(.bool .false),(.bool .false),(.bool .false),(.bool .false),(.bool .false),(.bool .false),(.bool .false),(.bool .false),(.bool .false)]),(.bool .false)])]⟩,ac,ac,⟨.ptr 427,(.sc .ptr),1,8,[(.pointer none)]⟩,ac,⟨.struct [(0,89)],(.agg [(.int .u64)]),1,8,[(.int .u64 0)]⟩,⟨.struct [(0,89)],(.agg [(.int .u64)]),1,8,[(.int .u64 0)]⟩,ac,ac,⟨.ptr 367,(.sc .ptr),1,8,[(.pointer none)]⟩,wA,ac,⟨.struct [(0,319),(1,3),(2,122)],(.agg [.ptr,(.int .i64),.slc]),3,40,[(.pointer none),(.int .i64 0),(.slice none 0 0)]⟩,⟨.struct [(0,319),(1,3),(2,122)],(.agg [.ptr,(.int .i64),.slc]),3,40,[(.pointer none),(.int .i64 0),(.slice none 0 0)]⟩,ac,ac,ac,ac,ac,ac,⟨.slice 450,(.sc .slc),1,24,[(.slice none 0 0)]⟩,⟨.struct [(0,3),(1,3),(2,3),(3,26),(4,26)],(.agg [(.int .i64),(.int .i64),(.int .i64),.slc,.slc]),5,72,[(.int .i64 0),(.int .i64 0),(.int .i64 0),(.slice none 0 0),(.slice none 0 0)]⟩,⟨.struct [(0,3),(1,3),(2,3),(3,26),(4,26)],(.agg [(.int .i64),(.int .i64),(.int .i64),.slc,.slc]),5,72,[(.int .i64 0),(.int .i64 0),(.int .i64 0),(.slice none 0 0),(.slice none 0 0)]⟩,⟨.other,(.sc .any),1,0,[(.tuple #[(.agg #[(.int .i64 0),(.int .i64 0),(.int .i64 0),(.slice none 0 0),(.slice none 0 0)]),(.bool .false)])]⟩,ac,wz,vv,ac,ac,ac,ac,ac,ac,ac,ac,ac,ac,ac,ac,ac,ac,ac,ac,ac,⟨.ptr 474,(.sc .ptr),1,8,[(.pointer none)]⟩,⟨.struct [(0,232),(1,351),(2,351)],(.agg [.slc,.slc,.slc]),3,72,[(.slice none 0 0),(.slice none 0 0),(.slice none 0 0)]⟩,⟨.struct [(0,232),(1,351),(2,351)],(.agg [.slc,.slc,.slc]),3,72,[(.slice none 0 0),(.slice none 0 0),(.slice none 0 0)]⟩,ac,⟨.other,(.sc .any),1,0,[(.tuple #[(.agg #[(.int .i64 0),(.int .i64 0)]),(.bool .false)])]⟩,ac,ac,ac,ac,ac,ac,ac,ac,ac,ac,ac,ac,ac,ac,ac,ac,ac,⟨.ptr 496,(.sc .ptr),1,8,[(.pointer none)]⟩,⟨.struct [(0,26),(1,4)],(.agg [.slc,.bool]),2,32,[(.slice none 0 0),(.bool .false)]⟩,⟨.struct [(0,26),(1,4)],(.agg [.slc,.bool]),2,32,[(.slice none 0 0),(.bool .false)]⟩,ac,ac,ac,ac,⟨.struct [(0,17),(1,17),(2,17),(3,9)],(.agg [.ptr,.ptr,.ptr,.str]),4,40,[(.pointer none),(.pointer none),(.pointer none),(.string ⟨#[]⟩)]⟩,⟨.struct [(0,17),(1,17),(2,17),(3,9)],(.agg [.ptr,.ptr,.ptr,.str]),4,40,[(.pointer none),(.pointer none),(.pointer none),(.string ⟨#[]⟩)]⟩,⟨.array 0 16,(.arr .ptr),0,0,[]⟩,⟨.struct [(0,503)],(.agg []),0,0,[]⟩,⟨.struct [(0,503)],(.agg []),0,0,[]⟩,xg,xg,ac,yp,yp,⟨.struct [(0,12),(1,12),(2,27),(3,506),(4,5),(5,5),(6,507),(7,508),(8,88),(9,509),(10,510)],(.agg [(.int .u64),(.int .u64),(.int .u32),(.int .u8),(.int .u8),(.int .u8),(.int .u8),.fn,.ptr,(.int .i32),(.int .i32)]),11,48,[(.int .u64 0),(.int .u64 0),(.int .u32 0),(.int .u8 0),(.int .u8 0),(.int .u8 0),(.int .u8 0),.nilFunc,(.pointer none),(.int .i32 0),(.int .i32 0)]⟩,⟨.struct [(0,12),(1,12),(2,27),(3,506),(4,5),(5,5),(6,507),(7,508),(8,88),(9,509),(10,510)],(.agg [(.int .u64),(.int .u64),(.int .u32),(.int .u8),(.int .u8),(.int .u8),(.int .u8),.fn,.ptr,(.int .i32),(.int .i32)]),11,48,[(.int .u64 0),(.int .u64 0),(.int .u32 0),(.int .u8 0),(.int .u8 0),(.int .u8 0),(.int .u8 0),.nilFunc,(.pointer none),(.int .i32 0),(.int .i32 0)]⟩,ac]
noncomputable def C:Ctx:={P:=Tryz.prog,T:=xk,tup:=[(0,[]),(30,[(.agg [(.int .i64),.str,.slc,(.int .i64),(.int .i64),(.int .i64),(.int .u32),.slc,.slc]),(.sc .bool)]),(53,[(.sc .slc),(.sc .bool)]),(56,[(.sc .slc),(.sc .bool)]),(58,[(.sc .slc),(.sc .bool)]),(69,[(.sc (.int .i64)),(.sc .any)]),(74,[(.sc .ptr),(.sc (.int .i64))]),(83,[(.sc (.int .i64)),(.sc .bool)]),(93,[(.sc .ptr),(.sc (.int .i64))]),(103,[(.sc (.int .i64)),(.sc (.int .i64))]),(131,[(.sc .slc),(.sc (.int .i64))]),(135,[(.agg [(.int .i64),(.int .i64),(.int .i64),.slc]),(.sc (.int .i64))]),(159,[(.sc (.int .i64)),(.sc .slc),(.sc .bool)]),(166,[(.sc (.int .i32)),(.sc (.int .i64))]),(171,[(.arr .bool),(.sc .bool)]),(179,[(.sc .slc),(.sc .str)]),(192,[(.sc .slc),(.sc .bool)]),(228,[(.sc .ptr),(.sc (.int .i64))]),(237,[(.agg [(.int .i64),(.int .i64),(.int .i64),(.int .i64),(.int .i64),(.int .i64),.slc,.slc]),(.sc .bool)]),(243,[(.sc (.int .i64)),(.sc .any)]),(255,[(.sc .ptr),(.sc (.int .i64))]),(271,[(.sc .slc),(.sc (.int .i64))]),(275,[(.agg [(.int .i64),(.int .i64),(.int .i64),(.int .i64),(.int .i64),(.int .i64),(.int .u32),.slc]),(.sc .bool)]),(284,[(.sc (.int .i64)),(.sc (.int .i64))]),(299,[(.sc .slc),(.sc .bool),(.sc (.int .i64))]),(309,[(.sc (.int .u32)),(.sc (.int .u32))]),(312,[(.sc (.int .u64)),(.sc .any)]),(352,[(.sc .slc),(.sc .slc),(.sc .slc),(.sc (.int .i64))]),(355,[(.sc .slc),(.sc .slc)]),(374,[(.sc .slc),(.sc (.int .i64))]),(419,[(.agg [.slc,.slc,.slc]),(.sc .bool)]),(428,[(.arr .bool),(.sc .bool)]),(438,[(.sc (.int .i64)),(.sc (.int .i64))]),(451,[(.agg [(.int .i64),(.int .i64),(.int .i64),.slc,.slc]),(.sc .bool)]),(454,[(.sc .slc),(.sc .bool)]),(476,[(.agg [(.int .i64),(.int .i64)]),(.sc .bool)])],fns:=[false,false]++List.replicate 67 true++[false]++List.replicate 46 true++[false]++List.replicate 18 true++[false]++List.replicate 51 true++[false]++List.replicate 259 true++List.replicate 31 false++[true]}
theorem yX:(List.range C.T.length).map (cR.seen C.P)=C.T.map cR.told:=by kernel_rfl
theorem xM:C.P.follows .mixedOrders=true:=by kernel_rfl
theorem yY:(C.P.funcs.toList.map fun f=>!(f.name== "runtime.NumGoroutine")&&f.body.isSome)=C.fns:=by kernel_rfl
theorem ag:C.Ok:={xk:=yX,mixed:=xM,fns:=yY}
abbrev iq:FuncId:=32
abbrev gr:FuncId:=48
abbrev gu:FuncId:=4
noncomputable def dB (m_0:bE) (a_1:fM) (kind_2:Int):Prop:=
 aI Tryz.prog (Instr.box 29 m_0) h fun a1 h1=>
 aI Tryz.prog (Instr.box 38 a_1) h1 fun a2 h2=>
 aD (σ:=Unit) (fun _ h6=>
 ∃x10:Sl,cellOf h6 (a2.add 2)=some (.slice x10.ptr x10.len x10.cap)∧
 aS (σ:=Int) (fun s11 K2 h7=>
 Br (decide (s11<(x10.len:Int)))
 (∃x12:Sl,cellOf h7 (a2.add 2)=some (.slice x12.ptr x12.len x12.cap)∧
 ∃a13:Addr,(x12.ptr=some a13∧0≤s11∧s11<(x12.len:Int))∧
 ∃x14:ByteArray,cellOf h7 (a13.add (s11.toNat*1))=some (.string x14)∧
 Br (decide ((x14.size:Int)>40))
 (ah Tryz.prog 6 #[] cB h7 fun r15 h8=>
 R r15 h8)
 (K2 (IntKind.wrap .i64 (s11+1)) h7))
 (∃x16:bE,ai h7 a1 0 x16∧
 aI Tryz.prog (Instr.alloc 29 true (.tuple #[])) h7 fun a17 h9=>
 aa Tryz.prog (Instr.storeAt 29 a17 x16) h9 fun _ h10=>
 ah Tryz.prog 11 #[kind_2,(.int .i64 (15:Int))] cU h10 fun r18 h11=>
 aa Tryz.prog (Instr.storeAt 3 a17 r18) h11 fun _ h12=>
 ∃x19:fM,ai h12 a2 0 x19∧
 aI Tryz.prog (Instr.alloc 38 true (.tuple #[])) h12 fun a20 h13=>
 aa Tryz.prog (Instr.storeAt 38 a20 x19) h13 fun _ h14=>
 aa Tryz.prog (Instr.storeAt 34 a20 (.int .i64 (0:Int))) h14 fun _ h15=>
 ∃x21:bE,ai h15 a1 0 x21∧
 ∃x22:fM,ai h15 a2 0 x22∧
 ∃x23:bE,ai h15 a1 0 x23∧
 ∃x24:fM,ai h15 a2 0 x24∧
 ah Tryz.prog 12 #[x21,x22] (.one bo) h15 fun r25 h16=>
 (ar.ok [(a2,x24.1),(a2.add 1,x24.2.1),(a2.add 2,x24.2.2.1),(a2.add 3,x24.2.2.2.1),(a2.add 4,x24.2.2.2.2.1),(a2.add 5,x24.2.2.2.2.2.1),(a2.add 6,x24.2.2.2.2.2.2.1),(a2.add 7,x24.2.2.2.2.2.2.2),(a1,x23.1),(a1.add 1,x23.2.1),(a1.add 2,x23.2.2.1),(a1.add 3,x23.2.2.2.1),(a1.add 4,x23.2.2.2.2.1),(a1.add 5,x23.2.2.2.2.2.1),(a1.add 6,(.int .u32 x23.2.2.2.2.2.2.1)),(a1.add 7,x23.2.2.2.2.2.2.2.1),(a1.add 8,x23.2.2.2.2.2.2.2.2)] h16)∧
 ah Tryz.prog 13 #[x23,x24] (.one bo) h16 fun r26 h17=>
 (ar.ok [] h17)∧
 Br (r25.toList==r26.toList) (∃x27:bE,ai h17 a17 0 x27∧
 ∃x28:fM,ai h17 a20 0 x28∧
 ∃x29:bE,ai h17 a17 0 x29∧
 ∃x30:fM,ai h17 a20 0 x30∧
 ah Tryz.prog 12 #[x27,x28] (.one bo) h17 fun r31 h18=>
 (ar.ok [(a20,x30.1),(a20.add 1,x30.2.1),(a20.add 2,x30.2.2.1),(a20.add 3,x30.2.2.2.1),(a20.add 4,x30.2.2.2.2.1),(a20.add 5,x30.2.2.2.2.2.1),(a20.add 6,x30.2.2.2.2.2.2.1),(a20.add 7,x30.2.2.2.2.2.2.2),(a17,x29.1),(a17.add 1,x29.2.1),(a17.add 2,x29.2.2.1),(a17.add 3,x29.2.2.2.1),(a17.add 4,x29.2.2.2.2.1),(a17.add 5,x29.2.2.2.2.2.1),(a17.add 6,(.int .u32 x29.2.2.2.2.2.2.1)),(a17.add 7,x29.2.2.2.2.2.2.2.1),(a17.add 8,x29.2.2.2.2.2.2.2.2)] h18)∧
 ah Tryz.prog 13 #[x29,x30] (.one bo) h18 fun r32 h19=>
 (ar.ok [] h19)∧
 Br (r31.toList==r32.toList) (∃x33:bE,ai h19 a17 0 x33∧
 ∃x34:fM,ai h19 a2 0 x34∧
 ∃x35:bE,ai h19 a17 0 x35∧
 ∃x36:fM,ai h19 a2 0 x36∧
 ah Tryz.prog 12 #[x33,x34] (.one bo) h19 fun r37 h20=>
 (ar.ok [(a2,x36.1),(a2.add 1,x36.2.1),(a2.add 2,x36.2.2.1),(a2.add 3,x36.2.2.2.1),(a2.add 4,x36.2.2.2.2.1),(a2.add 5,x36.2.2.2.2.2.1),(a2.add 6,x36.2.2.2.2.2.2.1),(a2.add 7,x36.2.2.2.2.2.2.2),(a17,x35.1),(a17.add 1,x35.2.1),(a17.add 2,x35.2.2.1),(a17.add 3,x35.2.2.2.1),(a17.add 4,x35.2.2.2.2.1),(a17.add 5,x35.2.2.2.2.2.1),(a17.add 6,(.int .u32 x35.2.2.2.2.2.2.1)),(a17.add 7,x35.2.2.2.2.2.2.2.1),(a17.add 8,x35.2.2.2.2.2.2.2.2)] h20)∧
 ah Tryz.prog 13 #[x35,x36] (.one bo) h20 fun r38 h21=>
 (ar.ok [] h21)∧
 Br (r37.toList==r38.toList) (ah Tryz.prog 6 #[] cB h21 fun r39 h22=>
 (ar.ok [] h22)∧
 R r39 h22) ((ar.ok [] h21)∧
 R false h21)) ((ar.ok [] h19)∧
 (ar.ok [] h19)∧
 (ar.ok [] h19)∧
 R false h19)) ((ar.ok [] h17)∧
 (ar.ok [] h17)∧
 (ar.ok [] h17)∧
 (ar.ok [] h17)∧
 (ar.ok [] h17)∧
 R false h17))) (0:Int) h6)
 (fun K1=>
 ∃x3:Sl,cellOf h2 (a2.add 1)=some (.slice x3.ptr x3.len x3.cap)∧
 Br (decide ((x3.len:Int)>100)) (ah Tryz.prog 6 #[] cB h2 fun r4 h3=>
 R r4 h3) (∃x5:Sl,cellOf h2 (a2.add 2)=some (.slice x5.ptr x5.len x5.cap)∧
 Br (decide ((x5.len:Int)>20)) (ah Tryz.prog 6 #[] cB h2 fun r6 h4=>
 R r6 h4) (∃x7:Sl,cellOf h2 ((a2.add 3).add 3)=some (.slice x7.ptr x7.len x7.cap)∧
 Br (decide ((x7.len:Int)>20))
 (ah Tryz.prog 6 #[] cB h2 fun r8 h5=>
 R r8 h5)
 (K1 () h2))))
theorem ga (m_0:bE) (a_1:fM) (kind_2:Int) (hm: @dB R h m_0 a_1 kind_2):ae Tryz.prog 4 #[m_0,a_1,kind_2] h R:=az ag Tryz.func4 (.two .n (.two (.join [] [(6,7),(10,28)] .n) (.two (.two .n (.inn (.loop [(31,bk)] [(6,8),(31,43)] .n))) .n))) hm
abbrev ez:FuncId:=6
noncomputable def eM:Prop:=
 ah Tryz.prog 8 #[gq] (.many [(.agg [(.int .i64),.str,.slc,(.int .i64),(.int .i64),(.int .i64),(.int .u32),.slc,.slc]),eW]) h fun r1 h1=>
 aI Tryz.prog (Instr.alloc 29 true (.tuple #[])) h1 fun a2 h2=>
 aa Tryz.prog (Instr.storeAt 29 a2 r1.1) h2 fun _ h3=>
 au Tryz.prog (Instr.buildSlice 22 1 #[(0,(.int .i64 (5:Int)))]) aT h3 fun v3 h4=>
 ah Tryz.prog 17 #[(.agg #[(.int .i64 (1:Int)),(.int .i64 (1:Int)),(.int .i64 (1:Int))]),(.int .i64 (0:Int)),v3,un] (.one bo) h4 fun r4 h5=>
 Br (r4.toList==sM.toList) (Br r1.2 (∃x5:Int,cellOf h5 (a2.add 4)=some (.int .i64 x5)∧
 Br (x5==1) (∃x6:Int,cellOf h5 (a2.add 5)=some (.int .i64 x6)∧
 R (.bool (x6==20)) h5) (R false h5)) (R false h5)) (R false h5)
theorem ir (hm: @eM R h):ae Tryz.prog 6 #[] h R:=az ag Tryz.func6 .n hm
abbrev iO:FuncId:=8
noncomputable def jz (line_0:ByteArray):Prop:=
 aI Tryz.prog (Instr.alloc 29 true (.tuple #[])) h fun a1 h1=>
 ah Tryz.prog 19 #[line_0,aV] aT h1 fun r2 h2=>
 aS (σ:=Int) (fun s3 K1 h3=>
 Br (decide (s3<(r2.len:Int)))
 (∃a4:Addr,(r2.ptr=some a4∧0≤s3∧s3<(r2.len:Int))∧
 ∃x5:ByteArray,cellOf h3 (a4.add (s3.toNat*1))=some (.string x5)∧
 Br (x5.toList==bx.toList)
 (aa Tryz.prog (Instr.storeAt 29 a1 (.agg #[(.int .i64 (0:Int)),bx,(.slice none 0 0),(.int .i64 (0:Int)),(.int .i64 (0:Int)),(.int .i64 (0:Int)),(.int .u32 (0:Int)),(.slice none 0 0),(.slice none 0 0)])) h3 fun _ h4=>
 ∃res6:bE,ai h4 a1 0 res6∧
 R (.tuple #[res6,false]) h4)
 (K1 (IntKind.wrap .i64 (s3+1)) h3))
 (aD (σ:=Unit) (fun _ h12=>
 (0≤(1:Int)∧(1:Int)≤(r2.len:Int))∧
 ah Tryz.prog 22 #[(.slice (if r2.cap=(1:Int).toNat then r2.ptr else r2.ptr.map (·.add ((1:Int).toNat*1))) (r2.len-(1:Int).toNat) (r2.cap-(1:Int).toNat))] (.many [fw,eW]) h12 fun r17 h13=>
 Br (!r17.2)
 (aa Tryz.prog (Instr.storeAt 29 a1 (.agg #[(.int .i64 (0:Int)),bx,(.slice none 0 0),(.int .i64 (0:Int)),(.int .i64 (0:Int)),(.int .i64 (0:Int)),(.int .u32 (0:Int)),(.slice none 0 0),(.slice none 0 0)])) h13 fun _ h14=>
 ∃res18:bE,ai h14 a1 0 res18∧
 R (.tuple #[res18,false]) h14)
 (∃a19:Addr,(r2.ptr=some a19∧0≤(0:Int)∧(0:Int)<(r2.len:Int))∧
 ∃x20:ByteArray,cellOf h13 (a19.add ((0:Int).toNat*1))=some (.string x20)∧
 ah Tryz.prog 23 #[x20,r17.1] (.many [(.agg [(.int .i64),.str,.slc,(.int .i64),(.int .i64),(.int .i64),(.int .u32),.slc,.slc]),eW]) h13 fun r21 h15=>
 aa Tryz.prog (Instr.storeAt 29 a1 r21.1) h15 fun _ h16=>
 ∃res22:bE,ai h16 a1 0 res22∧
 R (.tuple #[res22,r21.2]) h16))
 (fun K2=>
 ∃a7:Addr,(r2.ptr=some a7∧0≤(0:Int)∧(0:Int)<(r2.len:Int))∧
 ∃x8:ByteArray,cellOf h3 (a7.add ((0:Int).toNat*1))=some (.string x8)∧
 Br (x8.toList==vt.toList)
 (ah Tryz.prog 20 #[r2] (.many [(.agg [(.int .i64),.str,.slc,(.int .i64),(.int .i64),(.int .i64),(.int .u32),.slc,.slc]),eW]) h3 fun r9 h5=>
 aa Tryz.prog (Instr.storeAt 29 a1 r9.1) h5 fun _ h6=>
 ∃res10:bE,ai h6 a1 0 res10∧
 R (.tuple #[res10,r9.2]) h6)
 (aD (σ:=Bool) (fun s11 h7=>
 Br s11
 (ah Tryz.prog 21 #[r2] (.many [(.agg [(.int .i64),.str,.slc,(.int .i64),(.int .i64),(.int .i64),(.int .u32),.slc,.slc]),eW]) h7 fun r12 h8=>
 aa Tryz.prog (Instr.storeAt 29 a1 r12.1) h8 fun _ h9=>
 ∃res13:bE,ai h9 a1 0 res13∧
 R (.tuple #[res13,r12.2]) h9)
 (Br (x8.toList==sL.toList)
 (Br ((r2.len:Int)==1)
 (aa Tryz.prog (Instr.storeAt 29 a1 (.agg #[(.int .i64 (4:Int)),bx,(.slice none 0 0),(.int .i64 (0:Int)),(.int .i64 (0:Int)),(.int .i64 (0:Int)),(.int .u32 (0:Int)),(.slice none 0 0),(.slice none 0 0)])) h7 fun _ h10=>
 ∃res14:bE,ai h10 a1 0 res14∧
 R (.tuple #[res14,true]) h10)
 (aa Tryz.prog (Instr.storeAt 29 a1 (.agg #[(.int .i64 (0:Int)),bx,(.slice none 0 0),(.int .i64 (0:Int)),(.int .i64 (0:Int)),(.int .i64 (0:Int)),(.int .u32 (0:Int)),(.slice none 0 0),(.slice none 0 0)])) h7 fun _ h11=>
 ∃res15:bE,ai h11 a1 0 res15∧
 R (.tuple #[res15,false]) h11))
 (K2 () h7)))
 (fun K3=>
 Br (x8.toList==mi.toList)
 (K3 (x8.toList==mi.toList) h3)
 (Br (x8.toList==mj.toList)
 (K3 (x8.toList==mj.toList) h3)
 (K3 (x8.toList==fN.toList) h3))))))) (0:Int) h2
theorem mV (line_0:ByteArray) (hm: @jz R h line_0):ae Tryz.prog 8 #[line_0] h R:=az ag Tryz.func8 (.two .n (.two .n (.two (.two .n (.inn (.loop [(13,bk)] [(3,4),(6,7),(13,21)] .n))) (.two (.join [] [(3,4),(21,45)] (.two .n (.inn (.two .n (.two .n (.two (.join [(30,eW)] [(30,34)] .n) .n)))))) .n)))) hm
abbrev iP:FuncId:=11
noncomputable def eN (x_0:Int) (n_1:Int):Prop:=
 (n_1≠0)∧
 aD (σ:=Int) (fun s1 h1=>
 R s1 h1)
 (fun K1=>
 Br (decide ((Int.tmod x_0 n_1)<0))
 (K1 (IntKind.wrap .i64 ((Int.tmod x_0 n_1)+n_1)) h)
 (K1 (Int.tmod x_0 n_1) h))
theorem it (x_0:Int) (n_1:Int) (hm: @eN R h x_0 n_1):ae Tryz.prog 11 #[x_0,n_1] h R:=az ag Tryz.func11 (.two .n (.two .n (.two (.join [(0,bk)] [(0,1),(8,13)] .n) .n))) hm
abbrev eb:FuncId:=12
noncomputable def gv (m_0:bE) (a_1:fM):Prop:=
 aI Tryz.prog (Instr.box 29 m_0) h fun a1 h1=>
 aI Tryz.prog (Instr.box 38 a_1) h1 fun a2 h2=>
 ∃x3:Int,cellOf h2 a2=some (.int .i64 x3)∧
 Br (x3 !=0)
 (∃x4:Int,cellOf h2 a2=some (.int .i64 x4)∧
 ah Tryz.prog 29 #[x4] (.one bo) h2 fun r5 h3=>
 (((bF.size+r5.size:Nat):Int)≤IntKind.max .i64)∧
 aD (σ:=ByteArray) (fun s9 h5=>
 R s9 h5)
 (fun K1=>
 ∃x6:Int,cellOf h3 a1=some (.int .i64 x6)∧
 Br (x6==10)
 (∃x7:Int,cellOf h3 (a2.add 7)=some (.int .i64 x7)∧
 ah Tryz.prog 29 #[x7] (.one bo) h3 fun r8 h4=>
 (((aV.size+r8.size:Nat):Int)≤IntKind.max .i64)∧
 ((((bF++r5).size+(aV++r8).size:Nat):Int)≤IntKind.max .i64)∧
 K1 ((bF++r5)++(aV++r8)) h4)
 (K1 (bF++r5) h3)))
 (aI Tryz.prog (Instr.alloc 65 true (.tuple #[])) h2 fun a10 h6=>
 aD (σ:=Unit) (fun _ h18=>
 ah Tryz.prog 32 #[a10] (.one bo) h18 fun r35 h19=>
 R r35 h19)
 (fun K2=>
 ∃x11:Int,cellOf h6 a1=some (.int .i64 x11)∧
 Br (x11==2)
 (∃x12:Sl,cellOf h6 (a2.add 1)=some (.slice x12.ptr x12.len x12.cap)∧
 ah Tryz.prog 30 #[x12] (.one bo) h6 fun r13 h7=>
 (((er.size+r13.size:Nat):Int)≤IntKind.max .i64)∧
 R (.string (er++r13)) h7)
 (Br (x11==4)
 (ah Tryz.prog 31 #[a10,eu] (.many [bk,(.sc .any)]) h6 fun _ h8=>
 ∃x15:Sl,cellOf h8 (a2.add 2)=some (.slice x15.ptr x15.len x15.cap)∧
 aS (σ:=Int) (fun s16 K3 h9=>
 Br (decide (s16<(x15.len:Int)))
 (∃a17:Addr,(x15.ptr=some a17∧0≤s16∧s16<(x15.len:Int))∧
 ∃x18:ByteArray,cellOf h9 (a17.add (s16.toNat*1))=some (.string x18)∧
 (((aV.size+x18.size:Nat):Int)≤IntKind.max .i64)∧
 ah Tryz.prog 31 #[a10,(.string (aV++x18))] (.many [bk,(.sc .any)]) h9 fun _ h10=>
 K3 (IntKind.wrap .i64 (s16+1)) h10)
 (K2 () h9)) (0:Int) h8)
 (Br (x11==5)
 (ah Tryz.prog 31 #[a10,fN] (.many [bk,(.sc .any)]) h6 fun _ h11=>
 ∃x21:Int,cellOf h11 (a2.add 3)=some (.int .i64 x21)∧
 ∃x22:Int,cellOf h11 ((a2.add 3).add 1)=some (.int .i64 x22)∧
 ∃x23:Int,cellOf h11 ((a2.add 3).add 2)=some (.int .i64 x23)∧
 au Tryz.prog (Instr.buildSlice 22 3 #[(0,x21),(1,x22),(2,x23)]) aT h11 fun v24 h12=>
 ∃x25:Sl,cellOf h12 ((a2.add 3).add 3)=some (.slice x25.ptr x25.len x25.cap)∧
 au Tryz.prog (Builtin.append_ #[22,22] 22 #[v24,x25]) aT h12 fun v26 h13=>
 aS (σ:=Int) (fun s27 K4 h14=>
 Br (decide (s27<(v26.len:Int)))
 (∃a28:Addr,(v26.ptr=some a28∧0≤s27∧s27<(v26.len:Int))∧
 ∃x29:Int,cellOf h14 (a28.add (s27.toNat*1))=some (.int .i64 x29)∧
 ah Tryz.prog 29 #[x29] (.one bo) h14 fun r30 h15=>
 (((aV.size+r30.size:Nat):Int)≤IntKind.max .i64)∧
 ah Tryz.prog 31 #[a10,(.string (aV++r30))] (.many [bk,(.sc .any)]) h15 fun _ h16=>
 K4 (IntKind.wrap .i64 (s27+1)) h16)
 (K2 () h14)) (0:Int) h13)
 (Br (x11==10)
 (∃x32:Int,cellOf h6 (a2.add 7)=some (.int .i64 x32)∧
 ah Tryz.prog 29 #[x32] (.one bo) h6 fun r33 h17=>
 (((dS.size+r33.size:Nat):Int)≤IntKind.max .i64)∧
 R (.string (dS++r33)) h17)
 (R pW h6))))))
theorem iQ (m_0:bE) (a_1:fM) (hm: @gv R h m_0 a_1):ae Tryz.prog 12 #[m_0,a_1] h R:=az ag Tryz.func12 (.two .n (.two (.two .n (.two (.two .n (.two (.join [(5,bo)] [(5,6),(18,27)] .n) .n)) .n)) (.two .n (.two (.join [] [(4,5),(8,9),(10,11),(28,83)] (.two .n (.inn (.two .n (.two .n (.two .n (.two (.two .n (.two .n (.inn (.loop [(42,bk)] [(8,9),(42,50)] .n)))) (.two .n (.two (.two .n (.two .n (.inn (.loop [(68,bk)] [(10,11),(68,77)] .n)))) .n))))))))) .n)))) hm
abbrev eO:FuncId:=13
noncomputable def eX (m_0:bE) (a_1:fM):Prop:=
 aI Tryz.prog (Instr.box 29 m_0) h fun a1 h1=>
 aI Tryz.prog (Instr.box 38 a_1) h1 fun a2 h2=>
 aD (σ:=ByteArray) (fun s33 h14=>
 R s33 h14)
 (fun K1=>
 ∃x3:Int,cellOf h2 a2=some (.int .i64 x3)∧
 Br (x3 !=0)
 (∃x4:Int,cellOf h2 a2=some (.int .i64 x4)∧
 ah Tryz.prog 33 #[x4] (.one bo) h2 fun r5 h3=>
 (((bF.size+r5.size:Nat):Int)≤IntKind.max .i64)∧
 ∃x6:Int,cellOf h3 a1=some (.int .i64 x6)∧
 Br (x6==10)
 (((((bF++r5).size+aV.size:Nat):Int)≤IntKind.max .i64)∧
 ∃x7:Int,cellOf h3 (a2.add 7)=some (.int .i64 x7)∧
 ah Tryz.prog 33 #[x7] (.one bo) h3 fun r8 h4=>
 (((((bF++r5)++aV).size+r8.size:Nat):Int)≤IntKind.max .i64)∧
 K1 (((bF++r5)++aV)++r8) h4)
 (K1 (bF++r5) h3))
 (∃x9:Int,cellOf h2 a1=some (.int .i64 x9)∧
 Br (x9==2)
 (∃x10:Sl,cellOf h2 (a2.add 1)=some (.slice x10.ptr x10.len x10.cap)∧
 ah Tryz.prog 34 #[x10] (.one bo) h2 fun r11 h5=>
 (((er.size+r11.size:Nat):Int)≤IntKind.max .i64)∧
 K1 (er++r11) h5)
 (∃x12:Int,cellOf h2 a1=some (.int .i64 x12)∧
 Br (x12==4)
 (∃x13:Sl,cellOf h2 (a2.add 2)=some (.slice x13.ptr x13.len x13.cap)∧
 aS (σ:=ByteArray×Int) (fun s14 K2 h6=>
 Br (decide (s14.2<(x13.len:Int)))
 (∃a15:Addr,(x13.ptr=some a15∧0≤s14.2∧s14.2<(x13.len:Int))∧
 ∃x16:ByteArray,cellOf h6 (a15.add (s14.2.toNat*1))=some (.string x16)∧
 (((s14.1.size+aV.size:Nat):Int)≤IntKind.max .i64)∧
 ((((s14.1++aV).size+x16.size:Nat):Int)≤IntKind.max .i64)∧
 K2 ((s14.1++aV)++x16,IntKind.wrap .i64 (s14.2+1)) h6)
 (K1 s14.1 h6)) (eu,(0:Int)) h2)
 (∃x17:Int,cellOf h2 a1=some (.int .i64 x17)∧
 Br (x17==5)
 (aD (σ:=ByteArray) (fun s24 h10=>
 ∃x25:Sl,cellOf h10 ((a2.add 3).add 3)=some (.slice x25.ptr x25.len x25.cap)∧
 aS (σ:=ByteArray×Int) (fun s26 K4 h11=>
 Br (decide (s26.2<(x25.len:Int)))
 (∃a27:Addr,(x25.ptr=some a27∧0≤s26.2∧s26.2<(x25.len:Int))∧
 ∃x28:Int,cellOf h11 (a27.add (s26.2.toNat*1))=some (.int .i64 x28)∧
 (((s26.1.size+aV.size:Nat):Int)≤IntKind.max .i64)∧
 ah Tryz.prog 33 #[x28] (.one bo) h11 fun r29 h12=>
 ((((s26.1++aV).size+r29.size:Nat):Int)≤IntKind.max .i64)∧
 K4 ((s26.1++aV)++r29,IntKind.wrap .i64 (s26.2+1)) h12)
 (K1 s26.1 h11)) (s24,(0:Int)) h10)
 (fun K3=>
 ∃x18:Int,cellOf h2 (a2.add 3)=some (.int .i64 x18)∧
 ∃x19:Int,cellOf h2 ((a2.add 3).add 1)=some (.int .i64 x19)∧
 ∃x20:Int,cellOf h2 ((a2.add 3).add 2)=some (.int .i64 x20)∧
 ah Tryz.prog 33 #[x18] (.one bo) h2 fun r21 h7=>
 (ar.ok [((a2.add 3).add 2,x20),((a2.add 3).add 1,x19)] h7)∧
 (((cZ.size+r21.size:Nat):Int)≤IntKind.max .i64)∧
 ((((cZ++r21).size+aV.size:Nat):Int)≤IntKind.max .i64)∧
 ah Tryz.prog 33 #[x19] (.one bo) h7 fun r22 h8=>
 (ar.ok [((a2.add 3).add 2,x20)] h8)∧
 (((((cZ++r21)++aV).size+r22.size:Nat):Int)≤IntKind.max .i64)∧
 ((((((cZ++r21)++aV)++r22).size+aV.size:Nat):Int)≤IntKind.max .i64)∧
 ah Tryz.prog 33 #[x20] (.one bo) h8 fun r23 h9=>
 (ar.ok [] h9)∧
 (((((((cZ++r21)++aV)++r22)++aV).size+r23.size:Nat):Int)≤IntKind.max .i64)∧
 K3 (((((cZ++r21)++aV)++r22)++aV)++r23) h9))
 (∃x30:Int,cellOf h2 a1=some (.int .i64 x30)∧
 Br (x30==10)
 (∃x31:Int,cellOf h2 (a2.add 7)=some (.int .i64 x31)∧
 ah Tryz.prog 33 #[x31] (.one bo) h2 fun r32 h13=>
 (((dS.size+r32.size:Nat):Int)≤IntKind.max .i64)∧
 K1 (dS++r32) h13)
 (K1 pW h2))))))
theorem iR (m_0:bE) (a_1:fM) (hm: @eX R h m_0 a_1):ae Tryz.prog 13 #[m_0,a_1] h R:=az ag Tryz.func13 (.two .n (.two .n (.two (.join [(5,bo)] [(5,6),(7,8),(9,94)] (.inn (.two .n (.two .n (.two .n (.two .n (.two .n (.two (.two .n (.two .n (.inn (.loop [(5,bo),(42,bk)] [(5,6),(7,8),(42,51)] .n)))) (.two .n (.two (.two (.join [(5,bo)] [(5,6),(55,72)] .n) (.two .n (.inn (.loop [(5,bo),(76,bk)] [(5,6),(9,10),(76,86)] .n)))) .n)))))))))) .n))) hm
end Go.Qw
