/- Part of the proofs that the laws of this seat answer true whatever the input reads, and leave it as it was; no condition. -/
import Derived.Test.YteieadfggboeeaaGreatDoorPlA
import Derived.Test.YteieadfggboeeaaGreatDoorProg
set_option linter.unusedVariables false
set_option linter.unusedSimpArgs false
namespace Go.Qw
open Go Go.Vc Go.Proofs
set_option maxRecDepth 1000000
instance:Coe Int Value:=⟨fun x=>.int .i64 x⟩
instance:Coe Sl Value:=⟨fun s=>.slice s.ptr s.len s.cap⟩
instance:Coe ByteArray Value:=⟨.string⟩
instance:Coe (Option Addr) Value:=⟨.pointer⟩
instance:Coe Addr Value:=⟨fun a=>.pointer (some a)⟩
instance:Coe Bool Value:=⟨.bool⟩
instance:Coe (Int×ByteArray×Sl×Int×Int×Int×Int×Sl×Sl) (List Value):=⟨fun x=>[x.1,x.2.1,x.2.2.1,x.2.2.2.1,x.2.2.2.2.1,x.2.2.2.2.2.1,(.int .u32 x.2.2.2.2.2.2.1),x.2.2.2.2.2.2.2.1,x.2.2.2.2.2.2.2.2]⟩
instance:Coe (Int×ByteArray×Sl×Int×Int×Int×Int×Sl×Sl) Value:=⟨fun x=>.agg (List.toArray x)⟩
instance:Coe (Int×Sl×Sl×Int×Int×Int×Sl×Int) (List Value):=⟨fun x=>[x.1,x.2.1,x.2.2.1,x.2.2.2.1,x.2.2.2.2.1,x.2.2.2.2.2.1,x.2.2.2.2.2.2.1,x.2.2.2.2.2.2.2]⟩
instance:Coe (Int×Sl×Sl×Int×Int×Int×Sl×Int) Value:=⟨fun x=>.agg (List.toArray x)⟩
instance:Coe (Int×Int×Int) (List Value):=⟨fun x=>[x.1,x.2.1,x.2.2]⟩
instance:Coe (Int×Int×Int) Value:=⟨fun x=>.agg (List.toArray x)⟩
instance:Coe (Int×Int×Int×Int×Int×Int×Sl×Sl) (List Value):=⟨fun x=>[x.1,x.2.1,x.2.2.1,x.2.2.2.1,x.2.2.2.2.1,x.2.2.2.2.2.1,x.2.2.2.2.2.2.1,x.2.2.2.2.2.2.2]⟩
instance:Coe (Int×Int×Int×Int×Int×Int×Sl×Sl) Value:=⟨fun x=>.agg (List.toArray x)⟩
instance:Coe (Int×Int×Int×Sl) (List Value):=⟨fun x=>[x.1,x.2.1,x.2.2.1,x.2.2.2]⟩
instance:Coe (Int×Int×Int×Sl) Value:=⟨fun x=>.agg (List.toArray x)⟩
instance:Coe (ByteArray×Int×Int×Sl) (List Value):=⟨fun x=>[x.1,x.2.1,x.2.2.1,x.2.2.2]⟩
instance:Coe (ByteArray×Int×Int×Sl) Value:=⟨fun x=>.agg (List.toArray x)⟩
instance:Coe (Int×Sl) (List Value):=⟨fun x=>[x.1,x.2]⟩
instance:Coe (Int×Sl) Value:=⟨fun x=>.agg (List.toArray x)⟩
instance:Coe (Int×Int×Int×Int×Int×Int×Int×Sl) (List Value):=⟨fun x=>[x.1,x.2.1,x.2.2.1,x.2.2.2.1,x.2.2.2.2.1,x.2.2.2.2.2.1,(.int .u32 x.2.2.2.2.2.2.1),x.2.2.2.2.2.2.2]⟩
instance:Coe (Int×Int×Int×Int×Int×Int×Int×Sl) Value:=⟨fun x=>.agg (List.toArray x)⟩
instance:Coe (Sl×Sl) (List Value):=⟨fun x=>[x.1,x.2]⟩
instance:Coe (Sl×Sl) Value:=⟨fun x=>.agg (List.toArray x)⟩
instance:Coe (Sl×Sl×Sl) (List Value):=⟨fun x=>[x.1,x.2.1,x.2.2]⟩
instance:Coe (Sl×Sl×Sl) Value:=⟨fun x=>.agg (List.toArray x)⟩
instance:Coe (Int×Int) (List Value):=⟨fun x=>[x.1,x.2]⟩
instance:Coe (Int×Int) Value:=⟨fun x=>.agg (List.toArray x)⟩
instance:Coe (Int×Int×Int×Sl×Sl) (List Value):=⟨fun x=>[x.1,x.2.1,x.2.2.1,x.2.2.2.1,x.2.2.2.2]⟩
instance:Coe (Int×Int×Int×Sl×Sl) Value:=⟨fun x=>.agg (List.toArray x)⟩
abbrev gY:=Int×Int×Int×Int×Int×Int×Sl×Sl
abbrev fH:=Int×Int×Int
abbrev oM:=ByteArray×Int×Int×Sl
abbrev bd:=Int×ByteArray×Sl×Int×Int×Int×Int×Sl×Sl
abbrev qq:=Int×Sl×Sl×Int×Int×Int×Sl×Int
abbrev aK:Rt:=.one (.sc .slc)
abbrev bm:Rt:=.one (.sc (.int .i64))
abbrev xF:Rt:=.one (.sc .ptr)
abbrev cx:Rt:=.one (.sc .bool)
abbrev yY:Rt:=.many []
abbrev dD:Ty:=.sc .slc
abbrev bi:Ty:=.sc (.int .i64)
abbrev Aj:Ty:=.sc .ptr
abbrev bR:Ty:=.sc .bool
abbrev bn:Ty:=.sc .str
variable {R:Value→Heap→Prop} {h:Heap}
def wN:ByteArray:=⟨#[97]⟩
def wO:ByteArray:=⟨#[98]⟩
def tf:ByteArray:=⟨#[99,97,116,45,55]⟩
def wP:ByteArray:=⟨#[100]⟩
def lN:ByteArray:=⟨#[101,49,50,51,52,53,54,55,56,57,48,49]⟩
def av:ByteArray:=⟨#[48,49,50,51,52,53,54,55,56,57,97,98,99,100,101,102]⟩
def ko:ByteArray:=⟨#[45]⟩
def fI:ByteArray:=⟨#[112,117,116,32]⟩
def kY:ByteArray:=⟨#[103,101,116,32]⟩
def kZ:ByteArray:=⟨#[100,101,108,32]⟩
def fJ:ByteArray:=⟨#[97,100,100,32]⟩
def gQ:ByteArray:=⟨#[114,101,116,105,114,101,32]⟩
def dz:ByteArray:=⟨#[114,101,112,108,97,99,101,32]⟩
def jN:ByteArray:=⟨#[108,111,115,101,32]⟩
def eu:ByteArray:=⟨#[115,99,114,117,98,32]⟩
def bW:ByteArray:=⟨#[115,112,111,105,108,32]⟩
def ld:ByteArray:=⟨#[97,114,109,32]⟩
def jO:ByteArray:=⟨#[102,97,108,108,32]⟩
def jP:ByteArray:=⟨#[115,116,97,116,32]⟩
def fK:ByteArray:=⟨#[101,114,114,111,114,32]⟩
def my:ByteArray:=⟨#[98,121,116,101,115,32]⟩
def mz:ByteArray:=⟨#[110,97,109,101,115]⟩
def lE:ByteArray:=⟨#[109,105,110,116,101,100,32]⟩
def vH:ByteArray:=⟨#[111,107]⟩
def oN:ByteArray:=⟨#[97,100,100]⟩
def lF:ByteArray:=⟨#[114,101,116,105,114,101]⟩
def kp:ByteArray:=⟨#[114,101,112,108,97,99,101]⟩
def nE:ByteArray:=⟨#[108,111,115,101]⟩
def mA:ByteArray:=⟨#[115,99,114,117,98]⟩
def mB:ByteArray:=⟨#[115,112,111,105,108]⟩
def oO:ByteArray:=⟨#[97,114,109]⟩
def nF:ByteArray:=⟨#[102,97,108,108]⟩
def qr:ByteArray:=⟨#[112,117,116]⟩
def jr:ByteArray:=⟨#[103,101,116]⟩
def js:ByteArray:=⟨#[100,101,108]⟩
def hZ:ByteArray:=⟨#[115,116,97,116]⟩
def jQ:ByteArray:=⟨#[108,105,115,116]⟩
def aL:ByteArray:=⟨#[]⟩
def pE:ByteArray:=⟨#[32,55]⟩
def gi:ByteArray:=⟨#[115,99,114,117,98,32,49,32,50,48]⟩
def uA:ByteArray:=⟨#[108,105,115,116,10]⟩
def tg:ByteArray:=⟨#[110,97,109,101,115,10]⟩
def aJ:ByteArray:=⟨#[32]⟩
abbrev ax:Nat:=3
abbrev aA:Nat:=5
abbrev bc:Nat:=9
abbrev nV:Nat:=22
abbrev th:Nat:=25
abbrev bX:Nat:=26
abbrev af:Nat:=29
abbrev dA:Nat:=38
abbrev cY:Nat:=44
abbrev aB:Nat:=65
abbrev yo:Nat:=68
abbrev aG:Nat:=73
abbrev nW:Nat:=82
abbrev nk:Nat:=95
abbrev aU:Nat:=98
abbrev aS:Nat:=113
abbrev bM:Nat:=118
abbrev dQ:Nat:=121
abbrev qN:Nat:=122
abbrev pF:Nat:=127
abbrev gu:Nat:=157
abbrev bN:Nat:=170
abbrev fc:Nat:=184
abbrev cQ:Nat:=187
abbrev ae:TI:=⟨.fn,(.sc .fn),1,8,[.nilFunc]⟩
abbrev vI:TI:=⟨.int .i64,(.sc (.int .i64)),1,8,[(.int .i64 0)]⟩
abbrev xG:TI:=⟨.int .u8,(.sc (.int .u8)),1,1,[(.int .u8 0)]⟩
abbrev yZ:TI:=⟨.str,(.sc .str),1,16,[(.string ⟨#[]⟩)]⟩
abbrev xH:TI:=⟨.int .u64,(.sc (.int .u64)),1,8,[(.int .u64 0)]⟩
abbrev za:TI:=⟨.other,(.sc .any),1,16,[.nilIface]⟩
abbrev zb:TI:=⟨.int .i32,(.sc (.int .i32)),1,4,[(.int .i32 0)]⟩
abbrev xI:TI:=⟨.struct [(0,3),(1,3),(2,3)],(.agg [(.int .i64),(.int .i64),(.int .i64)]),3,24,[(.int .i64 0),(.int .i64 0),(.int .i64 0)]⟩
abbrev vJ:TI:=⟨.other,(.sc .any),1,0,[(.tuple #[(.slice none 0 0),(.bool .false)])]⟩
abbrev xJ:TI:=⟨.other,(.sc .any),1,0,[(.tuple #[(.pointer none),(.int .i64 0)])]⟩
abbrev wQ:TI:=⟨.mp,(.sc .mp),1,8,[(.map none)]⟩
abbrev wR:TI:=⟨.other,(.sc .any),1,0,[(.tuple #[(.int .i64 0),(.int .i64 0)])]⟩
abbrev wS:TI:=⟨.other,(.sc .any),1,0,[(.tuple #[(.slice none 0 0),(.int .i64 0)])]⟩
abbrev wT:TI:=⟨.array 256 4,(.arr .bool),256,256,List.replicate 256 (.bool .false)⟩
abbrev uB:TI:=⟨.struct [(0,3),(1,26)],(.agg [(.int .i64),.slc]),2,32,[(.int .i64 0),(.slice none 0 0)]⟩
noncomputable def xK:dc:=[⟨.other,(.sc .any),1,0,[(.tuple #[])]⟩,ae,vI,vI,⟨.bool,(.sc .bool),1,1,[(.bool .false)]⟩,xG,xG,⟨.struct [(0,2),(1,3),(2,4),(3,6)],(.agg [(.int .i64),(.int .i64),.bool,(.int .u8)]),4,24,[(.int .i64 0),(.int .i64 0),(.bool .false),(.int .u8 0)]⟩,⟨.struct [(0,2),(1,3),(2,4),(3,6)],(.agg [(.int .i64),(.int .i64),.bool,(.int .u8)]),4,24,[(.int .i64 0),(.int .i64 0),(.bool .false),(.int .u8 0)]⟩,yZ,yZ,yZ,xH,⟨.struct [(0,9),(1,12)],(.agg [.str,(.int .u64)]),2,24,[(.string ⟨#[]⟩),(.int .u64 0)]⟩,⟨.struct [(0,9),(1,12)],(.agg [.str,(.int .u64)]),2,24,[(.string ⟨#[]⟩),(.int .u64 0)]⟩,⟨.ptr 502,(.sc .ptr),1,8,[(.pointer none)]⟩,⟨.ptr 505,(.sc .ptr),1,8,[(.pointer none)]⟩,⟨.ptr 512,(.sc .ptr),1,8,[(.pointer none)]⟩,⟨.struct [(0,17)],(.agg [.ptr]),1,8,[(.pointer none)]⟩,⟨.struct [(0,17)],(.agg [.ptr]),1,8,[(.pointer none)]⟩,za,zb,⟨.slice 3,(.sc .slc),1,24,[(.slice none 0 0)]⟩,ae,ae,⟨.slice 9,(.sc .slc),1,24,[(.slice none 0 0)]⟩,⟨.slice 5,(.sc .slc),1,24,[(.slice none 0 0)]⟩,⟨.int .u32,(.sc (.int .u32)),1,4,[(.int .u32 0)]⟩,⟨.struct [(0,3),(1,9),(2,26),(3,3),(4,3),(5,3),(6,27),(7,22),(8,22)],(.agg [(.int .i64),.str,.slc,(.int .i64),(.int .i64),(.int .i64),(.int .u32),.slc,.slc]),9,128,[(.int .i64 0),(.string ⟨#[]⟩),(.slice none 0 0),(.int .i64 0),(.int .i64 0),(.int .i64 0),(.int .u32 0),(.slice none 0 0),(.slice none 0 0)]⟩,⟨.struct [(0,3),(1,9),(2,26),(3,3),(4,3),(5,3),(6,27),(7,22),(8,22)],(.agg [(.int .i64),.str,.slc,(.int .i64),(.int .i64),(.int .i64),(.int .u32),.slc,.slc]),9,128,[(.int .i64 0),(.string ⟨#[]⟩),(.slice none 0 0),(.int .i64 0),(.int .i64 0),(.int .i64 0),(.int .u32 0),(.slice none 0 0),(.slice none 0 0)]⟩,⟨.other,(.sc .any),1,0,[(.tuple #[(.agg #[(.int .i64 0),(.string ⟨#[]⟩),(.slice none 0 0),(.int .i64 0),(.int .i64 0),(.int .i64 0),(.int .u32 0),(.slice none 0 0),(.slice none 0 0)]),(.bool .false)])]⟩,ae,ae,ae,vI,⟨.struct [(0,3),(1,3),(2,3),(3,22)],(.agg [(.int .i64),(.int .i64),(.int .i64),.slc]),4,48,[(.int .i64 0),(.int .i64 0),(.int .i64 0),(.slice none 0 0)]⟩,⟨.struct [(0,3),(1,3),(2,3),(3,22)],(.agg [(.int .i64),(.int .i64),(.int .i64),.slc]),4,48,[(.int .i64 0),(.int .i64 0),(.int .i64 0),(.slice none 0 0)]⟩,⟨.struct [(0,34),(1,26),(2,25),(3,36),(7,3)],(.agg [(.int .i64),.slc,.slc,(.int .i64),(.int .i64),(.int .i64),.slc,(.int .i64)]),8,112,[(.int .i64 0),(.slice none 0 0),(.slice none 0 0),(.int .i64 0),(.int .i64 0),(.int .i64 0),(.slice none 0 0),(.int .i64 0)]⟩,⟨.struct [(0,34),(1,26),(2,25),(3,36),(7,3)],(.agg [(.int .i64),.slc,.slc,(.int .i64),(.int .i64),(.int .i64),.slc,(.int .i64)]),8,112,[(.int .i64 0),(.slice none 0 0),(.slice none 0 0),(.int .i64 0),(.int .i64 0),(.int .i64 0),(.slice none 0 0),(.int .i64 0)]⟩,ae,ae,ae,ae,xI,xI,ae,⟨.slice 29,(.sc .slc),1,24,[(.slice none 0 0)]⟩,ae,ae,ae,ae,ae,ae,vJ,ae,ae,vJ,ae,vJ,ae,ae,ae,ae,⟨.ptr 65,(.sc .ptr),1,8,[(.pointer none)]⟩,⟨.struct [(0,63),(1,26)],(.agg [.ptr,.slc]),2,32,[(.pointer none),(.slice none 0 0)]⟩,⟨.struct [(0,63),(1,26)],(.agg [.ptr,.slc]),2,32,[(.pointer none),(.slice none 0 0)]⟩,ae,za,za,⟨.other,(.sc .any),1,0,[(.tuple #[(.int .i64 0),.nilIface])]⟩,ae,ae,ae,⟨.ptr 98,(.sc .ptr),1,8,[(.pointer none)]⟩,xJ,ae,ae,ae,ae,ae,ae,ae,wQ,⟨.other,(.sc .any),1,0,[(.tuple #[(.int .i64 0),(.bool .false)])]⟩,ae,ae,ae,ae,⟨.ptr 5,(.sc .ptr),1,8,[(.pointer none)]⟩,xH,⟨.ptr 113,(.sc .ptr),1,8,[(.pointer none)]⟩,ae,⟨.ptr 121,(.sc .ptr),1,8,[(.pointer none)]⟩,xJ,ae,⟨.ptr 184,(.sc .ptr),1,8,[(.pointer none)]⟩,⟨.array 64 95,(.arr .ptr),64,512,List.replicate 64 (.pointer none)⟩,⟨.struct [(0,90),(1,92),(2,96)],(.arr .any),66,528,List.replicate 66 (.pointer none)⟩,⟨.struct [(0,90),(1,92),(2,96)],(.arr .any),66,528,List.replicate 66 (.pointer none)⟩,ae,ae,ae,ae,wR,ae,ae,ae,ae,ae,ae,⟨.other,(.sc .any),1,8,[(.pointer none)]⟩,ae,⟨.struct [(0,4),(1,4),(2,3),(3,3)],(.agg [.bool,.bool,(.int .i64),(.int .i64)]),4,24,[(.bool .false),(.bool .false),(.int .i64 0),(.int .i64 0)]⟩,⟨.struct [(0,4),(1,4),(2,3),(3,3)],(.agg [.bool,.bool,(.int .i64),(.int .i64)]),4,24,[(.bool .false),(.bool .false),(.int .i64 0),(.int .i64 0)]⟩,ae,ae,⟨.slice 157,(.sc .slc),1,24,[(.slice none 0 0)]⟩,⟨.struct [(0,3),(1,3),(2,44),(5,3),(6,22),(7,116)],(.agg [(.int .i64),(.int .i64),(.int .i64),(.int .i64),(.int .i64),(.int .i64),.slc,.slc]),8,96,[(.int .i64 0),(.int .i64 0),(.int .i64 0),(.int .i64 0),(.int .i64 0),(.int .i64 0),(.slice none 0 0),(.slice none 0 0)]⟩,⟨.struct [(0,3),(1,3),(2,44),(5,3),(6,22),(7,116)],(.agg [(.int .i64),(.int .i64),(.int .i64),(.int .i64),(.int .i64),(.int .i64),.slc,.slc]),8,96,[(.int .i64 0),(.int .i64 0),(.int .i64 0),(.int .i64 0),(.int .i64 0),(.int .i64 0),(.slice none 0 0),(.slice none 0 0)]⟩,ae,⟨.struct [(0,118),(8,90),(9,3),(10,96)],(.arr .any),74,624,[(.int .i64 0),(.int .i64 0),(.int .i64 0),(.int .i64 0),(.int .i64 0),(.int .i64 0),(.slice none 0 0),(.slice none 0 0),(.pointer none),(.int .i64 0)]++List.replicate 64 (.pointer none)⟩,⟨.struct [(0,118),(8,90),(9,3),(10,96)],(.arr .any),74,624,[(.int .i64 0),(.int .i64 0),(.int .i64 0),(.int .i64 0),(.int .i64 0),(.int .i64 0),(.slice none 0 0),(.slice none 0 0),(.pointer none),(.int .i64 0)]++List.replicate 64 (.pointer none)⟩,⟨.slice 26,(.sc .slc),1,24,[(.slice none 0 0)]⟩,ae,ae,ae,ae,⟨.slice 187,(.sc .slc),1,24,[(.slice none 0 0)]⟩,ae,ae,ae,wS,ae,ae,ae,⟨.other,(.sc .any),1,0,[(.tuple #[(.agg #[(.int .i64 0),(.int .i64 0),(.int .i64 0),(.slice none 0 0)]),(.int .i64 0)])]⟩,ae,ae,ae,ae,ae,ae,ae,ae,ae,⟨.ptr 148,(.sc .ptr),1,8,[(.pointer none)]⟩,⟨.array 64 3,(.arr (.int .i64)),64,512,List.replicate 64 (.int .i64 0)⟩,⟨.struct [(0,92),(1,118),(9,118),(17,22),(18,3),(19,146),(83,127)],(.arr .any),84,768,[(.pointer none),(.int .i64 0),(.int .i64 0),(.int .i64 0),(.int .i64 0),(.int .i64 0),(.int .i64 0),(.slice none 0 0),(.slice none 0 0),(.int .i64 0),(.int .i64 0),(.int .i64 0),(.int .i64 0),(.int .i64 0),(.int .i64 0),(.slice none 0 0),(.slice none 0 0),(.slice none 0 0)]++List.replicate 65 (.int .i64 0)++[(.slice none 0 0)]⟩,⟨.struct [(0,92),(1,118),(9,118),(17,22),(18,3),(19,146),(83,127)],(.arr .any),84,768,[(.pointer none),(.int .i64 0),(.int .i64 0),(.int .i64 0),(.int .i64 0),(.int .i64 0),(.int .i64 0),(.slice none 0 0),(.slice none 0 0),(.int .i64 0),(.int .i64 0),(.int .i64 0),(.int .i64 0),(.int .i64 0),(.int .i64 0),(.slice none 0 0),(.slice none 0 0),(.slice none 0 0)]++List.replicate 65 (.int .i64 0)++[(.slice none 0 0)]⟩,ae,ae,ae,⟨.ptr 154,(.sc .ptr),1,8,[(.pointer none)]⟩,⟨.struct [(0,92),(1,118),(9,22),(10,3),(11,3),(12,3)],(.agg [.ptr,(.int .i64),(.int .i64),(.int .i64),(.int .i64),(.int .i64),(.int .i64),.slc,.slc,.slc,(.int .i64),(.int .i64),(.int .i64)]),13,152,[(.pointer none),(.int .i64 0),(.int .i64 0),(.int .i64 0),(.int .i64 0),(.int .i64 0),(.int .i64 0),(.slice none 0 0),(.slice none 0 0),(.slice none 0 0),(.int .i64 0),(.int .i64 0),(.int .i64 0)]⟩,⟨.struct [(0,92),(1,118),(9,22),(10,3),(11,3),(12,3)],(.agg [.ptr,(.int .i64),(.int .i64),(.int .i64),(.int .i64),(.int .i64),(.int .i64),.slc,.slc,.slc,(.int .i64),(.int .i64),(.int .i64)]),13,152,[(.pointer none),(.int .i64 0),(.int .i64 0),(.int .i64 0),(.int .i64 0),(.int .i64 0),(.int .i64 0),(.slice none 0 0),(.slice none 0 0),(.slice none 0 0),(.int .i64 0),(.int .i64 0),(.int .i64 0)]⟩,ae,⟨.struct [(0,9),(1,3),(2,3),(3,22)],(.agg [.str,(.int .i64),(.int .i64),.slc]),4,56,[(.string ⟨#[]⟩),(.int .i64 0),(.int .i64 0),(.slice none 0 0)]⟩,⟨.struct [(0,9),(1,3),(2,3),(3,22)],(.agg [.str,(.int .i64),(.int .i64),.slc]),4,56,[(.string ⟨#[]⟩),(.int .i64 0),(.int .i64 0),(.slice none 0 0)]⟩,ae,⟨.other,(.sc .any),1,0,[(.tuple #[(.int .i64 0),(.slice none 0 0),(.bool .false)])]⟩,ae,ae,ae,ae,ae,⟨.slice 95,(.sc .slc),1,24,[(.slice none 0 0)]⟩,⟨.other,(.sc .any),1,0,[(.tuple #[(.int .i32 0),(.int .i64 0)])]⟩,ae,ae,wT,wT,⟨.other,(.sc .any),1,0,[(.tuple #[(.agg #[(.bool .false),(.bool .false),(.bool .false),(.bool .false),(.bool .false),(.bool .false),(.bool .false),(.bool .false),(.bool .false),(.bool .false),(.bool .false),(.bool .false),(.bool .false),(.bool .false),(.bool .false),(.bool .false),(.bool .false),(.bool .false),(.bool .false),(.bool .false),(.bool .false),(.bool .false),(.bool .false),(.bool .false),(.bool .false),(.bool .false),(.bool .false),(.bool .false),(.bool .false),(.bool .false),(.bool .false),(.bool .false),(.bool .false),(.bool .false),(.bool .false),(.bool .false),(.bool .false),(.bool .false),(.bool .false),(.bool .false),(.bool .false),(.bool .false),(.bool .false),(.bool .false),(.bool .false),(.bool .false),(.bool .false),(.bool .false),(.bool .false),(.bool .false),(.bool .false),(.bool .false),(.bool .false),(.bool .false),(.bool .false),(.bool .false),(.bool .false),(.bool .false),(.bool .false),(.bool .false),(.bool .false),(.bool .false),(.bool .false),(.bool .false),(.bool .false),(.bool .false),(.bool .false),(.bool .false),(.bool .false),(.bool .false),(.bool .false),(.bool .false),(.bool .false),(.bool .false),(.bool .false),(.bool .false),(.bool .false),(.bool .false),(.bool .false),(.bool .false),(.bool .false),(.bool .false),(.bool .false),(.bool .false),(.bool .false),(.bool .false),(.bool .false),(.bool .false),(.bool .false),(.bool .false),(.bool .false),(.bool .false),(.bool .false),(.bool .false),(.bool .false),(.bool .false),(.bool .false),(.bool .false),(.bool .false),(.bool .false),(.bool .false),(.bool .false),(.bool .false),(.bool .false),(.bool .false),(.bool .false),(.bool .false),(.bool .false),(.bool .false),(.bool .false),(.bool .false),(.bool .false),(.bool .false),(.bool .false),(.bool .false),(.bool .false),(.bool .false),(.bool .false),(.bool .false),(.bool .false),(.bool .false),(.bool .false),(.bool .false),(.bool .false),(.bool .false),(.bool .false),(.bool .false),(.bool .false),(.bool .false),(.bool .false),(.bool .false),(.bool .false),(.bool .false),(.bool .false),(.bool .false),(.bool .false),(.bool .false),(.bool .false),(.bool .false),(.bool .false),(.bool .false),(.bool .false),(.bool .false),(.bool .false),(.bool .false),(.bool .false),(.bool .false),(.bool .false),(.bool .false),(.bool .false),(.bool .false),(.bool .false),(.bool .false),(.bool .false),(.bool .false),(.bool .false),(.bool .false),(.bool .false),(.bool .false),(.bool .false),(.bool .false),(.bool .false),(.bool .false),(.bool .false),(.bool .false),(.bool .false),(.bool .false),(.bool .false),(.bool .false),(.bool .false),(.bool .false),(.bool .false),(.bool .false),(.bool .false),(.bool .false),(.bool .false),(.bool .false),(.bool .false),(.bool .false),(.bool .false),(.bool .false),(.bool .false),(.bool .false),(.bool .false),(.bool .false),(.bool .false),(.bool .false),(.bool .false),(.bool .false),(.bool .false),(.bool .false),(.bool .false),(.bool .false),(.bool .false),(.bool .false),(.bool .false),(.bool .false),(.bool .false),(.bool .false),(.bool .false),(.bool .false),(.bool .false),(.bool .false),(.bool .false),(.bool .false),(.bool .false),(.bool .false),(.bool .false),(.bool .false),(.bool .false),(.bool .false),(.bool .false),(.bool .false),(.bool .false),(.bool .false),(.bool .false),(.bool .false),(.bool .false),(.bool .false),(.bool .false),(.bool .false),(.bool .false),(.bool .false),(.bool .false),(.bool .false),(.bool .false),(.bool .false),(.bool .false),(.bool .false),(.bool .false),(.bool .false),(.bool .false),(.bool .false),(.bool .false),(.bool .false),(.bool .false),(.bool .false),(.bool .false),(.bool .false),(.bool .false),(.bool .false),(.bool .false),(.bool .false),(.bool .false),(.bool .false),(.bool .false),(.bool .false),(.bool .false),(.bool .false),(.bool .false),(.bool .false),(.bool .false),(.bool .false),(.bool .false),(.bool .false),(.bool .false)]),(.bool .false)])]⟩,ae,ae,⟨.ptr 170,(.sc .ptr),1,8,[(.pointer none)]⟩,ae,⟨.array 24 5,(.arr (.int .u8)),24,24,List.replicate 24 (.int .u8 0)⟩,ae,ae,⟨.other,(.sc .any),1,0,[(.tuple #[(.slice none 0 0),(.string ⟨#[]⟩)])]⟩,ae,ae,ae,⟨.struct [(0,90),(1,3),(2,122),(3,3),(4,122),(5,4),(6,4)],(.agg [.ptr,(.int .i64),.slc,(.int .i64),.slc,.bool,.bool]),7,80,[(.pointer none),(.int .i64 0),(.slice none 0 0),(.int .i64 0),(.slice none 0 0),(.bool .false),(.bool .false)]⟩,⟨.struct [(0,90),(1,3),(2,122),(3,3),(4,122),(5,4),(6,4)],(.agg [.ptr,(.int .i64),.slc,(.int .i64),.slc,.bool,.bool]),7,80,[(.pointer none),(.int .i64 0),(.slice none 0 0),(.int .i64 0),(.slice none 0 0),(.bool .false),(.bool .false)]⟩,ae,uB,uB,ae,ae,ae,ae,vJ,ae,ae,ae,ae,ae,ae,⟨.slice 265,(.sc .slc),1,24,[(.slice none 0 0)]⟩,ae,ae,ae,ae,ae,ae,ae,ae,⟨.slice 211,(.sc .slc),1,24,[(.slice none 0 0)]⟩,ae,⟨.struct [(0,3),(1,3),(2,3),(3,44),(6,27),(7,26)],(.agg [(.int .i64),(.int .i64),(.int .i64),(.int .i64),(.int .i64),(.int .i64),(.int .u32),.slc]),8,80,[(.int .i64 0),(.int .i64 0),(.int .i64 0),(.int .i64 0),(.int .i64 0),(.int .i64 0),(.int .u32 0),(.slice none 0 0)]⟩,⟨.struct [(0,3),(1,3),(2,3),(3,44),(6,27),(7,26)],(.agg [(.int .i64),(.int .i64),(.int .i64),(.int .i64),(.int .i64),(.int .i64),(.int .u32),.slc]),8,80,[(.int .i64 0),(.int .i64 0),(.int .i64 0),(.int .i64 0),(.int .i64 0),(.int .i64 0),(.int .u32 0),(.slice none 0 0)]⟩,ae,ae,xH,ae,ae,ae,ae,ae,ae,ae,ae,ae,ae,ae,ae,⟨.ptr 234,(.sc .ptr),1,8,[(.pointer none)]⟩,xJ,ae,ae,⟨.ptr 324,(.sc .ptr),1,8,[(.pointer none)]⟩,⟨.slice 22,(.sc .slc),1,24,[(.slice none 0 0)]⟩,⟨.struct [(0,3),(1,3),(2,27),(3,231),(4,232),(5,22)],(.agg [(.int .i64),(.int .i64),(.int .u32),.ptr,.slc,.slc]),6,80,[(.int .i64 0),(.int .i64 0),(.int .u32 0),(.pointer none),(.slice none 0 0),(.slice none 0 0)]⟩,⟨.struct [(0,3),(1,3),(2,27),(3,231),(4,232),(5,22)],(.agg [(.int .i64),(.int .i64),(.int .u32),.ptr,.slc,.slc]),6,80,[(.int .i64 0),(.int .i64 0),(.int .u32 0),(.pointer none),(.slice none 0 0),(.slice none 0 0)]⟩,ae,ae,⟨.other,(.sc .any),1,0,[(.tuple #[(.agg #[(.int .i64 0),(.int .i64 0),(.int .i64 0),(.int .i64 0),(.int .i64 0),(.int .i64 0),(.slice none 0 0),(.slice none 0 0)]),(.bool .false)])]⟩,ae,ae,ae,ae,vI,⟨.other,(.sc .any),1,0,[(.tuple #[(.int .i64 0),.nilIface])]⟩,ae,⟨.ptr 315,(.sc .ptr),1,8,[(.pointer none)]⟩,ae,ae,ae,⟨.array 20 89,(.arr (.int .u64)),20,160,List.replicate 20 (.int .u64 0)⟩,⟨.array 65 5,(.arr (.int .u8)),65,65,List.replicate 65 (.int .u8 0)⟩,ae,ae,ae,ae,xJ,ae,ae,ae,ae,ae,ae,ae,ae,uB,uB,ae,ae,ae,ae,ae,wS,ae,ae,ae,⟨.other,(.sc .any),1,0,[(.tuple #[(.agg #[(.int .i64 0),(.int .i64 0),(.int .i64 0),(.int .i64 0),(.int .i64 0),(.int .i64 0),(.int .u32 0),(.slice none 0 0)]),(.bool .false)])]⟩,ae,ae,ae,ae,ae,ae,ae,vI,wR,ae,ae,ae,ae,ae,ae,ae,wQ,xI,xI,ae,ae,ae,ae,⟨.other,(.sc .any),1,0,[(.tuple #[(.slice none 0 0),(.bool .false),(.int .i64 0)])]⟩,ae,ae,ae,⟨.slice 118,(.sc .slc),1,24,[(.slice none 0 0)]⟩,ae,⟨.array 256 5,(.arr (.int .u8)),256,256,List.replicate 256 (.int .u8 0)⟩,⟨.struct [(0,5),(1,5)],(.agg [(.int .u8),(.int .u8)]),2,2,[(.int .u8 0),(.int .u8 0)]⟩,⟨.struct [(0,5),(1,5)],(.agg [(.int .u8),(.int .u8)]),2,2,[(.int .u8 0),(.int .u8 0)]⟩,⟨.array 16 307,(.arr (.int .u8)),32,32,List.replicate 32 (.int .u8 0)⟩,⟨.other,(.sc .any),1,0,[(.tuple #[(.int .u32 0),(.int .u32 0)])]⟩,ae,ae,⟨.other,(.sc .any),1,0,[(.tuple #[(.int .u64 0),.nilIface])]⟩,ae,⟨.struct [(0,9),(1,9),(2,68)],(.agg [.str,.str,.any]),3,48,[(.string ⟨#[]⟩),(.string ⟨#[]⟩),.nilIface]⟩,⟨.struct [(0,9),(1,9),(2,68)],(.agg [.str,.str,.any]),3,48,[(.string ⟨#[]⟩),(.string ⟨#[]⟩),.nilIface]⟩,ae,ae,ae,⟨.ptr 399,(.sc .ptr),1,8,[(.pointer none)]⟩,ae,ae,ae,⟨.struct [(0,44),(3,27),(4,122)],(.agg [(.int .i64),(.int .i64),(.int .i64),(.int .u32),.slc]),5,56,[(.int .i64 0),(.int .i64 0),(.int .i64 0),(.int .u32 0),(.slice none 0 0)]⟩,⟨.struct [(0,44),(3,27),(4,122)],(.agg [(.int .i64),(.int .i64),(.int .i64),(.int .u32),.slc]),5,56,[(.int .i64 0),(.int .i64 0),(.int .i64 0),(.int .u32 0),(.slice none 0 0)]⟩,⟨.cpx,(.sc (.cpx .f64)),1,16,[(.complex Go.FloatKind.f64 0 0)]⟩,ae,⟨.slice 332,(.sc .slc),1,24,[(.slice none 0 0)]⟩,⟨.array 64 4,(.arr .bool),64,64,List.replicate 64 (.bool .false)⟩,⟨.flt,(.sc (.flt .f64)),1,8,[(.float Go.FloatKind.f64 0)]⟩,ae,⟨.struct [(0,3),(1,329)],(.agg [(.int .i64),(.flt .f64)]),2,16,[(.int .i64 0),(.float Go.FloatKind.f64 0)]⟩,⟨.struct [(0,3),(1,329)],(.agg [(.int .i64),(.flt .f64)]),2,16,[(.int .i64 0),(.float Go.FloatKind.f64 0)]⟩,ae,ae,ae,ae,ae,ae,ae,ae,ae,⟨.slice 344,(.sc .slc),1,24,[(.slice none 0 0)]⟩,⟨.struct [(0,22),(1,26)],(.agg [.slc,.slc]),2,48,[(.slice none 0 0),(.slice none 0 0)]⟩,⟨.struct [(0,22),(1,26)],(.agg [.slc,.slc]),2,48,[(.slice none 0 0),(.slice none 0 0)]⟩,⟨.ptr 350,(.sc .ptr),1,8,[(.pointer none)]⟩,⟨.slice 423,(.sc .slc),1,24,[(.slice none 0 0)]⟩,⟨.struct [(0,346),(1,22),(2,22)],(.agg [.slc,.slc,.slc]),3,72,[(.slice none 0 0),(.slice none 0 0),(.slice none 0 0)]⟩,⟨.struct [(0,346),(1,22),(2,22)],(.agg [.slc,.slc,.slc]),3,72,[(.slice none 0 0),(.slice none 0 0),(.slice none 0 0)]⟩,⟨.struct [(0,319),(1,44),(4,122),(5,342),(6,348),(9,122),(10,122)],(.agg [.ptr,(.int .i64),(.int .i64),(.int .i64),.slc,.slc,.slc,.slc,.slc,.slc,.slc]),11,200,[(.pointer none),(.int .i64 0),(.int .i64 0),(.int .i64 0),(.slice none 0 0),(.slice none 0 0),(.slice none 0 0),(.slice none 0 0),(.slice none 0 0),(.slice none 0 0),(.slice none 0 0)]⟩,⟨.struct [(0,319),(1,44),(4,122),(5,342),(6,348),(9,122),(10,122)],(.agg [.ptr,(.int .i64),(.int .i64),(.int .i64),.slc,.slc,.slc,.slc,.slc,.slc,.slc]),11,200,[(.pointer none),(.int .i64 0),(.int .i64 0),(.int .i64 0),(.slice none 0 0),(.slice none 0 0),(.slice none 0 0),(.slice none 0 0),(.slice none 0 0),(.slice none 0 0),(.slice none 0 0)]⟩,⟨.slice 4,(.sc .slc),1,24,[(.slice none 0 0)]⟩,⟨.other,(.sc .any),1,0,[(.tuple #[(.slice none 0 0),(.slice none 0 0),(.slice none 0 0),(.int .i64 0)])]⟩,ae,ae,⟨.other,(.sc .any),1,0,[(.tuple #[(.slice none 0 0),(.slice none 0 0)])]⟩,ae,ae,ae,⟨.ptr 434,(.sc .ptr),1,8,[(.pointer none)]⟩,ae,ae,ae,ae,ae,ae,ae,xH,ae,ae,ae,⟨.ptr 3,(.sc .ptr),1,8,[(.pointer none)]⟩,ae,ae,wS,ae,⟨.ptr 441,(.sc .ptr),1,8,[(.pointer none)]⟩,ae,ae,⟨.slice 122,(.sc .slc),1,24,[(.slice none 0 0)]⟩,ae,ae,ae,ae,ae,⟨.ptr 387,(.sc .ptr),1,8,[(.pointer none)]⟩,⟨.struct [(0,9)],(.agg [.str]),1,16,[(.string ⟨#[]⟩)]⟩,⟨.struct [(0,9)],(.agg [.str]),1,16,[(.string ⟨#[]⟩)]⟩,⟨.array 32 5,(.arr (.int .u8)),32,32,List.replicate 32 (.int .u8 0)⟩,⟨.array 64 5,(.arr (.int .u8)),64,64,List.replicate 64 (.int .u8 0)⟩,ae,ae,ae,ae,⟨.array 255 5,(.arr (.int .u8)),255,255,List.replicate 255 (.int .u8 0)⟩,ae,⟨.array 256 3,(.arr (.int .i64)),256,2048,List.replicate 256 (.int .i64 0)⟩,ae,⟨.struct [(0,394),(255,396)],(.arr .any),511,2304,List.replicate 255 (.int .u8 0)++List.replicate 256 (.int .i64 0)⟩,⟨.struct [(0,394),(255,396)],(.arr .any),511,2304,List.replicate 255 (.int .u8 0)++List.replicate 256 (.int .i64 0)⟩,ae,⟨.ptr 404,(.sc .ptr),1,8,[(.pointer none)]⟩,ae,⟨.struct [(0,325),(1,325),(2,3),(3,3),(4,4)],(.agg [(.cpx .f64),(.cpx .f64),(.int .i64),(.int .i64),.bool]),5,56,[(.complex Go.FloatKind.f64 0 0),(.complex Go.FloatKind.f64 0 0),(.int .i64 0),(.int .i64 0),(.bool .false)]⟩,⟨.struct [(0,325),(1,325),(2,3),(3,3),(4,4)],(.agg [(.cpx .f64),(.cpx .f64),(.int .i64),(.int .i64),.bool]),5,56,[(.complex Go.FloatKind.f64 0 0),(.complex Go.FloatKind.f64 0 0),(.int .i64 0),(.int .i64 0),(.bool .false)]⟩,ae,ae,ae,ae,ae,ae,ae,ae,ae,ae,⟨.ptr 417,(.sc .ptr),1,8,[(.pointer none)]⟩,⟨.struct [(0,342),(1,351),(2,122)],(.agg [.slc,.slc,.slc]),3,72,[(.slice none 0 0),(.slice none 0 0),(.slice none 0 0)]⟩,⟨.struct [(0,342),(1,351),(2,122)],(.agg [.slc,.slc,.slc]),3,72,[(.slice none 0 0),(.slice none 0 0),(.slice none 0 0)]⟩,ae,⟨.other,(.sc .any),1,0,[(.tuple #[(.agg #[(.slice none 0 0),(.slice none 0 0),(.slice none 0 0)]),(.bool .false)])]⟩,ae,ae,⟨.struct [(0,3),(1,3)],(.agg [(.int .i64),(.int .i64)]),2,16,[(.int .i64 0),(.int .i64 0)]⟩,⟨.struct [(0,3),(1,3)],(.agg [(.int .i64),(.int .i64)]),2,16,[(.int .i64 0),(.int .i64 0)]⟩,ae,ae,ae,wT,⟨.other,(.sc .any),1,0,[(.tuple #[(.agg #[(.bool .false),(.bool .false),(.bool .false),(.bool .false),(.bool .false),(.bool .false),(.bool .false),(.bool .false),(.bool .false),(.bool .false),(.bool .false),(.bool .false),(.bool .false),(.bool .false),(.bool .false),(.bool .false),(.bool .false),(.bool .false),(.bool .false),(.bool .false),(.bool .false),(.bool .false),(.bool .false),(.bool .false),(.bool .false),(.bool .false),(.bool .false),(.bool .false),(.bool .false),(.bool .false),(.bool .false),(.bool .false),(.bool .false),(.bool .false),(.bool .false),(.bool .false),(.bool .false),(.bool .false),(.bool .false),(.bool .false),(.bool .false),(.bool .false),(.bool .false),(.bool .false),(.bool .false),(.bool .false),(.bool .false),(.bool .false),(.bool .false),(.bool .false),(.bool .false),(.bool .false),(.bool .false),(.bool .false),(.bool .false),(.bool .false),(.bool .false),(.bool .false),(.bool .false),(.bool .false),(.bool .false),(.bool .false),(.bool .false),(.bool .false),(.bool .false),(.bool .false),(.bool .false),(.bool .false),(.bool .false),(.bool .false),(.bool .false),(.bool .false),(.bool .false),(.bool .false),(.bool .false),(.bool .false),(.bool .false),(.bool .false),(.bool .false),(.bool .false),(.bool .false),(.bool .false),(.bool .false),(.bool .false),(.bool .false),(.bool .false),(.bool .false),(.bool .false),(.bool .false),(.bool .false),(.bool .false),(.bool .false),(.bool .false),(.bool .false),(.bool .false),(.bool .false),(.bool .false),(.bool .false),(.bool .false),(.bool .false),(.bool .false),(.bool .false),(.bool .false),(.bool .false),(.bool .false),(.bool .false),(.bool .false),(.bool .false),(.bool .false),(.bool .false),(.bool .false),(.bool .false),(.bool .false),(.bool .false),(.bool .false),(.bool .false),(.bool .false),(.bool .false),(.bool .false),(.bool .false),(.bool .false),(.bool .false),(.bool .false),(.bool .false),(.bool .false),(.bool .false),(.bool .false),(.bool .false),(.bool .false),(.bool .false),(.bool .false),(.bool .false),(.bool .false),(.bool .false),(.bool .false),(.bool .false),(.bool .false),(.bool .false),(.bool .false),(.bool .false),(.bool .false),(.bool .false),(.bool .false),(.bool .false),(.bool .false),(.bool .false),(.bool .false),(.bool .false),(.bool .false),(.bool .false),(.bool .false),(.bool .false),(.bool .false),(.bool .false),(.bool .false),(.bool .false),(.bool .false),(.bool .false),(.bool .false),(.bool .false),(.bool .false),(.bool .false),(.bool .false),(.bool .false),(.bool .false),(.bool .false),(.bool .false),(.bool .false),(.bool .false),(.bool .false),(.bool .false),(.bool .false),(.bool .false),(.bool .false),(.bool .false),(.bool .false),(.bool .false),(.bool .false),(.bool .false),(.bool .false),(.bool .false),(.bool .false),(.bool .false),(.bool .false),(.bool .false),(.bool .false),(.bool .false),(.bool .false),(.bool .false),(.bool .false),(.bool .false),(.bool .false),(.bool .false),(.bool .false),(.bool .false),(.bool .false),(.bool .false),(.bool .false),(.bool .false),(.bool .false),(.bool .false),(.bool .false),(.bool .false),(.bool .false),(.bool .false),(.bool .false),(.bool .false),(.bool .false),(.bool .false),(.bool .false),(.bool .false),(.bool .false),(.bool .false),(.bool .false),(.bool .false),(.bool .false),(.bool .false),(.bool .false),(.bool .false),(.bool .false),(.bool .false),(.bool .false),(.bool .false),(.bool .false),(.bool .false),(.bool .false),(.bool .false),(.bool .false),(.bool .false),(.bool .false),(.bool .false),(.bool .false),(.bool .false),(.bool .false),(.bool .false),(.bool .false),(.bool .false),(.bool .false),(.bool .false),(.bool .false),(.bool .false),(.bool .false),(.bool .false),(.bool .false),(.bool .false),(.bool .false),(.bool .false),(.bool .false),(.bool .false),(.bool .false),(.bool .false),(.bool .false),(.bool .false),(.bool .false),(.bool .false),(.bool .false)]),(.bool .false)])]⟩,ae,ae,⟨.ptr 427,(.sc .ptr),1,8,[(.pointer none)]⟩,ae,⟨.struct [(0,89)],(.agg [(.int .u64)]),1,8,[(.int .u64 0)]⟩,⟨.struct [(0,89)],(.agg [(.int .u64)]),1,8,[(.int .u64 0)]⟩,ae,ae,⟨.ptr 367,(.sc .ptr),1,8,[(.pointer none)]⟩,wR,ae,⟨.struct [(0,319),(1,3),(2,122)],(.agg [.ptr,(.int .i64),.slc]),3,40,[(.pointer none),(.int .i64 0),(.slice none 0 0)]⟩,⟨.struct [(0,319),(1,3),(2,122)],(.agg [.ptr,(.int .i64),.slc]),3,40,[(.pointer none),(.int .i64 0),(.slice none 0 0)]⟩,ae,ae,ae,ae,ae,ae,⟨.slice 450,(.sc .slc),1,24,[(.slice none 0 0)]⟩,⟨.struct [(0,3),(1,3),(2,3),(3,26),(4,26)],(.agg [(.int .i64),(.int .i64),(.int .i64),.slc,.slc]),5,72,[(.int .i64 0),(.int .i64 0),(.int .i64 0),(.slice none 0 0),(.slice none 0 0)]⟩,⟨.struct [(0,3),(1,3),(2,3),(3,26),(4,26)],(.agg [(.int .i64),(.int .i64),(.int .i64),.slc,.slc]),5,72,[(.int .i64 0),(.int .i64 0),(.int .i64 0),(.slice none 0 0),(.slice none 0 0)]⟩,⟨.other,(.sc .any),1,0,[(.tuple #[(.agg #[(.int .i64 0),(.int .i64 0),(.int .i64 0),(.slice none 0 0),(.slice none 0 0)]),(.bool .false)])]⟩,ae,wQ,vJ,ae,ae,ae,ae,ae,ae,ae,ae,ae,ae,ae,ae,ae,ae,ae,ae,ae,⟨.ptr 474,(.sc .ptr),1,8,[(.pointer none)]⟩,⟨.struct [(0,232),(1,351),(2,351)],(.agg [.slc,.slc,.slc]),3,72,[(.slice none 0 0),(.slice none 0 0),(.slice none 0 0)]⟩,⟨.struct [(0,232),(1,351),(2,351)],(.agg [.slc,.slc,.slc]),3,72,[(.slice none 0 0),(.slice none 0 0),(.slice none 0 0)]⟩,ae,⟨.other,(.sc .any),1,0,[(.tuple #[(.agg #[(.int .i64 0),(.int .i64 0)]),(.bool .false)])]⟩,ae,ae,ae,ae,ae,ae,ae,ae,ae,ae,ae,ae,ae,ae,ae,ae,ae,⟨.ptr 496,(.sc .ptr),1,8,[(.pointer none)]⟩,⟨.struct [(0,26),(1,4)],(.agg [.slc,.bool]),2,32,[(.slice none 0 0),(.bool .false)]⟩,⟨.struct [(0,26),(1,4)],(.agg [.slc,.bool]),2,32,[(.slice none 0 0),(.bool .false)]⟩,ae,ae,ae,ae,⟨.struct [(0,17),(1,17),(2,17),(3,9)],(.agg [.ptr,.ptr,.ptr,.str]),4,40,[(.pointer none),(.pointer none),(.pointer none),(.string ⟨#[]⟩)]⟩,⟨.struct [(0,17),(1,17),(2,17),(3,9)],(.agg [.ptr,.ptr,.ptr,.str]),4,40,[(.pointer none),(.pointer none),(.pointer none),(.string ⟨#[]⟩)]⟩,⟨.array 0 16,(.arr .ptr),0,0,[]⟩,⟨.struct [(0,503)],(.agg []),0,0,[]⟩,⟨.struct [(0,503)],(.agg []),0,0,[]⟩,xG,xG,ae,zb,zb,⟨.struct [(0,12),(1,12),(2,27),(3,506),(4,5),(5,5),(6,507),(7,508),(8,88),(9,509),(10,510)],(.agg [(.int .u64),(.int .u64),(.int .u32),(.int .u8),(.int .u8),(.int .u8),(.int .u8),.fn,.ptr,(.int .i32),(.int .i32)]),11,48,[(.int .u64 0),(.int .u64 0),(.int .u32 0),(.int .u8 0),(.int .u8 0),(.int .u8 0),(.int .u8 0),.nilFunc,(.pointer none),(.int .i32 0),(.int .i32 0)]⟩,⟨.struct [(0,12),(1,12),(2,27),(3,506),(4,5),(5,5),(6,507),(7,508),(8,88),(9,509),(10,510)],(.agg [(.int .u64),(.int .u64),(.int .u32),(.int .u8),(.int .u8),(.int .u8),(.int .u8),.fn,.ptr,(.int .i32),(.int .i32)]),11,48,[(.int .u64 0),(.int .u64 0),(.int .u32 0),(.int .u8 0),(.int .u8 0),(.int .u8 0),(.int .u8 0),.nilFunc,(.pointer none),(.int .i32 0),(.int .i32 0)]⟩,ae]
noncomputable def C:Ctx:={P:=Tryz.prog,T:=xK,tup:=[(0,[]),(30,[(.agg [(.int .i64),.str,.slc,(.int .i64),(.int .i64),(.int .i64),(.int .u32),.slc,.slc]),(.sc .bool)]),(53,[(.sc .slc),(.sc .bool)]),(56,[(.sc .slc),(.sc .bool)]),(58,[(.sc .slc),(.sc .bool)]),(69,[(.sc (.int .i64)),(.sc .any)]),(74,[(.sc .ptr),(.sc (.int .i64))]),(83,[(.sc (.int .i64)),(.sc .bool)]),(93,[(.sc .ptr),(.sc (.int .i64))]),(103,[(.sc (.int .i64)),(.sc (.int .i64))]),(131,[(.sc .slc),(.sc (.int .i64))]),(135,[(.agg [(.int .i64),(.int .i64),(.int .i64),.slc]),(.sc (.int .i64))]),(159,[(.sc (.int .i64)),(.sc .slc),(.sc .bool)]),(166,[(.sc (.int .i32)),(.sc (.int .i64))]),(171,[(.arr .bool),(.sc .bool)]),(179,[(.sc .slc),(.sc .str)]),(192,[(.sc .slc),(.sc .bool)]),(228,[(.sc .ptr),(.sc (.int .i64))]),(237,[(.agg [(.int .i64),(.int .i64),(.int .i64),(.int .i64),(.int .i64),(.int .i64),.slc,.slc]),(.sc .bool)]),(243,[(.sc (.int .i64)),(.sc .any)]),(255,[(.sc .ptr),(.sc (.int .i64))]),(271,[(.sc .slc),(.sc (.int .i64))]),(275,[(.agg [(.int .i64),(.int .i64),(.int .i64),(.int .i64),(.int .i64),(.int .i64),(.int .u32),.slc]),(.sc .bool)]),(284,[(.sc (.int .i64)),(.sc (.int .i64))]),(299,[(.sc .slc),(.sc .bool),(.sc (.int .i64))]),(309,[(.sc (.int .u32)),(.sc (.int .u32))]),(312,[(.sc (.int .u64)),(.sc .any)]),(352,[(.sc .slc),(.sc .slc),(.sc .slc),(.sc (.int .i64))]),(355,[(.sc .slc),(.sc .slc)]),(374,[(.sc .slc),(.sc (.int .i64))]),(419,[(.agg [.slc,.slc,.slc]),(.sc .bool)]),(428,[(.arr .bool),(.sc .bool)]),(438,[(.sc (.int .i64)),(.sc (.int .i64))]),(451,[(.agg [(.int .i64),(.int .i64),(.int .i64),.slc,.slc]),(.sc .bool)]),(454,[(.sc .slc),(.sc .bool)]),(476,[(.agg [(.int .i64),(.int .i64)]),(.sc .bool)])],fns:=[false,false]++List.replicate 67 true++[false]++List.replicate 46 true++[false]++List.replicate 18 true++[false]++List.replicate 51 true++[false]++List.replicate 259 true++List.replicate 31 false++[true]}
theorem zO:(List.range C.T.length).map (dc.seen C.P)=C.T.map dc.told:=by kernel_rfl
theorem yp:C.P.follows .mixedOrders=true:=by kernel_rfl
theorem zP:(C.P.funcs.toList.map fun f=>!(f.name== "runtime.NumGoroutine")&&f.body.isSome)=C.fns:=by kernel_rfl
theorem ag:C.Ok:={xK:=zO,mixed:=yp,fns:=zP}
abbrev ia:FuncId:=32
abbrev gj:FuncId:=48
abbrev dm:FuncId:=3
noncomputable def dB (s_0:ByteArray) (l_1:Sl):Prop:=
 Br (decide ((s_0.size:Int)>200))
 (ac Tryz.prog 6 #[] cx h fun r1 h1=>
 R r1 h1)
 (ac Tryz.prog 7 #[l_1,(.int .i64 (0:Int))] (.one bn) h fun r2 h2=>
 ac Tryz.prog 7 #[l_1,(.int .i64 (4:Int))] (.one bn) h2 fun r3 h3=>
 ac Tryz.prog 7 #[l_1,(.int .i64 (8:Int))] (.one bn) h3 fun r4 h4=>
 an Tryz.prog (Instr.buildSlice 25 4 #[(0,s_0),(1,r2),(2,r3),(3,r4)]) aK h4 fun v5 h5=>
 aR (σ:=Int) (fun s6 K1 h6=>
 Br (decide (s6<(v5.len:Int)))
 (∃a7:Addr,(v5.ptr=some a7∧0≤s6∧s6<(v5.len:Int))∧
 ∃x8:ByteArray,cellOf h6 (a7.add (s6.toNat*1))=some (.string x8)∧
 ac Tryz.prog 8 #[x8] (.many [(.agg [(.int .i64),.str,.slc,(.int .i64),(.int .i64),(.int .i64),(.int .u32),.slc,.slc]),bR]) h6 fun r9 h7=>
 aI Tryz.prog (Instr.alloc 29 true (.tuple #[])) h7 fun a10 h8=>
 aa Tryz.prog (Instr.storeAt 29 a10 r9.1) h8 fun _ h9=>
 ac Tryz.prog 9 #[x8] (.many [(.agg [(.int .i64),.str,.slc,(.int .i64),(.int .i64),(.int .i64),(.int .u32),.slc,.slc]),bR]) h9 fun r11 h10=>
 aI Tryz.prog (Instr.alloc 29 true (.tuple #[])) h10 fun a12 h11=>
 aa Tryz.prog (Instr.storeAt 29 a12 r11.1) h11 fun _ h12=>
 Br (!(r9.2==r11.2)) (R false h12) (∃x13:bd,ai h12 a10 0 x13∧
 ∃x14:bd,ai h12 a12 0 x14∧
 ac Tryz.prog 10 #[x13,x14] cx h12 fun r15 h13=>
 Br (!r15)
 (R false h13)
 (K1 (IntKind.wrap .i64 (s6+1)) h13)))
 (ac Tryz.prog 6 #[] cx h6 fun r16 h14=>
 R r16 h14)) (0:Int) h5)
theorem fL (s_0:ByteArray) (l_1:Sl) (hm: @dB R h s_0 l_1):ah Tryz.prog 3 #[s_0,l_1] h R:=ay ag Tryz.func3 (.two .n (.two .n (.two (.two .n (.inn (.loop [(24,bi)] [(4,5),(6,11),(24,48)] .n))) .n))) hm
abbrev ew:FuncId:=6
noncomputable def eI:Prop:=
 ac Tryz.prog 8 #[gi] (.many [(.agg [(.int .i64),.str,.slc,(.int .i64),(.int .i64),(.int .i64),(.int .u32),.slc,.slc]),bR]) h fun r1 h1=>
 aI Tryz.prog (Instr.alloc 29 true (.tuple #[])) h1 fun a2 h2=>
 aa Tryz.prog (Instr.storeAt 29 a2 r1.1) h2 fun _ h3=>
 an Tryz.prog (Instr.buildSlice 22 1 #[(0,(.int .i64 (5:Int)))]) aK h3 fun v3 h4=>
 ac Tryz.prog 17 #[(.agg #[(.int .i64 (1:Int)),(.int .i64 (1:Int)),(.int .i64 (1:Int))]),(.int .i64 (0:Int)),v3,uA] (.one bn) h4 fun r4 h5=>
 Br (r4.toList==tg.toList) (Br r1.2 (∃x5:Int,cellOf h5 (a2.add 4)=some (.int .i64 x5)∧
 Br (x5==1) (∃x6:Int,cellOf h5 (a2.add 5)=some (.int .i64 x6)∧
 R (.bool (x6==20)) h5) (R false h5)) (R false h5)) (R false h5)
theorem ib (hm: @eI R h):ah Tryz.prog 6 #[] h R:=ay ag Tryz.func6 .n hm
abbrev eJ:FuncId:=7
noncomputable def eT (l_0:Sl) (k_1:Int):Prop:=
 ac Tryz.prog 18 #[l_0,(IntKind.wrap .i64 (k_1+1))] bm h fun r1 h1=>
 ac Tryz.prog 18 #[l_0,(IntKind.wrap .i64 (k_1+2))] bm h1 fun r2 h2=>
 ac Tryz.prog 18 #[l_0,(IntKind.wrap .i64 (k_1+3))] bm h2 fun r3 h3=>
 ac Tryz.prog 18 #[l_0,k_1] bm h3 fun r4 h4=>
 ((9:Int)≠0)∧
 ac Tryz.prog 14 #[(.agg #[(.int .i64 (2:Int)),(.int .i64 (1:Int)),(.int .i64 (3:Int))]),(IntKind.wrap .i64 (Int.tdiv r4 9)),r1,r2] (.one (.agg [(.int .i64),.str,.slc,(.int .i64),(.int .i64),(.int .i64),(.int .u32),.slc,.slc])) h4 fun r5 h5=>
 ac Tryz.prog 16 #[r5] (.one bn) h5 fun r6 h6=>
 aC (σ:=ByteArray) (fun s11 h11=>
 ((9:Int)≠0)∧
 ac Tryz.prog 11 #[(IntKind.wrap .i64 (Int.tdiv r3 9)),(IntKind.wrap .i64 ((s11.size:Int)+1))] bm h11 fun r12 h12=>
 aC (σ:=ByteArray) (fun s16 h16=>
 R s16 h16)
 (fun K2=>
 ac Tryz.prog 11 #[r3,(.int .i64 (9:Int))] bm h12 fun r13 h13=>
 Br (r13==0)
 ((0≤r12∧r12≤(s11.size:Int))∧
 (0≤r12∧r12≤(s11.size:Int))∧
 an Tryz.prog (Instr.buildSlice 26 1 #[(0,(.int .u8 (IntKind.wrap .u8 r2)))]) aK h13 fun v14 h14=>
 (ar.ok [] h14)∧
 an Tryz.prog (convert 26 9 v14) (.one bn) h14 fun v15 h15=>
 (ar.ok [] h15)∧
 ((((s11.extract 0 r12.toNat).size+v15.size:Nat):Int)≤IntKind.max .i64)∧
 (((((s11.extract 0 r12.toNat)++v15).size+(s11.extract r12.toNat s11.size).size:Nat):Int)≤IntKind.max .i64)∧
 K2 (((s11.extract 0 r12.toNat)++v15)++(s11.extract r12.toNat s11.size)) h15)
 (Br (r13==1)
 ((0≤r12∧r12≤(s11.size:Int))∧
 ((((s11.extract 0 r12.toNat).size+aJ.size:Nat):Int)≤IntKind.max .i64)∧
 (0≤r12∧r12≤(s11.size:Int))∧
 (((((s11.extract 0 r12.toNat)++aJ).size+(s11.extract r12.toNat s11.size).size:Nat):Int)≤IntKind.max .i64)∧
 K2 (((s11.extract 0 r12.toNat)++aJ)++(s11.extract r12.toNat s11.size)) h13)
 (Br (r13==2)
 ((0≤r12∧r12≤(s11.size:Int))∧
 (0≤(if(s11.size:Int)<(IntKind.wrap .i64 (r12+1))then(s11.size:Int)else IntKind.wrap .i64 (r12+1))∧(if(s11.size:Int)<(IntKind.wrap .i64 (r12+1))then(s11.size:Int)else IntKind.wrap .i64 (r12+1))≤(s11.size:Int))∧
 ((((s11.extract 0 r12.toNat).size+(s11.extract (if(s11.size:Int)<(IntKind.wrap .i64 (r12+1))then(s11.size:Int)else IntKind.wrap .i64 (r12+1)).toNat s11.size).size:Nat):Int)≤IntKind.max .i64)∧
 K2 ((s11.extract 0 r12.toNat)++(s11.extract (if(s11.size:Int)<(IntKind.wrap .i64 (r12+1))then(s11.size:Int)else IntKind.wrap .i64 (r12+1)).toNat s11.size)) h13)
 (Br (r13==3)
 ((((s11.size+pE.size:Nat):Int)≤IntKind.max .i64)∧
 K2 (s11++pE) h13)
 (K2 s11 h13))))))
 (fun K1=>
 ac Tryz.prog 18 #[l_0,k_1] bm h6 fun r7 h7=>
 ac Tryz.prog 11 #[r7,(.int .i64 (5:Int))] bm h7 fun r8 h8=>
 Br (r8==4)
 (ac Tryz.prog 15 #[r1,r2,r3] (.one (.agg [(.int .i64),.str,.slc,(.int .i64),(.int .i64),(.int .i64),(.int .u32),.slc,.slc])) h8 fun r9 h9=>
 ac Tryz.prog 16 #[r9] (.one bn) h9 fun r10 h10=>
 K1 r10 h10)
 (K1 r6 h8))
theorem iE (l_0:Sl) (k_1:Int) (hm: @eT R h l_0 k_1):ah Tryz.prog 7 #[l_0,k_1] h R:=ay ag Tryz.func7 (.two .n (.two .n (.two .n (.two .n (.two (.join [(9,bn)] [(9,10),(32,43)] .n) (.two .n (.two (.join [(9,bn)] [(9,10),(50,94)] .n) .n))))))) hm
abbrev ff:FuncId:=8
noncomputable def jt (line_0:ByteArray):Prop:=
 aI Tryz.prog (Instr.alloc 29 true (.tuple #[])) h fun a1 h1=>
 ac Tryz.prog 19 #[line_0,aJ] aK h1 fun r2 h2=>
 aR (σ:=Int) (fun s3 K1 h3=>
 Br (decide (s3<(r2.len:Int)))
 (∃a4:Addr,(r2.ptr=some a4∧0≤s3∧s3<(r2.len:Int))∧
 ∃x5:ByteArray,cellOf h3 (a4.add (s3.toNat*1))=some (.string x5)∧
 Br (x5.toList==aL.toList)
 (aa Tryz.prog (Instr.storeAt 29 a1 (.agg #[(.int .i64 (0:Int)),aL,(.slice none 0 0),(.int .i64 (0:Int)),(.int .i64 (0:Int)),(.int .i64 (0:Int)),(.int .u32 (0:Int)),(.slice none 0 0),(.slice none 0 0)])) h3 fun _ h4=>
 ∃res6:bd,ai h4 a1 0 res6∧
 R (.tuple #[res6,false]) h4)
 (K1 (IntKind.wrap .i64 (s3+1)) h3))
 (aC (σ:=Unit) (fun _ h12=>
 (0≤(1:Int)∧(1:Int)≤(r2.len:Int))∧
 ac Tryz.prog 22 #[(.slice (if r2.cap=(1:Int).toNat then r2.ptr else r2.ptr.map (·.add ((1:Int).toNat*1))) (r2.len-(1:Int).toNat) (r2.cap-(1:Int).toNat))] (.many [dD,bR]) h12 fun r17 h13=>
 Br (!r17.2)
 (aa Tryz.prog (Instr.storeAt 29 a1 (.agg #[(.int .i64 (0:Int)),aL,(.slice none 0 0),(.int .i64 (0:Int)),(.int .i64 (0:Int)),(.int .i64 (0:Int)),(.int .u32 (0:Int)),(.slice none 0 0),(.slice none 0 0)])) h13 fun _ h14=>
 ∃res18:bd,ai h14 a1 0 res18∧
 R (.tuple #[res18,false]) h14)
 (∃a19:Addr,(r2.ptr=some a19∧0≤(0:Int)∧(0:Int)<(r2.len:Int))∧
 ∃x20:ByteArray,cellOf h13 (a19.add ((0:Int).toNat*1))=some (.string x20)∧
 ac Tryz.prog 23 #[x20,r17.1] (.many [(.agg [(.int .i64),.str,.slc,(.int .i64),(.int .i64),(.int .i64),(.int .u32),.slc,.slc]),bR]) h13 fun r21 h15=>
 aa Tryz.prog (Instr.storeAt 29 a1 r21.1) h15 fun _ h16=>
 ∃res22:bd,ai h16 a1 0 res22∧
 R (.tuple #[res22,r21.2]) h16))
 (fun K2=>
 ∃a7:Addr,(r2.ptr=some a7∧0≤(0:Int)∧(0:Int)<(r2.len:Int))∧
 ∃x8:ByteArray,cellOf h3 (a7.add ((0:Int).toNat*1))=some (.string x8)∧
 Br (x8.toList==qr.toList)
 (ac Tryz.prog 20 #[r2] (.many [(.agg [(.int .i64),.str,.slc,(.int .i64),(.int .i64),(.int .i64),(.int .u32),.slc,.slc]),bR]) h3 fun r9 h5=>
 aa Tryz.prog (Instr.storeAt 29 a1 r9.1) h5 fun _ h6=>
 ∃res10:bd,ai h6 a1 0 res10∧
 R (.tuple #[res10,r9.2]) h6)
 (aC (σ:=Bool) (fun s11 h7=>
 Br s11
 (ac Tryz.prog 21 #[r2] (.many [(.agg [(.int .i64),.str,.slc,(.int .i64),(.int .i64),(.int .i64),(.int .u32),.slc,.slc]),bR]) h7 fun r12 h8=>
 aa Tryz.prog (Instr.storeAt 29 a1 r12.1) h8 fun _ h9=>
 ∃res13:bd,ai h9 a1 0 res13∧
 R (.tuple #[res13,r12.2]) h9)
 (Br (x8.toList==jQ.toList)
 (Br ((r2.len:Int)==1)
 (aa Tryz.prog (Instr.storeAt 29 a1 (.agg #[(.int .i64 (4:Int)),aL,(.slice none 0 0),(.int .i64 (0:Int)),(.int .i64 (0:Int)),(.int .i64 (0:Int)),(.int .u32 (0:Int)),(.slice none 0 0),(.slice none 0 0)])) h7 fun _ h10=>
 ∃res14:bd,ai h10 a1 0 res14∧
 R (.tuple #[res14,true]) h10)
 (aa Tryz.prog (Instr.storeAt 29 a1 (.agg #[(.int .i64 (0:Int)),aL,(.slice none 0 0),(.int .i64 (0:Int)),(.int .i64 (0:Int)),(.int .i64 (0:Int)),(.int .u32 (0:Int)),(.slice none 0 0),(.slice none 0 0)])) h7 fun _ h11=>
 ∃res15:bd,ai h11 a1 0 res15∧
 R (.tuple #[res15,false]) h11))
 (K2 () h7)))
 (fun K3=>
 Br (x8.toList==jr.toList)
 (K3 (x8.toList==jr.toList) h3)
 (Br (x8.toList==js.toList)
 (K3 (x8.toList==js.toList) h3)
 (K3 (x8.toList==hZ.toList) h3))))))) (0:Int) h2
theorem nl (line_0:ByteArray) (hm: @jt R h line_0):ah Tryz.prog 8 #[line_0] h R:=ay ag Tryz.func8 (.two .n (.two .n (.two (.two .n (.inn (.loop [(13,bi)] [(3,4),(6,7),(13,21)] .n))) (.two (.join [] [(3,4),(21,45)] (.two .n (.inn (.two .n (.two .n (.two (.join [(30,bR)] [(30,34)] .n) .n)))))) .n)))) hm
abbrev ez:FuncId:=9
noncomputable def eK (line_0:ByteArray):Prop:=
 aI Tryz.prog (Instr.alloc 29 true (.tuple #[])) h fun a1 h1=>
 ac Tryz.prog 24 #[line_0] (.many [dD,bR]) h1 fun r2 h2=>
 Br (!r2.2)
 (aa Tryz.prog (Instr.storeAt 29 a1 (.agg #[(.int .i64 (0:Int)),aL,(.slice none 0 0),(.int .i64 (0:Int)),(.int .i64 (0:Int)),(.int .i64 (0:Int)),(.int .u32 (0:Int)),(.slice none 0 0),(.slice none 0 0)])) h2 fun _ h3=>
 ∃res3:bd,ai h3 a1 0 res3∧
 R (.tuple #[res3,false]) h3)
 (aI Tryz.prog (Instr.alloc 29 true (.tuple #[])) h2 fun a4 h4=>
 aC (σ:=Unit) (fun _ h16=>
 (0≤(1:Int)∧(1:Int)≤(r2.1.len:Int))∧
 ac Tryz.prog 26 #[(.slice (if r2.1.cap=(1:Int).toNat then r2.1.ptr else r2.1.ptr.map (·.add ((1:Int).toNat*1))) (r2.1.len-(1:Int).toNat) (r2.1.cap-(1:Int).toNat))] (.many [dD,bR]) h16 fun r37 h17=>
 Br (!r37.2)
 (aa Tryz.prog (Instr.storeAt 29 a1 (.agg #[(.int .i64 (0:Int)),aL,(.slice none 0 0),(.int .i64 (0:Int)),(.int .i64 (0:Int)),(.int .i64 (0:Int)),(.int .u32 (0:Int)),(.slice none 0 0),(.slice none 0 0)])) h17 fun _ h18=>
 ∃res38:bd,ai h18 a1 0 res38∧
 R (.tuple #[res38,false]) h18)
 (aC (σ:=Unit) (fun _ h53=>
 ∃x110:bd,ai h53 a4 0 x110∧
 ∃x111:Int,cellOf h53 a4=some (.int .i64 x111)∧
 aa Tryz.prog (Instr.storeAt 29 a1 x110) h53 fun _ h54=>
 (ar.ok [(a4,x111)] h54)∧
 ∃res112:bd,ai h54 a1 0 res112∧
 R (.tuple #[res112,(decide (x111>0))]) h54)
 (fun K6=>
 aC (σ:=Bool) (fun s41 h19=>
 Br s41
 (∃a42:Addr,(r37.1.ptr=some a42∧0≤(0:Int)∧(0:Int)<(r37.1.len:Int))∧
 ∃x43:Int,cellOf h19 (a42.add ((0:Int).toNat*1))=some (.int .i64 x43)∧
 ∃a44:Addr,(r37.1.ptr=some a44∧0≤(1:Int)∧(1:Int)<(r37.1.len:Int))∧
 ∃x45:Int,cellOf h19 (a44.add ((1:Int).toNat*1))=some (.int .i64 x45)∧
 aa Tryz.prog (Instr.storeAt 29 a4 (.agg #[(.int .i64 (6:Int)),aL,(.slice none 0 0),x43,x45,(.int .i64 (0:Int)),(.int .u32 (0:Int)),(.slice none 0 0),(.slice none 0 0)])) h19 fun _ h20=>
 (ar.ok [] h20)∧
 K6 () h20)
 (aC (σ:=Bool) (fun s48 h21=>
 Br s48
 (∃a49:Addr,(r37.1.ptr=some a49∧0≤(0:Int)∧(0:Int)<(r37.1.len:Int))∧
 ∃x50:Int,cellOf h21 (a49.add ((0:Int).toNat*1))=some (.int .i64 x50)∧
 aa Tryz.prog (Instr.storeAt 29 a4 (.agg #[(.int .i64 (7:Int)),aL,(.slice none 0 0),x50,(.int .i64 (0:Int)),(.int .i64 (0:Int)),(.int .u32 (0:Int)),(.slice none 0 0),(.slice none 0 0)])) h21 fun _ h22=>
 K6 () h22)
 (aC (σ:=Bool) (fun s53 h23=>
 Br s53
 (∃a54:Addr,(r37.1.ptr=some a54∧0≤(0:Int)∧(0:Int)<(r37.1.len:Int))∧
 ∃x55:Int,cellOf h23 (a54.add ((0:Int).toNat*1))=some (.int .i64 x55)∧
 ∃a56:Addr,(r37.1.ptr=some a56∧0≤(1:Int)∧(1:Int)<(r37.1.len:Int))∧
 ∃x57:Int,cellOf h23 (a56.add ((1:Int).toNat*1))=some (.int .i64 x57)∧
 aa Tryz.prog (Instr.storeAt 29 a4 (.agg #[(.int .i64 (8:Int)),aL,(.slice none 0 0),x55,x57,(.int .i64 (0:Int)),(.int .u32 (0:Int)),(.slice none 0 0),(.slice none 0 0)])) h23 fun _ h24=>
 (ar.ok [] h24)∧
 K6 () h24)
 (aC (σ:=Bool) (fun s60 h25=>
 Br s60
 (∃a61:Addr,(r37.1.ptr=some a61∧0≤(0:Int)∧(0:Int)<(r37.1.len:Int))∧
 ∃x62:Int,cellOf h25 (a61.add ((0:Int).toNat*1))=some (.int .i64 x62)∧
 aa Tryz.prog (Instr.storeAt 29 a4 (.agg #[(.int .i64 (9:Int)),aL,(.slice none 0 0),x62,(.int .i64 (0:Int)),(.int .i64 (0:Int)),(.int .u32 (0:Int)),(.slice none 0 0),(.slice none 0 0)])) h25 fun _ h26=>
 K6 () h26)
 (aC (σ:=Bool) (fun s65 h27=>
 Br s65
 (∃a66:Addr,(r37.1.ptr=some a66∧0≤(0:Int)∧(0:Int)<(r37.1.len:Int))∧
 ∃x67:Int,cellOf h27 (a66.add ((0:Int).toNat*1))=some (.int .i64 x67)∧
 ∃a68:Addr,(r37.1.ptr=some a68∧0≤(1:Int)∧(1:Int)<(r37.1.len:Int))∧
 ∃x69:Int,cellOf h27 (a68.add ((1:Int).toNat*1))=some (.int .i64 x69)∧
 aa Tryz.prog (Instr.storeAt 29 a4 (.agg #[(.int .i64 (10:Int)),aL,(.slice none 0 0),(.int .i64 (0:Int)),x67,x69,(.int .u32 (0:Int)),(.slice none 0 0),(.slice none 0 0)])) h27 fun _ h28=>
 (ar.ok [] h28)∧
 K6 () h28)
 (aC (σ:=Bool) (fun s72 h29=>
 Br s72
 (∃a73:Addr,(r37.1.ptr=some a73∧0≤(0:Int)∧(0:Int)<(r37.1.len:Int))∧
 ∃x74:Int,cellOf h29 (a73.add ((0:Int).toNat*1))=some (.int .i64 x74)∧
 ∃a75:Addr,(r37.1.ptr=some a75∧0≤(1:Int)∧(1:Int)<(r37.1.len:Int))∧
 ∃x76:Int,cellOf h29 (a75.add ((1:Int).toNat*1))=some (.int .i64 x76)∧
 ∃a77:Addr,(r37.1.ptr=some a77∧0≤(2:Int)∧(2:Int)<(r37.1.len:Int))∧
 ∃x78:Int,cellOf h29 (a77.add ((2:Int).toNat*1))=some (.int .i64 x78)∧
 ∃a79:Addr,(r37.1.ptr=some a79∧0≤(3:Int)∧(3:Int)<(r37.1.len:Int))∧
 ∃x80:Int,cellOf h29 (a79.add ((3:Int).toNat*1))=some (.int .i64 x80)∧
 aa Tryz.prog (Instr.storeAt 29 a4 (.agg #[(.int .i64 (11:Int)),aL,(.slice none 0 0),x74,x76,x78,(.int .u32 (IntKind.wrap .u32 x80)),(.slice none 0 0),(.slice none 0 0)])) h29 fun _ h30=>
 (ar.ok [] h30)∧
 K6 () h30)
 (aC (σ:=Bool) (fun s83 h31=>
 Br s83
 (∃a84:Addr,(r37.1.ptr=some a84∧0≤(0:Int)∧(0:Int)<(r37.1.len:Int))∧
 ∃x85:Int,cellOf h31 (a84.add ((0:Int).toNat*1))=some (.int .i64 x85)∧
 aa Tryz.prog (Instr.storeAt 29 a4 (.agg #[(.int .i64 (12:Int)),aL,(.slice none 0 0),(.int .i64 (0:Int)),x85,(.int .i64 (0:Int)),(.int .u32 (0:Int)),(.slice none 0 0),(.slice none 0 0)])) h31 fun _ h32=>
 K6 () h32)
 (aC (σ:=Bool) (fun s88 h33=>
 Br s88
 (∃a89:Addr,(r37.1.ptr=some a89∧0≤(0:Int)∧(0:Int)<(r37.1.len:Int))∧
 ∃x90:Int,cellOf h33 (a89.add ((0:Int).toNat*1))=some (.int .i64 x90)∧
 aa Tryz.prog (Instr.storeAt 29 a4 (.agg #[(.int .i64 (13:Int)),aL,(.slice none 0 0),(.int .i64 (0:Int)),x90,(.int .i64 (0:Int)),(.int .u32 (0:Int)),(.slice none 0 0),(.slice none 0 0)])) h33 fun _ h34=>
 aR (σ:=Int) (fun s91 K15 h35=>
 Br (decide (s91<(r37.1.len:Int)))
 (∃x92:Sl,cellOf h35 (a4.add 7)=some (.slice x92.ptr x92.len x92.cap)∧
 ∃a93:Addr,(r37.1.ptr=some a93∧0≤s91∧s91<(r37.1.len:Int))∧
 ∃x94:Int,cellOf h35 (a93.add (s91.toNat*1))=some (.int .i64 x94)∧
 ∃x95:Sl,cellOf h35 (a4.add 8)=some (.slice x95.ptr x95.len x95.cap)∧
 ∃a96:Addr,(r37.1.ptr=some a96∧0≤(IntKind.wrap .i64 (s91+1))∧(IntKind.wrap .i64 (s91+1))<(r37.1.len:Int))∧
 ∃x97:Int,cellOf h35 (a96.add ((IntKind.wrap .i64 (s91+1)).toNat*1))=some (.int .i64 x97)∧
 (an Tryz.prog (Instr.buildSlice 22 1 #[(0,x94)]) aK h35 fun v98 h36=>
 (ar.ok [(a96.add ((IntKind.wrap .i64 (s91+1)).toNat*1),x97),(a4.add 8,x95),(a4.add 7,x92)] h36)∧
 (an Tryz.prog (Builtin.append_ #[22,22] 22 #[x92,v98]) aK h36 fun v99 h37=>
 (ar.ok [(a96.add ((IntKind.wrap .i64 (s91+1)).toNat*1),x97),(a4.add 8,x95)] h37)∧
 an Tryz.prog (Instr.buildSlice 22 1 #[(0,x97)]) aK h37 fun v100 h38=>
 (ar.ok [(a4.add 8,x95)] h38)∧
 an Tryz.prog (Builtin.append_ #[22,22] 22 #[x95,v100]) aK h38 fun v101 h39=>
 (ar.ok [] h39)∧
 aa Tryz.prog (Instr.storeAt 22 (a4.add 7) v99) h39 fun _ h40=>
 (ar.ok [] h40)∧
 aa Tryz.prog (Instr.storeAt 22 (a4.add 8) v101) h40 fun _ h41=>
 (ar.ok [] h41)∧
 K15 (IntKind.wrap .i64 (s91+2)) h41)∧(an Tryz.prog (Instr.buildSlice 22 1 #[(0,x97)]) aK h36 fun v102 h42=>
 (ar.ok [(a4.add 8,x95),(a4.add 7,x92)] h42)∧
 an Tryz.prog (Builtin.append_ #[22,22] 22 #[x92,v98]) aK h42 fun v103 h43=>
 (ar.ok [(a4.add 8,x95)] h43)∧
 an Tryz.prog (Builtin.append_ #[22,22] 22 #[x95,v102]) aK h43 fun v104 h44=>
 (ar.ok [] h44)∧
 aa Tryz.prog (Instr.storeAt 22 (a4.add 7) v103) h44 fun _ h45=>
 (ar.ok [] h45)∧
 aa Tryz.prog (Instr.storeAt 22 (a4.add 8) v104) h45 fun _ h46=>
 (ar.ok [] h46)∧
 K15 (IntKind.wrap .i64 (s91+2)) h46))∧(an Tryz.prog (Instr.buildSlice 22 1 #[(0,x97)]) aK h35 fun v105 h47=>
 (ar.ok [(a4.add 8,x95),(a93.add (s91.toNat*1),x94),(a4.add 7,x92)] h47)∧
 an Tryz.prog (Instr.buildSlice 22 1 #[(0,x94)]) aK h47 fun v106 h48=>
 (ar.ok [(a4.add 8,x95),(a4.add 7,x92)] h48)∧
 an Tryz.prog (Builtin.append_ #[22,22] 22 #[x92,v106]) aK h48 fun v107 h49=>
 (ar.ok [(a4.add 8,x95)] h49)∧
 an Tryz.prog (Builtin.append_ #[22,22] 22 #[x95,v105]) aK h49 fun v108 h50=>
 (ar.ok [] h50)∧
 aa Tryz.prog (Instr.storeAt 22 (a4.add 7) v107) h50 fun _ h51=>
 (ar.ok [] h51)∧
 aa Tryz.prog (Instr.storeAt 22 (a4.add 8) v108) h51 fun _ h52=>
 (ar.ok [] h52)∧
 K15 (IntKind.wrap .i64 (s91+2)) h52))
 (K6 () h35)) (1:Int) h34)
 (K6 () h33))
 (fun K14=>
 ∃a86:Addr,(r2.1.ptr=some a86∧0≤(0:Int)∧(0:Int)<(r2.1.len:Int))∧
 ∃x87:ByteArray,cellOf h31 (a86.add ((0:Int).toNat*1))=some (.string x87)∧
 Br (x87.toList==nF.toList) (((2:Int)≠0)∧
 K14 ((Int.tmod (r37.1.len:Int) 2)==1) h31) (K14 false h31))))
 (fun K13=>
 ∃a81:Addr,(r2.1.ptr=some a81∧0≤(0:Int)∧(0:Int)<(r2.1.len:Int))∧
 ∃x82:ByteArray,cellOf h29 (a81.add ((0:Int).toNat*1))=some (.string x82)∧
 Br (x82.toList==oO.toList) (K13 ((r37.1.len:Int)==1) h29) (K13 false h29))))
 (fun K12=>
 ∃a70:Addr,(r2.1.ptr=some a70∧0≤(0:Int)∧(0:Int)<(r2.1.len:Int))∧
 ∃x71:ByteArray,cellOf h27 (a70.add ((0:Int).toNat*1))=some (.string x71)∧
 Br (x71.toList==mB.toList) (K12 ((r37.1.len:Int)==4) h27) (K12 false h27))))
 (fun K11=>
 ∃a63:Addr,(r2.1.ptr=some a63∧0≤(0:Int)∧(0:Int)<(r2.1.len:Int))∧
 ∃x64:ByteArray,cellOf h25 (a63.add ((0:Int).toNat*1))=some (.string x64)∧
 Br (x64.toList==mA.toList) (K11 ((r37.1.len:Int)==2) h25) (K11 false h25))))
 (fun K10=>
 ∃a58:Addr,(r2.1.ptr=some a58∧0≤(0:Int)∧(0:Int)<(r2.1.len:Int))∧
 ∃x59:ByteArray,cellOf h23 (a58.add ((0:Int).toNat*1))=some (.string x59)∧
 Br (x59.toList==nE.toList) (K10 ((r37.1.len:Int)==1) h23) (K10 false h23))))
 (fun K9=>
 ∃a51:Addr,(r2.1.ptr=some a51∧0≤(0:Int)∧(0:Int)<(r2.1.len:Int))∧
 ∃x52:ByteArray,cellOf h21 (a51.add ((0:Int).toNat*1))=some (.string x52)∧
 Br (x52.toList==kp.toList) (K9 ((r37.1.len:Int)==2) h21) (K9 false h21))))
 (fun K8=>
 ∃a46:Addr,(r2.1.ptr=some a46∧0≤(0:Int)∧(0:Int)<(r2.1.len:Int))∧
 ∃x47:ByteArray,cellOf h19 (a46.add ((0:Int).toNat*1))=some (.string x47)∧
 Br (x47.toList==lF.toList) (K8 ((r37.1.len:Int)==1) h19) (K8 false h19))))
 (fun K7=>
 ∃a39:Addr,(r2.1.ptr=some a39∧0≤(0:Int)∧(0:Int)<(r2.1.len:Int))∧
 ∃x40:ByteArray,cellOf h17 (a39.add ((0:Int).toNat*1))=some (.string x40)∧
 Br (x40.toList==oN.toList) (K7 ((r37.1.len:Int)==2) h17) (K7 false h17)))))
 (fun K1=>
 aC (σ:=Bool) (fun s7 h5=>
 Br s7
 (∃a8:Addr,(r2.1.ptr=some a8∧0≤(2:Int)∧(2:Int)<(r2.1.len:Int))∧
 ∃x9:ByteArray,cellOf h5 (a8.add ((2:Int).toNat*1))=some (.string x9)∧
 ac Tryz.prog 25 #[x9] (.many [dD,bR]) h5 fun r10 h6=>
 Br (!r10.2)
 (aa Tryz.prog (Instr.storeAt 29 a1 (.agg #[(.int .i64 (0:Int)),aL,(.slice none 0 0),(.int .i64 (0:Int)),(.int .i64 (0:Int)),(.int .i64 (0:Int)),(.int .u32 (0:Int)),(.slice none 0 0),(.slice none 0 0)])) h6 fun _ h7=>
 ∃res11:bd,ai h7 a1 0 res11∧
 R (.tuple #[res11,false]) h7)
 (∃a12:Addr,(r2.1.ptr=some a12∧0≤(1:Int)∧(1:Int)<(r2.1.len:Int))∧
 ∃x13:ByteArray,cellOf h6 (a12.add ((1:Int).toNat*1))=some (.string x13)∧
 aa Tryz.prog (Instr.storeAt 29 a1 (.agg #[(.int .i64 (1:Int)),x13,r10.1,(.int .i64 (0:Int)),(.int .i64 (0:Int)),(.int .i64 (0:Int)),(.int .u32 (0:Int)),(.slice none 0 0),(.slice none 0 0)])) h6 fun _ h8=>
 ∃res14:bd,ai h8 a1 0 res14∧
 R (.tuple #[res14,true]) h8))
 (aC (σ:=Bool) (fun s17 h9=>
 Br s17
 (∃a18:Addr,(r2.1.ptr=some a18∧0≤(1:Int)∧(1:Int)<(r2.1.len:Int))∧
 ∃x19:ByteArray,cellOf h9 (a18.add ((1:Int).toNat*1))=some (.string x19)∧
 aa Tryz.prog (Instr.storeAt 29 a1 (.agg #[(.int .i64 (2:Int)),x19,(.slice none 0 0),(.int .i64 (0:Int)),(.int .i64 (0:Int)),(.int .i64 (0:Int)),(.int .u32 (0:Int)),(.slice none 0 0),(.slice none 0 0)])) h9 fun _ h10=>
 ∃res20:bd,ai h10 a1 0 res20∧
 R (.tuple #[res20,true]) h10)
 (aC (σ:=Bool) (fun s23 h11=>
 Br s23
 (∃a24:Addr,(r2.1.ptr=some a24∧0≤(1:Int)∧(1:Int)<(r2.1.len:Int))∧
 ∃x25:ByteArray,cellOf h11 (a24.add ((1:Int).toNat*1))=some (.string x25)∧
 aa Tryz.prog (Instr.storeAt 29 a1 (.agg #[(.int .i64 (3:Int)),x25,(.slice none 0 0),(.int .i64 (0:Int)),(.int .i64 (0:Int)),(.int .i64 (0:Int)),(.int .u32 (0:Int)),(.slice none 0 0),(.slice none 0 0)])) h11 fun _ h12=>
 ∃res26:bd,ai h12 a1 0 res26∧
 R (.tuple #[res26,true]) h12)
 (aC (σ:=Bool) (fun s29 h13=>
 Br s29
 (∃a30:Addr,(r2.1.ptr=some a30∧0≤(1:Int)∧(1:Int)<(r2.1.len:Int))∧
 ∃x31:ByteArray,cellOf h13 (a30.add ((1:Int).toNat*1))=some (.string x31)∧
 aa Tryz.prog (Instr.storeAt 29 a1 (.agg #[(.int .i64 (5:Int)),x31,(.slice none 0 0),(.int .i64 (0:Int)),(.int .i64 (0:Int)),(.int .i64 (0:Int)),(.int .u32 (0:Int)),(.slice none 0 0),(.slice none 0 0)])) h13 fun _ h14=>
 ∃res32:bd,ai h14 a1 0 res32∧
 R (.tuple #[res32,true]) h14)
 (∃a33:Addr,(r2.1.ptr=some a33∧0≤(0:Int)∧(0:Int)<(r2.1.len:Int))∧
 ∃x34:ByteArray,cellOf h13 (a33.add ((0:Int).toNat*1))=some (.string x34)∧
 Br (x34.toList==jQ.toList) (Br ((r2.1.len:Int)==1)
 (aa Tryz.prog (Instr.storeAt 29 a1 (.agg #[(.int .i64 (4:Int)),aL,(.slice none 0 0),(.int .i64 (0:Int)),(.int .i64 (0:Int)),(.int .i64 (0:Int)),(.int .u32 (0:Int)),(.slice none 0 0),(.slice none 0 0)])) h13 fun _ h15=>
 ∃res35:bd,ai h15 a1 0 res35∧
 R (.tuple #[res35,true]) h15)
 (K1 () h13)) (K1 () h13)))
 (fun K5=>
 ∃a27:Addr,(r2.1.ptr=some a27∧0≤(0:Int)∧(0:Int)<(r2.1.len:Int))∧
 ∃x28:ByteArray,cellOf h11 (a27.add ((0:Int).toNat*1))=some (.string x28)∧
 Br (x28.toList==hZ.toList) (K5 ((r2.1.len:Int)==2) h11) (K5 false h11))))
 (fun K4=>
 ∃a21:Addr,(r2.1.ptr=some a21∧0≤(0:Int)∧(0:Int)<(r2.1.len:Int))∧
 ∃x22:ByteArray,cellOf h9 (a21.add ((0:Int).toNat*1))=some (.string x22)∧
 Br (x22.toList==js.toList) (K4 ((r2.1.len:Int)==2) h9) (K4 false h9))))
 (fun K3=>
 ∃a15:Addr,(r2.1.ptr=some a15∧0≤(0:Int)∧(0:Int)<(r2.1.len:Int))∧
 ∃x16:ByteArray,cellOf h5 (a15.add ((0:Int).toNat*1))=some (.string x16)∧
 Br (x16.toList==jr.toList) (K3 ((r2.1.len:Int)==2) h5) (K3 false h5))))
 (fun K2=>
 ∃a5:Addr,(r2.1.ptr=some a5∧0≤(0:Int)∧(0:Int)<(r2.1.len:Int))∧
 ∃x6:ByteArray,cellOf h4 (a5.add ((0:Int).toNat*1))=some (.string x6)∧
 Br (x6.toList==qr.toList) (K2 ((r2.1.len:Int)==3) h4) (K2 false h4))))
theorem ic (line_0:ByteArray) (hm: @eK R h line_0):ah Tryz.prog 9 #[line_0] h R:=ay ag Tryz.func9 (.two .n (.two .n (.two .n (.two .n (.two (.join [] [(3,4),(7,9),(19,97)] (.inn (.two (.join [(19,bR)] [(19,29)] .n) (.two .n (.two (.join [(44,bR)] [(44,54)] .n) (.two .n (.two (.join [(58,bR)] [(58,68)] .n) (.two .n (.two (.join [(72,bR)] [(72,82)] .n) .n))))))))) (.two .n (.two .n (.two (.join [] [(10,11),(106,263)] (.inn (.two (.join [(106,bR)] [(106,116)] .n) (.two .n (.two (.join [(123,bR)] [(123,133)] .n) (.two .n (.two (.join [(137,bR)] [(137,147)] .n) (.two .n (.two (.join [(154,bR)] [(154,164)] .n) (.two .n (.two (.join [(168,bR)] [(168,178)] .n) (.two .n (.two (.join [(185,bR)] [(185,195)] .n) (.two .n (.two (.join [(209,bR)] [(209,219)] .n) (.two .n (.two (.join [(223,bR)] [(223,234)] .n) (.two (.two .n (.two .n (.inn (.loop [(10,bi)] [(10,11),(238,263)] .n)))) .n)))))))))))))))))) .n)))))))) hm
abbrev dE:FuncId:=10
noncomputable def dR (a_0:bd) (b_1:bd):Prop:=
 aI Tryz.prog (Instr.box 29 a_0) h fun a1 h1=>
 aI Tryz.prog (Instr.box 29 b_1) h1 fun a2 h2=>
 ∃x3:Int,cellOf h2 a1=some (.int .i64 x3)∧
 ∃x4:Int,cellOf h2 a2=some (.int .i64 x4)∧
 Br (x3==x4) (∃x5:ByteArray,cellOf h2 (a1.add 1)=some (.string x5)∧
 ∃x6:ByteArray,cellOf h2 (a2.add 1)=some (.string x6)∧
 Br (x5.toList==x6.toList) (∃x7:Sl,cellOf h2 (a1.add 2)=some (.slice x7.ptr x7.len x7.cap)∧
 ∃x8:Sl,cellOf h2 (a2.add 2)=some (.slice x8.ptr x8.len x8.cap)∧
 ac Tryz.prog 27 #[x7,x8] cx h2 fun r9 h3=>
 Br r9 (∃x10:Int,cellOf h3 (a1.add 3)=some (.int .i64 x10)∧
 ∃x11:Int,cellOf h3 (a2.add 3)=some (.int .i64 x11)∧
 Br (x10==x11) (∃x12:Int,cellOf h3 (a1.add 4)=some (.int .i64 x12)∧
 ∃x13:Int,cellOf h3 (a2.add 4)=some (.int .i64 x13)∧
 Br (x12==x13) (∃x14:Int,cellOf h3 (a1.add 5)=some (.int .i64 x14)∧
 ∃x15:Int,cellOf h3 (a2.add 5)=some (.int .i64 x15)∧
 Br (x14==x15) (∃x16:Int,cellOf h3 (a1.add 6)=some (.int .u32 x16)∧
 ∃x17:Int,cellOf h3 (a2.add 6)=some (.int .u32 x17)∧
 Br (x16==x17) (∃x18:Sl,cellOf h3 (a1.add 7)=some (.slice x18.ptr x18.len x18.cap)∧
 ∃x19:Sl,cellOf h3 (a2.add 7)=some (.slice x19.ptr x19.len x19.cap)∧
 ac Tryz.prog 28 #[x18,x19] cx h3 fun r20 h4=>
 Br r20 (∃x21:Sl,cellOf h4 (a1.add 8)=some (.slice x21.ptr x21.len x21.cap)∧
 ∃x22:Sl,cellOf h4 (a2.add 8)=some (.slice x22.ptr x22.len x22.cap)∧
 ac Tryz.prog 28 #[x21,x22] cx h4 fun r23 h5=>
 R r23 h5) (R false h4)) (R false h3)) (R false h3)) (R false h3)) (R false h3)) (R false h3)) (R false h2)) (R false h2)
theorem gk (a_0:bd) (b_1:bd) (hm: @dR R h a_0 b_1):ah Tryz.prog 10 #[a_0,b_1] h R:=ay ag Tryz.func10 .n hm
abbrev iF:FuncId:=11
noncomputable def eL (x_0:Int) (n_1:Int):Prop:=
 (n_1≠0)∧
 aC (σ:=Int) (fun s1 h1=>
 R s1 h1)
 (fun K1=>
 Br (decide ((Int.tmod x_0 n_1)<0))
 (K1 (IntKind.wrap .i64 ((Int.tmod x_0 n_1)+n_1)) h)
 (K1 (Int.tmod x_0 n_1) h))
theorem ie (x_0:Int) (n_1:Int) (hm: @eL R h x_0 n_1):ah Tryz.prog 11 #[x_0,n_1] h R:=ay ag Tryz.func11 (.two .n (.two .n (.two (.join [(0,bi)] [(0,1),(8,13)] .n) .n))) hm
abbrev ju:FuncId:=12
noncomputable def kq (m_0:bd) (a_1:qq):Prop:=
 aI Tryz.prog (Instr.box 29 m_0) h fun a1 h1=>
 aI Tryz.prog (Instr.box 38 a_1) h1 fun a2 h2=>
 ∃x3:Int,cellOf h2 a2=some (.int .i64 x3)∧
 Br (x3 !=0)
 (∃x4:Int,cellOf h2 a2=some (.int .i64 x4)∧
 ac Tryz.prog 29 #[x4] (.one bn) h2 fun r5 h3=>
 (((fK.size+r5.size:Nat):Int)≤IntKind.max .i64)∧
 aC (σ:=ByteArray) (fun s9 h5=>
 R s9 h5)
 (fun K1=>
 ∃x6:Int,cellOf h3 a1=some (.int .i64 x6)∧
 Br (x6==10)
 (∃x7:Int,cellOf h3 (a2.add 7)=some (.int .i64 x7)∧
 ac Tryz.prog 29 #[x7] (.one bn) h3 fun r8 h4=>
 (((aJ.size+r8.size:Nat):Int)≤IntKind.max .i64)∧
 ((((fK++r5).size+(aJ++r8).size:Nat):Int)≤IntKind.max .i64)∧
 K1 ((fK++r5)++(aJ++r8)) h4)
 (K1 (fK++r5) h3)))
 (aI Tryz.prog (Instr.alloc 65 true (.tuple #[])) h2 fun a10 h6=>
 aC (σ:=Unit) (fun _ h18=>
 ac Tryz.prog 32 #[a10] (.one bn) h18 fun r35 h19=>
 R r35 h19)
 (fun K2=>
 ∃x11:Int,cellOf h6 a1=some (.int .i64 x11)∧
 Br (x11==2)
 (∃x12:Sl,cellOf h6 (a2.add 1)=some (.slice x12.ptr x12.len x12.cap)∧
 ac Tryz.prog 30 #[x12] (.one bn) h6 fun r13 h7=>
 (((my.size+r13.size:Nat):Int)≤IntKind.max .i64)∧
 R (.string (my++r13)) h7)
 (Br (x11==4)
 (ac Tryz.prog 31 #[a10,mz] (.many [bi,(.sc .any)]) h6 fun _ h8=>
 ∃x15:Sl,cellOf h8 (a2.add 2)=some (.slice x15.ptr x15.len x15.cap)∧
 aR (σ:=Int) (fun s16 K3 h9=>
 Br (decide (s16<(x15.len:Int)))
 (∃a17:Addr,(x15.ptr=some a17∧0≤s16∧s16<(x15.len:Int))∧
 ∃x18:ByteArray,cellOf h9 (a17.add (s16.toNat*1))=some (.string x18)∧
 (((aJ.size+x18.size:Nat):Int)≤IntKind.max .i64)∧
 ac Tryz.prog 31 #[a10,(.string (aJ++x18))] (.many [bi,(.sc .any)]) h9 fun _ h10=>
 K3 (IntKind.wrap .i64 (s16+1)) h10)
 (K2 () h9)) (0:Int) h8)
 (Br (x11==5)
 (ac Tryz.prog 31 #[a10,hZ] (.many [bi,(.sc .any)]) h6 fun _ h11=>
 ∃x21:Int,cellOf h11 (a2.add 3)=some (.int .i64 x21)∧
 ∃x22:Int,cellOf h11 ((a2.add 3).add 1)=some (.int .i64 x22)∧
 ∃x23:Int,cellOf h11 ((a2.add 3).add 2)=some (.int .i64 x23)∧
 an Tryz.prog (Instr.buildSlice 22 3 #[(0,x21),(1,x22),(2,x23)]) aK h11 fun v24 h12=>
 ∃x25:Sl,cellOf h12 ((a2.add 3).add 3)=some (.slice x25.ptr x25.len x25.cap)∧
 an Tryz.prog (Builtin.append_ #[22,22] 22 #[v24,x25]) aK h12 fun v26 h13=>
 aR (σ:=Int) (fun s27 K4 h14=>
 Br (decide (s27<(v26.len:Int)))
 (∃a28:Addr,(v26.ptr=some a28∧0≤s27∧s27<(v26.len:Int))∧
 ∃x29:Int,cellOf h14 (a28.add (s27.toNat*1))=some (.int .i64 x29)∧
 ac Tryz.prog 29 #[x29] (.one bn) h14 fun r30 h15=>
 (((aJ.size+r30.size:Nat):Int)≤IntKind.max .i64)∧
 ac Tryz.prog 31 #[a10,(.string (aJ++r30))] (.many [bi,(.sc .any)]) h15 fun _ h16=>
 K4 (IntKind.wrap .i64 (s27+1)) h16)
 (K2 () h14)) (0:Int) h13)
 (Br (x11==10)
 (∃x32:Int,cellOf h6 (a2.add 7)=some (.int .i64 x32)∧
 ac Tryz.prog 29 #[x32] (.one bn) h6 fun r33 h17=>
 (((lE.size+r33.size:Nat):Int)≤IntKind.max .i64)∧
 R (.string (lE++r33)) h17)
 (R vH h6))))))
theorem nX (m_0:bd) (a_1:qq) (hm: @kq R h m_0 a_1):ah Tryz.prog 12 #[m_0,a_1] h R:=ay ag Tryz.func12 (.two .n (.two (.two .n (.two (.two .n (.two (.join [(5,bn)] [(5,6),(18,27)] .n) .n)) .n)) (.two .n (.two (.join [] [(4,5),(8,9),(10,11),(28,83)] (.two .n (.inn (.two .n (.two .n (.two .n (.two (.two .n (.two .n (.inn (.loop [(42,bi)] [(8,9),(42,50)] .n)))) (.two .n (.two (.two .n (.two .n (.inn (.loop [(68,bi)] [(10,11),(68,77)] .n)))) .n))))))))) .n)))) hm
abbrev jR:FuncId:=14
noncomputable def fk (p_0:fH) (k_1:Int) (a_2:Int) (b_3:Int):Prop:=
 aI Tryz.prog (Instr.box 44 p_0) h fun a1 h1=>
 aI Tryz.prog (Instr.alloc 29 true (.tuple #[])) h1 fun a2 h2=>
 ac Tryz.prog 11 #[k_1,(.int .i64 (26:Int))] bm h2 fun r3 h3=>
 Br (decide (r3<8))
 (((5:Int)≠0)∧
 ∃x4:Int,cellOf h3 a1=some (.int .i64 x4)∧
 ∃x5:Int,cellOf h3 (a1.add 2)=some (.int .i64 x5)∧
 ac Tryz.prog 35 #[a_2] (.one bn) h3 fun r6 h4=>
 (ar.ok [(a1.add 2,x5),(a1,x4)] h4)∧
 ac Tryz.prog 11 #[(IntKind.wrap .i64 (Int.tdiv a_2 5)),(IntKind.wrap .i64 ((IntKind.wrap .i64 ((IntKind.wrap .i64 (3*x4))*x5))+2))] bm h4 fun r7 h5=>
 (ar.ok [(a1.add 2,x5),(a1,x4)] h5)∧
 ac Tryz.prog 36 #[r7,b_3] aK h5 fun r8 h6=>
 (ar.ok [(a1.add 2,x5),(a1,x4)] h6)∧
 aa Tryz.prog (Instr.storeAt 29 a2 (.agg #[(.int .i64 (1:Int)),r6,r8,(.int .i64 (0:Int)),(.int .i64 (0:Int)),(.int .i64 (0:Int)),(.int .u32 (0:Int)),(.slice none 0 0),(.slice none 0 0)])) h6 fun _ h7=>
 (ar.ok [] h7)∧
 ∃res9:bd,ai h7 a2 0 res9∧
 R res9 h7)
 (Br (decide (r3<11))
 (ac Tryz.prog 35 #[a_2] (.one bn) h3 fun r10 h8=>
 aa Tryz.prog (Instr.storeAt 29 a2 (.agg #[(.int .i64 (2:Int)),r10,(.slice none 0 0),(.int .i64 (0:Int)),(.int .i64 (0:Int)),(.int .i64 (0:Int)),(.int .u32 (0:Int)),(.slice none 0 0),(.slice none 0 0)])) h8 fun _ h9=>
 ∃res11:bd,ai h9 a2 0 res11∧
 R res11 h9)
 (Br (decide (r3<13))
 (ac Tryz.prog 35 #[a_2] (.one bn) h3 fun r12 h10=>
 aa Tryz.prog (Instr.storeAt 29 a2 (.agg #[(.int .i64 (3:Int)),r12,(.slice none 0 0),(.int .i64 (0:Int)),(.int .i64 (0:Int)),(.int .i64 (0:Int)),(.int .u32 (0:Int)),(.slice none 0 0),(.slice none 0 0)])) h10 fun _ h11=>
 ∃res13:bd,ai h11 a2 0 res13∧
 R res13 h11)
 (Br (r3==13)
 (aa Tryz.prog (Instr.storeAt 29 a2 (.agg #[(.int .i64 (4:Int)),aL,(.slice none 0 0),(.int .i64 (0:Int)),(.int .i64 (0:Int)),(.int .i64 (0:Int)),(.int .u32 (0:Int)),(.slice none 0 0),(.slice none 0 0)])) h3 fun _ h12=>
 ∃res14:bd,ai h12 a2 0 res14∧
 R res14 h12)
 (Br (r3==14)
 (ac Tryz.prog 35 #[a_2] (.one bn) h3 fun r15 h13=>
 aa Tryz.prog (Instr.storeAt 29 a2 (.agg #[(.int .i64 (5:Int)),r15,(.slice none 0 0),(.int .i64 (0:Int)),(.int .i64 (0:Int)),(.int .i64 (0:Int)),(.int .u32 (0:Int)),(.slice none 0 0),(.slice none 0 0)])) h13 fun _ h14=>
 ∃res16:bd,ai h14 a2 0 res16∧
 R res16 h14)
 (Br (r3==15)
 (ac Tryz.prog 11 #[a_2,(.int .i64 (9:Int))] bm h3 fun r17 h15=>
 ac Tryz.prog 11 #[b_3,(.int .i64 (60:Int))] bm h15 fun r18 h16=>
 aa Tryz.prog (Instr.storeAt 29 a2 (.agg #[(.int .i64 (6:Int)),aL,(.slice none 0 0),r17,(IntKind.wrap .i64 (6+r18)),(.int .i64 (0:Int)),(.int .u32 (0:Int)),(.slice none 0 0),(.slice none 0 0)])) h16 fun _ h17=>
 ∃res19:bd,ai h17 a2 0 res19∧
 R res19 h17)
 (Br (r3==16)
 (ac Tryz.prog 11 #[a_2,(.int .i64 (8:Int))] bm h3 fun r20 h18=>
 aa Tryz.prog (Instr.storeAt 29 a2 (.agg #[(.int .i64 (7:Int)),aL,(.slice none 0 0),r20,(.int .i64 (0:Int)),(.int .i64 (0:Int)),(.int .u32 (0:Int)),(.slice none 0 0),(.slice none 0 0)])) h18 fun _ h19=>
 ∃res21:bd,ai h19 a2 0 res21∧
 R res21 h19)
 (Br (r3==17)
 (ac Tryz.prog 11 #[a_2,(.int .i64 (8:Int))] bm h3 fun r22 h20=>
 ac Tryz.prog 11 #[b_3,(.int .i64 (60:Int))] bm h20 fun r23 h21=>
 aa Tryz.prog (Instr.storeAt 29 a2 (.agg #[(.int .i64 (8:Int)),aL,(.slice none 0 0),r22,(IntKind.wrap .i64 (6+r23)),(.int .i64 (0:Int)),(.int .u32 (0:Int)),(.slice none 0 0),(.slice none 0 0)])) h21 fun _ h22=>
 ∃res24:bd,ai h22 a2 0 res24∧
 R res24 h22)
 (Br (r3==18)
 (ac Tryz.prog 11 #[a_2,(.int .i64 (8:Int))] bm h3 fun r25 h23=>
 aa Tryz.prog (Instr.storeAt 29 a2 (.agg #[(.int .i64 (9:Int)),aL,(.slice none 0 0),r25,(.int .i64 (0:Int)),(.int .i64 (0:Int)),(.int .u32 (0:Int)),(.slice none 0 0),(.slice none 0 0)])) h23 fun _ h24=>
 ∃res26:bd,ai h24 a2 0 res26∧
 R res26 h24)
 (Br (decide (r3<22))
 (ac Tryz.prog 11 #[a_2,(.int .i64 (3:Int))] bm h3 fun r27 h25=>
 ac Tryz.prog 11 #[b_3,(.int .i64 (20:Int))] bm h25 fun r28 h26=>
 aa Tryz.prog (Instr.storeAt 29 a2 (.agg #[(.int .i64 (10:Int)),aL,(.slice none 0 0),(.int .i64 (0:Int)),r27,r28,(.int .u32 (0:Int)),(.slice none 0 0),(.slice none 0 0)])) h26 fun _ h27=>
 ∃res29:bd,ai h27 a2 0 res29∧
 R res29 h27)
 (Br (r3==22)
 (ac Tryz.prog 11 #[a_2,(.int .i64 (9:Int))] bm h3 fun r30 h28=>
 ac Tryz.prog 11 #[b_3,(.int .i64 (70:Int))] bm h28 fun r31 h29=>
 aa Tryz.prog (Instr.storeAt 29 a2 (.agg #[(.int .i64 (10:Int)),aL,(.slice none 0 0),(.int .i64 (0:Int)),(IntKind.wrap .i64 (r30-1)),(IntKind.wrap .i64 (r31-1)),(.int .u32 (0:Int)),(.slice none 0 0),(.slice none 0 0)])) h29 fun _ h30=>
 ∃res32:bd,ai h30 a2 0 res32∧
 R res32 h30)
 (ac Tryz.prog 11 #[a_2,(.int .i64 (7:Int))] bm h3 fun r33 h31=>
 ((7:Int)≠0)∧
 ac Tryz.prog 11 #[(IntKind.wrap .i64 (Int.tdiv a_2 7)),(.int .i64 (40:Int))] bm h31 fun r34 h32=>
 ac Tryz.prog 11 #[b_3,(.int .i64 (61:Int))] bm h32 fun r35 h33=>
 aa Tryz.prog (Instr.storeAt 29 a2 (.agg #[(.int .i64 (11:Int)),aL,(.slice none 0 0),r33,r34,r35,(.int .u32 (IntKind.wrap .u32 ((IntKind.wrap .u32 ((IntKind.wrap .u32 b_3)*2654435761))+(IntKind.wrap .u32 a_2)))),(.slice none 0 0),(.slice none 0 0)])) h33 fun _ h34=>
 ∃res36:bd,ai h34 a2 0 res36∧
 R res36 h34)))))))))))
theorem iY (p_0:fH) (k_1:Int) (a_2:Int) (b_3:Int) (hm: @fk R h p_0 k_1 a_2 b_3):ah Tryz.prog 14 #[p_0,k_1,a_2,b_3] h R:=ay ag Tryz.func14 .n hm
abbrev jS:FuncId:=15
noncomputable def fl (k_0:Int) (a_1:Int) (b_2:Int):Prop:=
 aI Tryz.prog (Instr.alloc 29 true (.tuple #[])) h fun a1 h1=>
 ac Tryz.prog 11 #[k_0,(.int .i64 (3:Int))] bm h1 fun r2 h2=>
 Br (decide (r2>0))
 (ac Tryz.prog 11 #[a_1,(.int .i64 (60:Int))] bm h2 fun r3 h3=>
 aa Tryz.prog (Instr.storeAt 29 a1 (.agg #[(.int .i64 (12:Int)),aL,(.slice none 0 0),(.int .i64 (0:Int)),r3,(.int .i64 (0:Int)),(.int .u32 (0:Int)),(.slice none 0 0),(.slice none 0 0)])) h3 fun _ h4=>
 ∃res4:bd,ai h4 a1 0 res4∧
 R res4 h4)
 (aI Tryz.prog (Instr.alloc 29 true (.tuple #[])) h2 fun a5 h5=>
 aa Tryz.prog (Instr.storeAt 29 a5 (.agg #[(.int .i64 (13:Int)),aL,(.slice none 0 0),(.int .i64 (0:Int)),(.int .i64 (0:Int)),(.int .i64 (0:Int)),(.int .u32 (0:Int)),(.slice none 0 0),(.slice none 0 0)])) h5 fun _ h6=>
 aC (σ:=Unit) (fun _ h10=>
 aR (σ:=Int) (fun s9 K2 h11=>
 Br (decide (s9<9))
 (aC (σ:=Unit) (fun _ h16=>
 ∃x15:Sl,cellOf h16 (a5.add 8)=some (.slice x15.ptr x15.len x15.cap)∧
 (0≤s9)∧
 ac Tryz.prog 11 #[(.int .i64 (Int.fdiv b_2 (2^min s9.toNat (IntKind.bits .i64)))),(.int .i64 (67:Int))] bm h16 fun r16 h17=>
 (ar.ok [(a5.add 8,x15)] h17)∧
 an Tryz.prog (Instr.buildSlice 22 1 #[(0,(IntKind.wrap .i64 (r16-1)))]) aK h17 fun v17 h18=>
 (ar.ok [(a5.add 8,x15)] h18)∧
 an Tryz.prog (Builtin.append_ #[22,22] 22 #[x15,v17]) aK h18 fun v18 h19=>
 (ar.ok [] h19)∧
 aa Tryz.prog (Instr.storeAt 22 (a5.add 8) v18) h19 fun _ h20=>
 (ar.ok [] h20)∧
 K2 (IntKind.wrap .i64 (s9+1)) h20)
 (fun K3=>
 ∃x10:Sl,cellOf h11 (a5.add 7)=some (.slice x10.ptr x10.len x10.cap)∧
 (0≤s9)∧
 ac Tryz.prog 11 #[(.int .i64 (Int.fdiv a_1 (2^min s9.toNat (IntKind.bits .i64)))),(.int .i64 (9:Int))] bm h11 fun r11 h12=>
 (ar.ok [(a5.add 7,x10)] h12)∧
 an Tryz.prog (Instr.buildSlice 22 1 #[(0,(IntKind.wrap .i64 (r11-1)))]) aK h12 fun v12 h13=>
 (ar.ok [(a5.add 7,x10)] h13)∧
 an Tryz.prog (Builtin.append_ #[22,22] 22 #[x10,v12]) aK h13 fun v13 h14=>
 (ar.ok [] h14)∧
 aa Tryz.prog (Instr.storeAt 22 (a5.add 7) v13) h14 fun _ h15=>
 (ar.ok [] h15)∧
 K3 () h15))
 (∃x19:bd,ai h11 a5 0 x19∧
 aa Tryz.prog (Instr.storeAt 29 a1 x19) h11 fun _ h21=>
 ∃res20:bd,ai h21 a1 0 res20∧
 R res20 h21)) (0:Int) h10)
 (fun K1=>
 ac Tryz.prog 11 #[a_1,(.int .i64 (5:Int))] bm h6 fun r6 h7=>
 Br (r6==0)
 (ac Tryz.prog 11 #[b_2,(.int .i64 (12:Int))] bm h7 fun r7 h8=>
 aa Tryz.prog (Instr.storeAt 3 (a5.add 4) r7) h8 fun _ h9=>
 K1 () h9)
 (K1 () h7)))
theorem iZ (k_0:Int) (a_1:Int) (b_2:Int) (hm: @fl R h k_0 a_1 b_2):ah Tryz.prog 15 #[k_0,a_1,b_2] h R:=ay ag Tryz.func15 (.two .n (.two .n (.two .n (.two .n (.two (.join [] [(19,27)] .n) (.two (.two .n (.inn (.loop [(9,bi)] [(9,10),(27,53)] (.two .n (.two (.inn (.two (.join [] [(31,42)] .n) .n)) .n))))) .n)))))) hm
end Go.Qw
