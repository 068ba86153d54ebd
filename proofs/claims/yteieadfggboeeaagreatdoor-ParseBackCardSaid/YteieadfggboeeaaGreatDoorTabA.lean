/- Part of the proofs that the laws of this seat answer true whatever the input reads, and leave it as it was; no condition. -/
import Derived.Test.YteieadfggboeeaaGreatDoorPlA
import Derived.Test.YteieadfggboeeaaGreatDoorProg
set_option linter.unusedVariables false
set_option linter.unusedSimpArgs false
namespace Go.Qw
open Go Go.Vc Go.Proofs
set_option maxRecDepth 1000000
instance:Coe Int Value:=⟨fun x=>.int .i64 x⟩
instance:Coe Sl Value:=⟨fun s=>.slice s.ptr s.len s.cap⟩
instance:Coe ByteArray Value:=⟨.string⟩
instance:Coe (Option Addr) Value:=⟨.pointer⟩
instance:Coe Addr Value:=⟨fun a=>.pointer (some a)⟩
instance:Coe Bool Value:=⟨.bool⟩
instance:Coe (Int×ByteArray×Sl×Int×Int×Int×Int×Sl×Sl) (List Value):=⟨fun x=>[x.1,x.2.1,x.2.2.1,x.2.2.2.1,x.2.2.2.2.1,x.2.2.2.2.2.1,(.int .u32 x.2.2.2.2.2.2.1),x.2.2.2.2.2.2.2.1,x.2.2.2.2.2.2.2.2]⟩
instance:Coe (Int×ByteArray×Sl×Int×Int×Int×Int×Sl×Sl) Value:=⟨fun x=>.agg (List.toArray x)⟩
instance:Coe (Int×Sl×Sl×Int×Int×Int×Sl×Int) (List Value):=⟨fun x=>[x.1,x.2.1,x.2.2.1,x.2.2.2.1,x.2.2.2.2.1,x.2.2.2.2.2.1,x.2.2.2.2.2.2.1,x.2.2.2.2.2.2.2]⟩
instance:Coe (Int×Sl×Sl×Int×Int×Int×Sl×Int) Value:=⟨fun x=>.agg (List.toArray x)⟩
instance:Coe (Int×Int×Int) (List Value):=⟨fun x=>[x.1,x.2.1,x.2.2]⟩
instance:Coe (Int×Int×Int) Value:=⟨fun x=>.agg (List.toArray x)⟩
instance:Coe (Int×Int×Int×Int×Int×Int×Sl×Sl) (List Value):=⟨fun x=>[x.1,x.2.1,x.2.2.1,x.2.2.2.1,x.2.2.2.2.1,x.2.2.2.2.2.1,x.2.2.2.2.2.2.1,x.2.2.2.2.2.2.2]⟩
instance:Coe (Int×Int×Int×Int×Int×Int×Sl×Sl) Value:=⟨fun x=>.agg (List.toArray x)⟩
instance:Coe (Int×Int×Int×Sl) (List Value):=⟨fun x=>[x.1,x.2.1,x.2.2.1,x.2.2.2]⟩
instance:Coe (Int×Int×Int×Sl) Value:=⟨fun x=>.agg (List.toArray x)⟩
instance:Coe (ByteArray×Int×Int×Sl) (List Value):=⟨fun x=>[x.1,x.2.1,x.2.2.1,x.2.2.2]⟩
instance:Coe (ByteArray×Int×Int×Sl) Value:=⟨fun x=>.agg (List.toArray x)⟩
instance:Coe (Int×Sl) (List Value):=⟨fun x=>[x.1,x.2]⟩
instance:Coe (Int×Sl) Value:=⟨fun x=>.agg (List.toArray x)⟩
instance:Coe (Int×Int×Int×Int×Int×Int×Int×Sl) (List Value):=⟨fun x=>[x.1,x.2.1,x.2.2.1,x.2.2.2.1,x.2.2.2.2.1,x.2.2.2.2.2.1,(.int .u32 x.2.2.2.2.2.2.1),x.2.2.2.2.2.2.2]⟩
instance:Coe (Int×Int×Int×Int×Int×Int×Int×Sl) Value:=⟨fun x=>.agg (List.toArray x)⟩
instance:Coe (Sl×Sl) (List Value):=⟨fun x=>[x.1,x.2]⟩
instance:Coe (Sl×Sl) Value:=⟨fun x=>.agg (List.toArray x)⟩
instance:Coe (Sl×Sl×Sl) (List Value):=⟨fun x=>[x.1,x.2.1,x.2.2]⟩
instance:Coe (Sl×Sl×Sl) Value:=⟨fun x=>.agg (List.toArray x)⟩
instance:Coe (Int×Int) (List Value):=⟨fun x=>[x.1,x.2]⟩
instance:Coe (Int×Int) Value:=⟨fun x=>.agg (List.toArray x)⟩
instance:Coe (Int×Int×Int×Sl×Sl) (List Value):=⟨fun x=>[x.1,x.2.1,x.2.2.1,x.2.2.2.1,x.2.2.2.2]⟩
instance:Coe (Int×Int×Int×Sl×Sl) Value:=⟨fun x=>.agg (List.toArray x)⟩
abbrev gK:=Int×Int×Int×Int×Int×Int×Sl×Sl
abbrev fw:=Int×Int×Int
abbrev of:=ByteArray×Int×Int×Sl
abbrev bh:=Int×ByteArray×Sl×Int×Int×Int×Int×Sl×Sl
abbrev pR:=Int×Sl×Sl×Int×Int×Int×Sl×Int
abbrev aR:Rt:=.one (.sc .slc)
abbrev bB:Rt:=.one (.sc (.int .i64))
abbrev xl:Rt:=.one (.sc .ptr)
abbrev cr:Rt:=.one (.sc .bool)
abbrev yx:Rt:=.many []
abbrev eY:Ty:=.sc .slc
abbrev bp:Ty:=.sc (.int .i64)
abbrev zL:Ty:=.sc .ptr
abbrev dM:Ty:=.sc .bool
abbrev bw:Ty:=.sc .str
variable {R:Value→Heap→Prop} {h:Heap}
def wB:ByteArray:=⟨#[97]⟩
def wC:ByteArray:=⟨#[98]⟩
def sJ:ByteArray:=⟨#[99,97,116,45,55]⟩
def wD:ByteArray:=⟨#[100]⟩
def lp:ByteArray:=⟨#[101,49,50,51,52,53,54,55,56,57,48,49]⟩
def ar:ByteArray:=⟨#[48,49,50,51,52,53,54,55,56,57,97,98,99,100,101,102]⟩
def mK:ByteArray:=⟨#[45]⟩
def fy:ByteArray:=⟨#[112,117,116,32]⟩
def kx:ByteArray:=⟨#[103,101,116,32]⟩
def ky:ByteArray:=⟨#[100,101,108,32]⟩
def fz:ByteArray:=⟨#[97,100,100,32]⟩
def gE:ByteArray:=⟨#[114,101,116,105,114,101,32]⟩
def dn:ByteArray:=⟨#[114,101,112,108,97,99,101,32]⟩
def jm:ByteArray:=⟨#[108,111,115,101,32]⟩
def ei:ByteArray:=⟨#[115,99,114,117,98,32]⟩
def bS:ByteArray:=⟨#[115,112,111,105,108,32]⟩
def kA:ByteArray:=⟨#[97,114,109,32]⟩
def jn:ByteArray:=⟨#[102,97,108,108,32]⟩
def jp:ByteArray:=⟨#[115,116,97,116,32]⟩
def fA:ByteArray:=⟨#[101,114,114,111,114,32]⟩
def lU:ByteArray:=⟨#[98,121,116,101,115,32]⟩
def lV:ByteArray:=⟨#[110,97,109,101,115]⟩
def kY:ByteArray:=⟨#[109,105,110,116,101,100,32]⟩
def vt:ByteArray:=⟨#[111,107]⟩
def uk:ByteArray:=⟨#[97,100,100]⟩
def qq:ByteArray:=⟨#[114,101,116,105,114,101]⟩
def pd:ByteArray:=⟨#[114,101,112,108,97,99,101]⟩
def sK:ByteArray:=⟨#[108,111,115,101]⟩
def rC:ByteArray:=⟨#[115,99,114,117,98]⟩
def rD:ByteArray:=⟨#[115,112,111,105,108]⟩
def ul:ByteArray:=⟨#[97,114,109]⟩
def sL:ByteArray:=⟨#[102,97,108,108]⟩
def vu:ByteArray:=⟨#[112,117,116]⟩
def lW:ByteArray:=⟨#[103,101,116]⟩
def lX:ByteArray:=⟨#[100,101,108]⟩
def kB:ByteArray:=⟨#[115,116,97,116]⟩
def na:ByteArray:=⟨#[108,105,115,116]⟩
def aY:ByteArray:=⟨#[]⟩
def fU:ByteArray:=⟨#[115,99,114,117,98,32,49,32,50,48]⟩
def um:ByteArray:=⟨#[108,105,115,116,10]⟩
def sM:ByteArray:=⟨#[110,97,109,101,115,10]⟩
def aB:ByteArray:=⟨#[32]⟩
abbrev aA:Nat:=3
abbrev az:Nat:=5
abbrev bx:Nat:=9
abbrev nv:Nat:=22
abbrev sN:Nat:=25
abbrev bT:Nat:=26
abbrev ai:Nat:=29
abbrev dp:Nat:=38
abbrev cQ:Nat:=44
abbrev qr:Nat:=46
abbrev ay:Nat:=65
abbrev xQ:Nat:=68
abbrev aC:Nat:=73
abbrev nw:Nat:=82
abbrev mO:Nat:=95
abbrev aP:Nat:=98
abbrev aO:Nat:=113
abbrev bL:Nat:=118
abbrev dN:Nat:=121
abbrev qt:Nat:=122
abbrev pe:Nat:=127
abbrev gh:Nat:=157
abbrev bM:Nat:=170
abbrev eQ:Nat:=184
abbrev cE:Nat:=187
abbrev ac:TI:=⟨.fn,(.sc .fn),1,8,[.nilFunc]⟩
abbrev vv:TI:=⟨.int .i64,(.sc (.int .i64)),1,8,[(.int .i64 0)]⟩
abbrev xm:TI:=⟨.int .u8,(.sc (.int .u8)),1,1,[(.int .u8 0)]⟩
abbrev yy:TI:=⟨.str,(.sc .str),1,16,[(.string ⟨#[]⟩)]⟩
abbrev xn:TI:=⟨.int .u64,(.sc (.int .u64)),1,8,[(.int .u64 0)]⟩
abbrev yz:TI:=⟨.other,(.sc .any),1,16,[.nilIface]⟩
abbrev yA:TI:=⟨.int .i32,(.sc (.int .i32)),1,4,[(.int .i32 0)]⟩
abbrev xo:TI:=⟨.struct [(0,3),(1,3),(2,3)],(.agg [(.int .i64),(.int .i64),(.int .i64)]),3,24,[(.int .i64 0),(.int .i64 0),(.int .i64 0)]⟩
abbrev vw:TI:=⟨.other,(.sc .any),1,0,[(.tuple #[(.slice none 0 0),(.bool .false)])]⟩
abbrev xp:TI:=⟨.other,(.sc .any),1,0,[(.tuple #[(.pointer none),(.int .i64 0)])]⟩
abbrev wE:TI:=⟨.mp,(.sc .mp),1,8,[(.map none)]⟩
abbrev wF:TI:=⟨.other,(.sc .any),1,0,[(.tuple #[(.int .i64 0),(.int .i64 0)])]⟩
abbrev wG:TI:=⟨.other,(.sc .any),1,0,[(.tuple #[(.slice none 0 0),(.int .i64 0)])]⟩
abbrev wH:TI:=⟨.array 256 4,(.arr .bool),256,256,List.replicate 256 (.bool .false)⟩
abbrev un:TI:=⟨.struct [(0,3),(1,26)],(.agg [(.int .i64),.slc]),2,32,[(.int .i64 0),(.slice none 0 0)]⟩
noncomputable def xq:cW:=[⟨.other,(.sc .any),1,0,[(.tuple #[])]⟩,ac,vv,vv,⟨.bool,(.sc .bool),1,1,[(.bool .false)]⟩,xm,xm,⟨.struct [(0,2),(1,3),(2,4),(3,6)],(.agg [(.int .i64),(.int .i64),.bool,(.int .u8)]),4,24,[(.int .i64 0),(.int .i64 0),(.bool .false),(.int .u8 0)]⟩,⟨.struct [(0,2),(1,3),(2,4),(3,6)],(.agg [(.int .i64),(.int .i64),.bool,(.int .u8)]),4,24,[(.int .i64 0),(.int .i64 0),(.bool .false),(.int .u8 0)]⟩,yy,yy,yy,xn,⟨.struct [(0,9),(1,12)],(.agg [.str,(.int .u64)]),2,24,[(.string ⟨#[]⟩),(.int .u64 0)]⟩,⟨.struct [(0,9),(1,12)],(.agg [.str,(.int .u64)]),2,24,[(.string ⟨#[]⟩),(.int .u64 0)]⟩,⟨.ptr 502,(.sc .ptr),1,8,[(.pointer none)]⟩,⟨.ptr 505,(.sc .ptr),1,8,[(.pointer none)]⟩,⟨.ptr 512,(.sc .ptr),1,8,[(.pointer none)]⟩,⟨.struct [(0,17)],(.agg [.ptr]),1,8,[(.pointer none)]⟩,⟨.struct [(0,17)],(.agg [.ptr]),1,8,[(.pointer none)]⟩,yz,yA,⟨.slice 3,(.sc .slc),1,24,[(.slice none 0 0)]⟩,ac,ac,⟨.slice 9,(.sc .slc),1,24,[(.slice none 0 0)]⟩,⟨.slice 5,(.sc .slc),1,24,[(.slice none 0 0)]⟩,⟨.int .u32,(.sc (.int .u32)),1,4,[(.int .u32 0)]⟩,⟨.struct [(0,3),(1,9),(2,26),(3,3),(4,3),(5,3),(6,27),(7,22),(8,22)],(.agg [(.int .i64),.str,.slc,(.int .i64),(.int .i64),(.int .i64),(.int .u32),.slc,.slc]),9,128,[(.int .i64 0),(.string ⟨#[]⟩),(.slice none 0 0),(.int .i64 0),(.int .i64 0),(.int .i64 0),(.int .u32 0),(.slice none 0 0),(.slice none 0 0)]⟩,⟨.struct [(0,3),(1,9),(2,26),(3,3),(4,3),(5,3),(6,27),(7,22),(8,22)],(.agg [(.int .i64),.str,.slc,(.int .i64),(.int .i64),(.int .i64),(.int .u32),.slc,.slc]),9,128,[(.int .i64 0),(.string ⟨#[]⟩),(.slice none 0 0),(.int .i64 0),(.int .i64 0),(.int .i64 0),(.int .u32 0),(.slice none 0 0),(.slice none 0 0)]⟩,⟨.other,(.sc .any),1,0,[(.tuple #[(.agg #[(.int .i64 0),(.string ⟨#[]⟩),(.slice none 0 0),(.int .i64 0),(.int .i64 0),(.int .i64 0),(.int .u32 0),(.slice none 0 0),(.slice none 0 0)]),(.bool .false)])]⟩,ac,ac,ac,vv,⟨.struct [(0,3),(1,3),(2,3),(3,22)],(.agg [(.int .i64),(.int .i64),(.int .i64),.slc]),4,48,[(.int .i64 0),(.int .i64 0),(.int .i64 0),(.slice none 0 0)]⟩,⟨.struct [(0,3),(1,3),(2,3),(3,22)],(.agg [(.int .i64),(.int .i64),(.int .i64),.slc]),4,48,[(.int .i64 0),(.int .i64 0),(.int .i64 0),(.slice none 0 0)]⟩,⟨.struct [(0,34),(1,26),(2,25),(3,36),(7,3)],(.agg [(.int .i64),.slc,.slc,(.int .i64),(.int .i64),(.int .i64),.slc,(.int .i64)]),8,112,[(.int .i64 0),(.slice none 0 0),(.slice none 0 0),(.int .i64 0),(.int .i64 0),(.int .i64 0),(.slice none 0 0),(.int .i64 0)]⟩,⟨.struct [(0,34),(1,26),(2,25),(3,36),(7,3)],(.agg [(.int .i64),.slc,.slc,(.int .i64),(.int .i64),(.int .i64),.slc,(.int .i64)]),8,112,[(.int .i64 0),(.slice none 0 0),(.slice none 0 0),(.int .i64 0),(.int .i64 0),(.int .i64 0),(.slice none 0 0),(.int .i64 0)]⟩,ac,ac,ac,ac,xo,xo,ac,⟨.slice 29,(.sc .slc),1,24,[(.slice none 0 0)]⟩,ac,ac,ac,ac,ac,ac,vw,ac,ac,vw,ac,vw,ac,ac,ac,ac,⟨.ptr 65,(.sc .ptr),1,8,[(.pointer none)]⟩,⟨.struct [(0,63),(1,26)],(.agg [.ptr,.slc]),2,32,[(.pointer none),(.slice none 0 0)]⟩,⟨.struct [(0,63),(1,26)],(.agg [.ptr,.slc]),2,32,[(.pointer none),(.slice none 0 0)]⟩,ac,yz,yz,⟨.other,(.sc .any),1,0,[(.tuple #[(.int .i64 0),.nilIface])]⟩,ac,ac,ac,⟨.ptr 98,(.sc .ptr),1,8,[(.pointer none)]⟩,xp,ac,ac,ac,ac,ac,ac,ac,wE,⟨.other,(.sc .any),1,0,[(.tuple #[(.int .i64 0),(.bool .false)])]⟩,ac,ac,ac,ac,⟨.ptr 5,(.sc .ptr),1,8,[(.pointer none)]⟩,xn,⟨.ptr 113,(.sc .ptr),1,8,[(.pointer none)]⟩,ac,⟨.ptr 121,(.sc .ptr),1,8,[(.pointer none)]⟩,xp,ac,⟨.ptr 184,(.sc .ptr),1,8,[(.pointer none)]⟩,⟨.array 64 95,(.arr .ptr),64,512,List.replicate 64 (.pointer none)⟩,⟨.struct [(0,90),(1,92),(2,96)],(.arr .any),66,528,List.replicate 66 (.pointer none)⟩,⟨.struct [(0,90),(1,92),(2,96)],(.arr .any),66,528,List.replicate 66 (.pointer none)⟩,ac,ac,ac,ac,wF,ac,ac,ac,ac,ac,ac,⟨.other,(.sc .any),1,8,[(.pointer none)]⟩,ac,⟨.struct [(0,4),(1,4),(2,3),(3,3)],(.agg [.bool,.bool,(.int .i64),(.int .i64)]),4,24,[(.bool .false),(.bool .false),(.int .i64 0),(.int .i64 0)]⟩,⟨.struct [(0,4),(1,4),(2,3),(3,3)],(.agg [.bool,.bool,(.int .i64),(.int .i64)]),4,24,[(.bool .false),(.bool .false),(.int .i64 0),(.int .i64 0)]⟩,ac,ac,⟨.slice 157,(.sc .slc),1,24,[(.slice none 0 0)]⟩,⟨.struct [(0,3),(1,3),(2,44),(5,3),(6,22),(7,116)],(.agg [(.int .i64),(.int .i64),(.int .i64),(.int .i64),(.int .i64),(.int .i64),.slc,.slc]),8,96,[(.int .i64 0),(.int .i64 0),(.int .i64 0),(.int .i64 0),(.int .i64 0),(.int .i64 0),(.slice none 0 0),(.slice none 0 0)]⟩,⟨.struct [(0,3),(1,3),(2,44),(5,3),(6,22),(7,116)],(.agg [(.int .i64),(.int .i64),(.int .i64),(.int .i64),(.int .i64),(.int .i64),.slc,.slc]),8,96,[(.int .i64 0),(.int .i64 0),(.int .i64 0),(.int .i64 0),(.int .i64 0),(.int .i64 0),(.slice none 0 0),(.slice none 0 0)]⟩,ac,⟨.struct [(0,118),(8,90),(9,3),(10,96)],(.arr .any),74,624,[(.int .i64 0),(.int .i64 0),(.int .i64 0),(.int .i64 0),(.int .i64 0),(.int .i64 0),(.slice none 0 0),(.slice none 0 0),(.pointer none),(.int .i64 0)]++List.replicate 64 (.pointer none)⟩,⟨.struct [(0,118),(8,90),(9,3),(10,96)],(.arr .any),74,624,[(.int .i64 0),(.int .i64 0),(.int .i64 0),(.int .i64 0),(.int .i64 0),(.int .i64 0),(.slice none 0 0),(.slice none 0 0),(.pointer none),(.int .i64 0)]++List.replicate 64 (.pointer none)⟩,⟨.slice 26,(.sc .slc),1,24,[(.slice none 0 0)]⟩,ac,ac,ac,ac,⟨.slice 187,(.sc .slc),1,24,[(.slice none 0 0)]⟩,ac,ac,ac,wG,ac,ac,ac,⟨.other,(.sc .any),1,0,[(.tuple #[(.agg #[(.int .i64 0),(.int .i64 0),(.int .i64 0),(.slice none 0 0)]),(.int .i64 0)])]⟩,ac,ac,ac,ac,ac,ac,ac,ac,ac,⟨.ptr 148,(.sc .ptr),1,8,[(.pointer none)]⟩,⟨.array 64 3,(.arr (.int .i64)),64,512,List.replicate 64 (.int .i64 0)⟩,⟨.struct [(0,92),(1,118),(9,118),(17,22),(18,3),(19,146),(83,127)],(.arr .any),84,768,[(.pointer none),(.int .i64 0),(.int .i64 0),(.int .i64 0),(.int .i64 0),(.int .i64 0),(.int .i64 0),(.slice none 0 0),(.slice none 0 0),(.int .i64 0),(.int .i64 0),(.int .i64 0),(.int .i64 0),(.int .i64 0),(.int .i64 0),(.slice none 0 0),(.slice none 0 0),(.slice none 0 0)]++List.replicate 65 (.int .i64 0)++[(.slice none 0 0)]⟩,⟨.struct [(0,92),(1,118),(9,118),(17,22),(18,3),(19,146),(83,127)],(.arr .any),84,768,[(.pointer none),(.int .i64 0),(.int .i64 0),(.int .i64 0),(.int .i64 0),(.int .i64 0),(.int .i64 0),(.slice none 0 0),(.slice none 0 0),(.int .i64 0),(.int .i64 0),(.int .i64 0),(.int .i64 0),(.int .i64 0),(.int .i64 0),(.slice none 0 0),(.slice none 0 0),(.slice none 0 0)]++List.replicate 65 (.int .i64 0)++[(.slice none 0 0)]⟩,ac,ac,ac,⟨.ptr 154,(.sc .ptr),1,8,[(.pointer none)]⟩,⟨.struct [(0,92),(1,118),(9,22),(10,3),(11,3),(12,3)],(.agg [.ptr,(.int .i64),(.int .i64),(.int .i64),(.int .i64),(.int .i64),(.int .i64),.slc,.slc,.slc,(.int .i64),(.int .i64),(.int .i64)]),13,152,[(.pointer none),(.int .i64 0),(.int .i64 0),(.int .i64 0),(.int .i64 0),(.int .i64 0),(.int .i64 0),(.slice none 0 0),(.slice none 0 0),(.slice none 0 0),(.int .i64 0),(.int .i64 0),(.int .i64 0)]⟩,⟨.struct [(0,92),(1,118),(9,22),(10,3),(11,3),(12,3)],(.agg [.ptr,(.int .i64),(.int .i64),(.int .i64),(.int .i64),(.int .i64),(.int .i64),.slc,.slc,.slc,(.int .i64),(.int .i64),(.int .i64)]),13,152,[(.pointer none),(.int .i64 0),(.int .i64 0),(.int .i64 0),(.int .i64 0),(.int .i64 0),(.int .i64 0),(.slice none 0 0),(.slice none 0 0),(.slice none 0 0),(.int .i64 0),(.int .i64 0),(.int .i64 0)]⟩,ac,⟨.struct [(0,9),(1,3),(2,3),(3,22)],(.agg [.str,(.int .i64),(.int .i64),.slc]),4,56,[(.string ⟨#[]⟩),(.int .i64 0),(.int .i64 0),(.slice none 0 0)]⟩,⟨.struct [(0,9),(1,3),(2,3),(3,22)],(.agg [.str,(.int .i64),(.int .i64),.slc]),4,56,[(.string ⟨#[]⟩),(.int .i64 0),(.int .i64 0),(.slice none 0 0)]⟩,ac,⟨.other,(.sc .any),1,0,[(.tuple #[(.int .i64 0),(.slice none 0 0),(.bool .false)])]⟩,ac,ac,ac,ac,ac,⟨.slice 95,(.sc .slc),1,24,[(.slice none 0 0)]⟩,⟨.other,(.sc .any),1,0,[(.tuple #[(.int .i32 0),(.int .i64 0)])]⟩,ac,ac,wH,wH,⟨.other,(.sc .any),1,0,[(.tuple #[(.agg #[(.bool .false),(.bool .false),(.bool .false),(.bool .false),(.bool .false),(.bool .false),(.bool .false),(.bool .false),(.bool .false),(.bool .false),(.bool .false),(.bool .false),(.bool .false),(.bool .false),(.bool .false),(.bool .false),(.bool .false),(.bool .false),(.bool .false),(.bool .false),(.bool .false),(.bool .false),(.bool .false),(.bool .false),(.bool .false),(.bool .false),(.bool .false),(.bool .false),(.bool .false),(.bool .false),(.bool .false),(.bool .false),(.bool .false),(.bool .false),(.bool .false),(.bool .false),(.bool .false),(.bool .false),(.bool .false),(.bool .false),(.bool .false),(.bool .false),(.bool .false),(.bool .false),(.bool .false),(.bool .false),(.bool .false),(.bool .false),(.bool .false),(.bool .false),(.bool .false),(.bool .false),(.bool .false),(.bool .false),(.bool .false),(.bool .false),(.bool .false),(.bool .false),(.bool .false),(.bool .false),(.bool .false),(.bool .false),(.bool .false),(.bool .false),(.bool .false),(.bool .false),(.bool .false),(.bool .false),(.bool .false),(.bool .false),(.bool .false),(.bool .false),(.bool .false),(.bool .false),(.bool .false),(.bool .false),(.bool .false),(.bool .false),(.bool .false),(.bool .false),(.bool .false),(.bool .false),(.bool .false),(.bool .false),(.bool .false),(.bool .false),(.bool .false),(.bool .false),(.bool .false),(.bool .false),(.bool .false),(.bool .false),(.bool .false),(.bool .false),(.bool .false),(.bool .false),(.bool .false),(.bool .false),(.bool .false),(.bool .false),(.bool .false),(.bool .false),(.bool .false),(.bool .false),(.bool .false),(.bool .false),(.bool .false),(.bool .false),(.bool .false),(.bool .false),(.bool .false),(.bool .false),(.bool .false),(.bool .false),(.bool .false),(.bool .false),(.bool .false),(.bool .false),(.bool .false),(.bool .false),(.bool .false),(.bool .false),(.bool .false),(.bool .false),(.bool .false),(.bool .false),(.bool .false),(.bool .false),(.bool .false),(.bool .false),(.bool .false),(.bool .false),(.bool .false),(.bool .false),(.bool .false),(.bool .false),(.bool .false),(.bool .false),(.bool .false),(.bool .false),(.bool .false),(.bool .false),(.bool .false),(.bool .false),(.bool .false),(.bool .false),(.bool .false),(.bool .false),(.bool .false),(.bool .false),(.bool .false),(.bool .false),(.bool .false),(.bool .false),(.bool .false),(.bool .false),(.bool .false),(.bool .false),(.bool .false),(.bool .false),(.bool .false),(.bool .false),(.bool .false),(.bool .false),(.bool .false),(.bool .false),(.bool .false),(.bool .false),(.bool .false),(.bool .false),(.bool .false),(.bool .false),(.bool .false),(.bool .false),(.bool .false),(.bool .false),(.bool .false),(.bool .false),(.bool .false),(.bool .false),(.bool .false),(.bool .false),(.bool .false),(.bool .false),(.bool .false),(.bool .false),(.bool .false),(.bool .false),(.bool .false),(.bool .false),(.bool .false),(.bool .false),(.bool .false),(.bool .false),(.bool .false),(.bool .false),(.bool .false),(.bool .false),(.bool .false),(.bool .false),(.bool .false),(.bool .false),(.bool .false),(.bool .false),(.bool .false),(.bool .false),(.bool .false),(.bool .false),(.bool .false),(.bool .false),(.bool .false),(.bool .false),(.bool .false),(.bool .false),(.bool .false),(.bool .false),(.bool .false),(.bool .false),(.bool .false),(.bool .false),(.bool .false),(.bool .false),(.bool .false),(.bool .false),(.bool .false),(.bool .false),(.bool .false),(.bool .false),(.bool .false),(.bool .false),(.bool .false),(.bool .false),(.bool .false),(.bool .false),(.bool .false),(.bool .false),(.bool .false),(.bool .false),(.bool .false),(.bool .false),(.bool .false),(.bool .false),(.bool .false),(.bool .false),(.bool .false),(.bool .false),(.bool .false),(.bool .false),(.bool .false),(.bool .false),(.bool .false),(.bool .false),(.bool .false),(.bool .false),(.bool .false),(.bool .false)]),(.bool .false)])]⟩,ac,ac,⟨.ptr 170,(.sc .ptr),1,8,[(.pointer none)]⟩,ac,⟨.array 24 5,(.arr (.int .u8)),24,24,List.replicate 24 (.int .u8 0)⟩,ac,ac,⟨.other,(.sc .any),1,0,[(.tuple #[(.slice none 0 0),(.string ⟨#[]⟩)])]⟩,ac,ac,ac,⟨.struct [(0,90),(1,3),(2,122),(3,3),(4,122),(5,4),(6,4)],(.agg [.ptr,(.int .i64),.slc,(.int .i64),.slc,.bool,.bool]),7,80,[(.pointer none),(.int .i64 0),(.slice none 0 0),(.int .i64 0),(.slice none 0 0),(.bool .false),(.bool .false)]⟩,⟨.struct [(0,90),(1,3),(2,122),(3,3),(4,122),(5,4),(6,4)],(.agg [.ptr,(.int .i64),.slc,(.int .i64),.slc,.bool,.bool]),7,80,[(.pointer none),(.int .i64 0),(.slice none 0 0),(.int .i64 0),(.slice none 0 0),(.bool .false),(.bool .false)]⟩,ac,un,un,ac,ac,ac,ac,vw,ac,ac,ac,ac,ac,ac,⟨.slice 265,(.sc .slc),1,24,[(.slice none 0 0)]⟩,ac,ac,ac,ac,ac,ac,ac,ac,⟨.slice 211,(.sc .slc),1,24,[(.slice none 0 0)]⟩,ac,⟨.struct [(0,3),(1,3),(2,3),(3,44),(6,27),(7,26)],(.agg [(.int .i64),(.int .i64),(.int .i64),(.int .i64),(.int .i64),(.int .i64),(.int .u32),.slc]),8,80,[(.int .i64 0),(.int .i64 0),(.int .i64 0),(.int .i64 0),(.int .i64 0),(.int .i64 0),(.int .u32 0),(.slice none 0 0)]⟩,⟨.struct [(0,3),(1,3),(2,3),(3,44),(6,27),(7,26)],(.agg [(.int .i64),(.int .i64),(.int .i64),(.int .i64),(.int .i64),(.int .i64),(.int .u32),.slc]),8,80,[(.int .i64 0),(.int .i64 0),(.int .i64 0),(.int .i64 0),(.int .i64 0),(.int .i64 0),(.int .u32 0),(.slice none 0 0)]⟩,ac,ac,xn,ac,ac,ac,ac,ac,ac,ac,ac,ac,ac,ac,ac,⟨.ptr 234,(.sc .ptr),1,8,[(.pointer none)]⟩,xp,ac,ac,⟨.ptr 324,(.sc .ptr),1,8,[(.pointer none)]⟩,⟨.slice 22,(.sc .slc),1,24,[(.slice none 0 0)]⟩,⟨.struct [(0,3),(1,3),(2,27),(3,231),(4,232),(5,22)],(.agg [(.int .i64),(.int .i64),(.int .u32),.ptr,.slc,.slc]),6,80,[(.int .i64 0),(.int .i64 0),(.int .u32 0),(.pointer none),(.slice none 0 0),(.slice none 0 0)]⟩,⟨.struct [(0,3),(1,3),(2,27),(3,231),(4,232),(5,22)],(.agg [(.int .i64),(.int .i64),(.int .u32),.ptr,.slc,.slc]),6,80,[(.int .i64 0),(.int .i64 0),(.int .u32 0),(.pointer none),(.slice none 0 0),(.slice none 0 0)]⟩,ac,ac,⟨.other,(.sc .any),1,0,[(.tuple #[(.agg #[(.int .i64 0),(.int .i64 0),(.int .i64 0),(.int .i64 0),(.int .i64 0),(.int .i64 0),(.slice none 0 0),(.slice none 0 0)]),(.bool .false)])]⟩,ac,ac,ac,ac,vv,⟨.other,(.sc .any),1,0,[(.tuple #[(.int .i64 0),.nilIface])]⟩,ac,⟨.ptr 315,(.sc .ptr),1,8,[(.pointer none)]⟩,ac,ac,ac,⟨.array 20 89,(.arr (.int .u64)),20,160,List.replicate 20 (.int .u64 0)⟩,⟨.array 65 5,(.arr (.int .u8)),65,65,List.replicate 65 (.int .u8 0)⟩,ac,ac,ac,ac,xp,ac,ac,ac,ac,ac,ac,ac,ac,un,un,ac,ac,ac,ac,ac,wG,ac,ac,ac,⟨.other,(.sc .any),1,0,[(.tuple #[(.agg #[(.int .i64 0),(.int .i64 0),(.int .i64 0),(.int .i64 0),(.int .i64 0),(.int .i64 0),(.int .u32 0),(.slice none 0 0)]),(.bool .false)])]⟩,ac,ac,ac,ac,ac,ac,ac,vv,wF,ac,ac,ac,ac,ac,ac,ac,wE,xo,xo,ac,ac,ac,ac,⟨.other,(.sc .any),1,0,[(.tuple #[(.slice none 0 0),(.bool .false),(.int .i64 0)])]⟩,ac,ac,ac,⟨.slice 118,(.sc .slc),1,24,[(.slice none 0 0)]⟩,ac,⟨.array 256 5,(.arr (.int .u8)),256,256,List.replicate 256 (.int .u8 0)⟩,⟨.struct [(0,5),(1,5)],(.agg [(.int .u8),(.int .u8)]),2,2,[(.int .u8 0),(.int .u8 0)]⟩,⟨.struct [(0,5),(1,5)],(.agg [(.int .u8),(.int .u8)]),2,2,[(.int .u8 0),(.int .u8 0)]⟩,⟨.array 16 307,(.arr (.int .u8)),32,32,List.replicate 32 (.int .u8 0)⟩,⟨.other,(.sc .any),1,0,[(.tuple #[(.int .u32 0),(.int .u32 0)])]⟩,ac,ac,⟨.other,(.sc .any),1,0,[(.tuple #[(.int .u64 0),.nilIface])]⟩,ac,⟨.struct [(0,9),(1,9),(2,68)],(.agg [.str,.str,.any]),3,48,[(.string ⟨#[]⟩),(.string ⟨#[]⟩),.nilIface]⟩,⟨.struct [(0,9),(1,9),(2,68)],(.agg [.str,.str,.any]),3,48,[(.string ⟨#[]⟩),(.string ⟨#[]⟩),.nilIface]⟩,ac,ac,ac,⟨.ptr 399,(.sc .ptr),1,8,[(.pointer none)]⟩,ac,ac,ac,⟨.struct [(0,44),(3,27),(4,122)],(.agg [(.int .i64),(.int .i64),(.int .i64),(.int .u32),.slc]),5,56,[(.int .i64 0),(.int .i64 0),(.int .i64 0),(.int .u32 0),(.slice none 0 0)]⟩,⟨.struct [(0,44),(3,27),(4,122)],(.agg [(.int .i64),(.int .i64),(.int .i64),(.int .u32),.slc]),5,56,[(.int .i64 0),(.int .i64 0),(.int .i64 0),(.int .u32 0),(.slice none 0 0)]⟩,⟨.cpx,(.sc (.cpx .f64)),1,16,[(.complex Go.FloatKind.f64 0 0)]⟩,ac,⟨.slice 332,(.sc .slc),1,24,[(.slice none 0 0)]⟩,⟨.array 64 4,(.arr .bool),64,64,List.replicate 64 (.bool .false)⟩,⟨.flt,(.sc (.flt .f64)),1,8,[(.float Go.FloatKind.f64 0)]⟩,ac,⟨.struct [(0,3),(1,329)],(.agg [(.int .i64),(.flt .f64)]),2,16,[(.int .i64 0),(.float Go.FloatKind.f64 0)]⟩,⟨.struct [(0,3),(1,329)],(.agg [(.int .i64),(.flt .f64)]),2,16,[(.int .i64 0),(.float Go.FloatKind.f64 0)]⟩,ac,ac,ac,ac,ac,ac,ac,ac,ac,⟨.slice 344,(.sc .slc),1,24,[(.slice none 0 0)]⟩,⟨.struct [(0,22),(1,26)],(.agg [.slc,.slc]),2,48,[(.slice none 0 0),(.slice none 0 0)]⟩,⟨.struct [(0,22),(1,26)],(.agg [.slc,.slc]),2,48,[(.slice none 0 0),(.slice none 0 0)]⟩,⟨.ptr 350,(.sc .ptr),1,8,[(.pointer none)]⟩,⟨.slice 423,(.sc .slc),1,24,[(.slice none 0 0)]⟩,⟨.struct [(0,346),(1,22),(2,22)],(.agg [.slc,.slc,.slc]),3,72,[(.slice none 0 0),(.slice none 0 0),(.slice none 0 0)]⟩,⟨.struct [(0,346),(1,22),(2,22)],(.agg [.slc,.slc,.slc]),3,72,[(.slice none 0 0),(.slice none 0 0),(.slice none 0 0)]⟩,⟨.struct [(0,319),(1,44),(4,122),(5,342),(6,348),(9,122),(10,122)],(.agg [.ptr,(.int .i64),(.int .i64),(.int .i64),.slc,.slc,.slc,.slc,.slc,.slc,.slc]),11,200,[(.pointer none),(.int .i64 0),(.int .i64 0),(.int .i64 0),(.slice none 0 0),(.slice none 0 0),(.slice none 0 0),(.slice none 0 0),(.slice none 0 0),(.slice none 0 0),(.slice none 0 0)]⟩,⟨.struct [(0,319),(1,44),(4,122),(5,342),(6,348),(9,122),(10,122)],(.agg [.ptr,(.int .i64),(.int .i64),(.int .i64),.slc,.slc,.slc,.slc,.slc,.slc,.slc]),11,200,[(.pointer none),(.int .i64 0),(.int .i64 0),(.int .i64 0),(.slice none 0 0),(.slice none 0 0),(.slice none 0 0),(.slice none 0 0),(.slice none 0 0),(.slice none 0 0),(.slice none 0 0)]⟩,⟨.slice 4,(.sc .slc),1,24,[(.slice none 0 0)]⟩,⟨.other,(.sc .any),1,0,[(.tuple #[(.slice none 0 0),(.slice none 0 0),(.slice none 0 0),(.int .i64 0)])]⟩,ac,ac,⟨.other,(.sc .any),1,0,[(.tuple #[(.slice none 0 0),(.slice none 0 0)])]⟩,ac,ac,ac,⟨.ptr 434,(.sc .ptr),1,8,[(.pointer none)]⟩,ac,ac,ac,ac,ac,ac,ac,xn,ac,ac,ac,⟨.ptr 3,(.sc .ptr),1,8,[(.pointer none)]⟩,ac,ac,wG,ac,⟨.ptr 441,(.sc .ptr),1,8,[(.pointer none)]⟩,ac,ac,⟨.slice 122,(.sc .slc),1,24,[(.slice none 0 0)]⟩,ac,ac,ac,ac,ac,⟨.ptr 387,(.sc .ptr),1,8,[(.pointer none)]⟩,⟨.struct [(0,9)],(.agg [.str]),1,16,[(.string ⟨#[]⟩)]⟩,⟨.struct [(0,9)],(.agg [.str]),1,16,[(.string ⟨#[]⟩)]⟩,⟨.array 32 5,(.arr (.int .u8)),32,32,List.replicate 32 (.int .u8 0)⟩,⟨.array 64 5,(.arr (.int .u8)),64,64,List.replicate 64 (.int .u8 0)⟩,ac,ac,ac,ac,⟨.array 255 5,(.arr (.int .u8)),255,255,List.replicate 255 (.int .u8 0)⟩,ac,⟨.array 256 3,(.arr (.int .i64)),256,2048,List.replicate 256 (.int .i64 0)⟩,ac,⟨.struct [(0,394),(255,396)],(.arr .any),511,2304,List.replicate 255 (.int .u8 0)++List.replicate 256 (.int .i64 0)⟩,⟨.struct [(0,394),(255,396)],(.arr .any),511,2304,List.replicate 255 (.int .u8 0)++List.replicate 256 (.int .i64 0)⟩,ac,⟨.ptr 404,(.sc .ptr),1,8,[(.pointer none)]⟩,ac,⟨.struct [(0,325),(1,325),(2,3),(3,3),(4,4)],(.agg [(.cpx .f64),(.cpx .f64),(.int .i64),(.int .i64),.bool]),5,56,[(.complex Go.FloatKind.f64 0 0),(.complex Go.FloatKind.f64 0 0),(.int .i64 0),(.int .i64 0),(.bool .false)]⟩,⟨.struct [(0,325),(1,325),(2,3),(3,3),(4,4)],(.agg [(.cpx .f64),(.cpx .f64),(.int .i64),(.int .i64),.bool]),5,56,[(.complex Go.FloatKind.f64 0 0),(.complex Go.FloatKind.f64 0 0),(.int .i64 0),(.int .i64 0),(.bool .false)]⟩,ac,ac,ac,ac,ac,ac,ac,ac,ac,ac,⟨.ptr 417,(.sc .ptr),1,8,[(.pointer none)]⟩,⟨.struct [(0,342),(1,351),(2,122)],(.agg [.slc,.slc,.slc]),3,72,[(.slice none 0 0),(.slice none 0 0),(.slice none 0 0)]⟩,⟨.struct [(0,342),(1,351),(2,122)],(.agg [.slc,.slc,.slc]),3,72,[(.slice none 0 0),(.slice none 0 0),(.slice none 0 0)]⟩,ac,⟨.other,(.sc .any),1,0,[(.tuple #[(.agg #[(.slice none 0 0),(.slice none 0 0),(.slice none 0 0)]),(.bool .false)])]⟩,ac,ac,⟨.struct [(0,3),(1,3)],(.agg [(.int .i64),(.int .i64)]),2,16,[(.int .i64 0),(.int .i64 0)]⟩,⟨.struct [(0,3),(1,3)],(.agg [(.int .i64),(.int .i64)]),2,16,[(.int .i64 0),(.int .i64 0)]⟩,ac,ac,ac,wH,⟨.other,(.sc .any),1,0,[(.tuple #[(.agg #[(.bool .false),(.bool .false),(.bool .false),(.bool .false),(.bool .false),(.bool .false),(.bool .false),(.bool .false),(.bool .false),(.bool .false),(.bool .false),(.bool .false),(.bool .false),(.bool .false),(.bool .false),(.bool .false),(.bool .false),(.bool .false),(.bool .false),(.bool .false),(.bool .false),(.bool .false),(.bool .false),(.bool .false),(.bool .false),(.bool .false),(.bool .false),(.bool .false),(.bool .false),(.bool .false),(.bool .false),(.bool .false),(.bool .false),(.bool .false),(.bool .false),(.bool .false),(.bool .false),(.bool .false),(.bool .false),(.bool .false),(.bool .false),(.bool .false),(.bool .false),(.bool .false),(.bool .false),(.bool .false),(.bool .false),(.bool .false),(.bool .false),(.bool .false),(.bool .false),(.bool .false),(.bool .false),(.bool .false),(.bool .false),(.bool .false),(.bool .false),(.bool .false),(.bool .false),(.bool .false),(.bool .false),(.bool .false),(.bool .false),(.bool .false),(.bool .false),(.bool .false),(.bool .false),(.bool .false),(.bool .false),(.bool .false),(.bool .false),(.bool .false),(.bool .false),(.bool .false),(.bool .false),(.bool .false),(.bool .false),(.bool .false),(.bool .false),(.bool .false),(.bool .false),(.bool .false),(.bool .false),(.bool .false),(.bool .false),(.bool .false),(.bool .false),(.bool .false),(.bool .false),(.bool .false),(.bool .false),(.bool .false),(.bool .false),(.bool .false),(.bool .false),(.bool .false),(.bool .false),(.bool .false),(.bool .false),(.bool .false),(.bool .false),(.bool .false),(.bool .false),(.bool .false),(.bool .false),(.bool .false),(.bool .false),(.bool .false),(.bool .false),(.bool .false),(.bool .false),(.bool .false),(.bool .false),(.bool .false),(.bool .false),(.bool .false),(.bool .false),(.bool .false),(.bool .false),(.bool .false),(.bool .false),(.bool .false),(.bool .false),(.bool .false),(.bool .false),(.bool .false),(.bool .false),(.bool .false),(.bool .false),(.bool .false),(.bool .false),(.bool .false),(.bool .false),(.bool .false),(.bool .false),(.bool .false),(.bool .false),(.bool .false),(.bool .false),(.bool .false),(.bool .false),(.bool .false),(.bool .false),(.bool .false),(.bool .false),(.bool .false),(.bool .false),(.bool .false),(.bool .false),(.bool .false),(.bool .false),(.bool .false),(.bool .false),(.bool .false),(.bool .false),(.bool .false),(.bool .false),(.bool .false),(.bool .false),(.bool .false),(.bool .false),(.bool .false),(.bool .false),(.bool .false),(.bool .false),(.bool .false),(.bool .false),(.bool .false),(.bool .false),(.bool .false),(.bool .false),(.bool .false),(.bool .false),(.bool .false),(.bool .false),(.bool .false),(.bool .false),(.bool .false),(.bool .false),(.bool .false),(.bool .false),(.bool .false),(.bool .false),(.bool .false),(.bool .false),(.bool .false),(.bool .false),(.bool .false),(.bool .false),(.bool .false),(.bool .false),(.bool .false),(.bool .false),(.bool .false),(.bool .false),(.bool .false),(.bool .false),(.bool .false),(.bool .false),(.bool .false),(.bool .false),(.bool .false),(.bool .false),(.bool .false),(.bool .false),(.bool .false),(.bool .false),(.bool .false),(.bool .false),(.bool .false),(.bool .false),(.bool .false),(.bool .false),(.bool .false),(.bool .false),(.bool .false),(.bool .false),(.bool .false),(.bool .false),(.bool .false),(.bool .false),(.bool .false),(.bool .false),(.bool .false),(.bool .false),(.bool .false),(.bool .false),(.bool .false),(.bool .false),(.bool .false),(.bool .false),(.bool .false),(.bool .false),(.bool .false),(.bool .false),(.bool .false),(.bool .false),(.bool .false),(.bool .false),(.bool .false),(.bool .false),(.bool .false),(.bool .false),(.bool .false),(.bool .false),(.bool .false),(.bool .false),(.bool .false),(.bool .false),(.bool .false),(.bool .false),(.bool .false),(.bool .false),(.bool .false),(.bool .false),(.bool .false)]),(.bool .false)])]⟩,ac,ac,⟨.ptr 427,(.sc .ptr),1,8,[(.pointer none)]⟩,ac,⟨.struct [(0,89)],(.agg [(.int .u64)]),1,8,[(.int .u64 0)]⟩,⟨.struct [(0,89)],(.agg [(.int .u64)]),1,8,[(.int .u64 0)]⟩,ac,ac,⟨.ptr 367,(.sc .ptr),1,8,[(.pointer none)]⟩,wF,ac,⟨.struct [(0,319),(1,3),(2,122)],(.agg [.ptr,(.int .i64),.slc]),3,40,[(.pointer none),(.int .i64 0),(.slice none 0 0)]⟩,⟨.struct [(0,319),(1,3),(2,122)],(.agg [.ptr,(.int .i64),.slc]),3,40,[(.pointer none),(.int .i64 0),(.slice none 0 0)]⟩,ac,ac,ac,ac,ac,ac,⟨.slice 450,(.sc .slc),1,24,[(.slice none 0 0)]⟩,⟨.struct [(0,3),(1,3),(2,3),(3,26),(4,26)],(.agg [(.int .i64),(.int .i64),(.int .i64),.slc,.slc]),5,72,[(.int .i64 0),(.int .i64 0),(.int .i64 0),(.slice none 0 0),(.slice none 0 0)]⟩,⟨.struct [(0,3),(1,3),(2,3),(3,26),(4,26)],(.agg [(.int .i64),(.int .i64),(.int .i64),.slc,.slc]),5,72,[(.int .i64 0),(.int .i64 0),(.int .i64 0),(.slice none 0 0),(.slice none 0 0)]⟩,⟨.other,(.sc .any),1,0,[(.tuple #[(.agg #[(.int .i64 0),(.int .i64 0),(.int .i64 0),(.slice none 0 0),(.slice none 0 0)]),(.bool .false)])]⟩,ac,wE,vw,ac,ac,ac,ac,ac,ac,ac,ac,ac,ac,ac,ac,ac,ac,ac,ac,ac,⟨.ptr 474,(.sc .ptr),1,8,[(.pointer none)]⟩,⟨.struct [(0,232),(1,351),(2,351)],(.agg [.slc,.slc,.slc]),3,72,[(.slice none 0 0),(.slice none 0 0),(.slice none 0 0)]⟩,⟨.struct [(0,232),(1,351),(2,351)],(.agg [.slc,.slc,.slc]),3,72,[(.slice none 0 0),(.slice none 0 0),(.slice none 0 0)]⟩,ac,⟨.other,(.sc .any),1,0,[(.tuple #[(.agg #[(.int .i64 0),(.int .i64 0)]),(.bool .false)])]⟩,ac,ac,ac,ac,ac,ac,ac,ac,ac,ac,ac,ac,ac,ac,ac,ac,ac,⟨.ptr 496,(.sc .ptr),1,8,[(.pointer none)]⟩,⟨.struct [(0,26),(1,4)],(.agg [.slc,.bool]),2,32,[(.slice none 0 0),(.bool .false)]⟩,⟨.struct [(0,26),(1,4)],(.agg [.slc,.bool]),2,32,[(.slice none 0 0),(.bool .false)]⟩,ac,ac,ac,ac,⟨.struct [(0,17),(1,17),(2,17),(3,9)],(.agg [.ptr,.ptr,.ptr,.str]),4,40,[(.pointer none),(.pointer none),(.pointer none),(.string ⟨#[]⟩)]⟩,⟨.struct [(0,17),(1,17),(2,17),(3,9)],(.agg [.ptr,.ptr,.ptr,.str]),4,40,[(.pointer none),(.pointer none),(.pointer none),(.string ⟨#[]⟩)]⟩,⟨.array 0 16,(.arr .ptr),0,0,[]⟩,⟨.struct [(0,503)],(.agg []),0,0,[]⟩,⟨.struct [(0,503)],(.agg []),0,0,[]⟩,xm,xm,ac,yA,yA,⟨.struct [(0,12),(1,12),(2,27),(3,506),(4,5),(5,5),(6,507),(7,508),(8,88),(9,509),(10,510)],(.agg [(.int .u64),(.int .u64),(.int .u32),(.int .u8),(.int .u8),(.int .u8),(.int .u8),.fn,.ptr,(.int .i32),(.int .i32)]),11,48,[(.int .u64 0),(.int .u64 0),(.int .u32 0),(.int .u8 0),(.int .u8 0),(.int .u8 0),(.int .u8 0),.nilFunc,(.pointer none),(.int .i32 0),(.int .i32 0)]⟩,⟨.struct [(0,12),(1,12),(2,27),(3,506),(4,5),(5,5),(6,507),(7,508),(8,88),(9,509),(10,510)],(.agg [(.int .u64),(.int .u64),(.int .u32),(.int .u8),(.int .u8),(.int .u8),(.int .u8),.fn,.ptr,(.int .i32),(.int .i32)]),11,48,[(.int .u64 0),(.int .u64 0),(.int .u32 0),(.int .u8 0),(.int .u8 0),(.int .u8 0),(.int .u8 0),.nilFunc,(.pointer none),(.int .i32 0),(.int .i32 0)]⟩,ac]
noncomputable def C:Ctx:={P:=Tryz.prog,T:=xq,tup:=[(0,[]),(30,[(.agg [(.int .i64),.str,.slc,(.int .i64),(.int .i64),(.int .i64),(.int .u32),.slc,.slc]),(.sc .bool)]),(53,[(.sc .slc),(.sc .bool)]),(56,[(.sc .slc),(.sc .bool)]),(58,[(.sc .slc),(.sc .bool)]),(69,[(.sc (.int .i64)),(.sc .any)]),(74,[(.sc .ptr),(.sc (.int .i64))]),(83,[(.sc (.int .i64)),(.sc .bool)]),(93,[(.sc .ptr),(.sc (.int .i64))]),(103,[(.sc (.int .i64)),(.sc (.int .i64))]),(131,[(.sc .slc),(.sc (.int .i64))]),(135,[(.agg [(.int .i64),(.int .i64),(.int .i64),.slc]),(.sc (.int .i64))]),(159,[(.sc (.int .i64)),(.sc .slc),(.sc .bool)]),(166,[(.sc (.int .i32)),(.sc (.int .i64))]),(171,[(.arr .bool),(.sc .bool)]),(179,[(.sc .slc),(.sc .str)]),(192,[(.sc .slc),(.sc .bool)]),(228,[(.sc .ptr),(.sc (.int .i64))]),(237,[(.agg [(.int .i64),(.int .i64),(.int .i64),(.int .i64),(.int .i64),(.int .i64),.slc,.slc]),(.sc .bool)]),(243,[(.sc (.int .i64)),(.sc .any)]),(255,[(.sc .ptr),(.sc (.int .i64))]),(271,[(.sc .slc),(.sc (.int .i64))]),(275,[(.agg [(.int .i64),(.int .i64),(.int .i64),(.int .i64),(.int .i64),(.int .i64),(.int .u32),.slc]),(.sc .bool)]),(284,[(.sc (.int .i64)),(.sc (.int .i64))]),(299,[(.sc .slc),(.sc .bool),(.sc (.int .i64))]),(309,[(.sc (.int .u32)),(.sc (.int .u32))]),(312,[(.sc (.int .u64)),(.sc .any)]),(352,[(.sc .slc),(.sc .slc),(.sc .slc),(.sc (.int .i64))]),(355,[(.sc .slc),(.sc .slc)]),(374,[(.sc .slc),(.sc (.int .i64))]),(419,[(.agg [.slc,.slc,.slc]),(.sc .bool)]),(428,[(.arr .bool),(.sc .bool)]),(438,[(.sc (.int .i64)),(.sc (.int .i64))]),(451,[(.agg [(.int .i64),(.int .i64),(.int .i64),.slc,.slc]),(.sc .bool)]),(454,[(.sc .slc),(.sc .bool)]),(476,[(.agg [(.int .i64),(.int .i64)]),(.sc .bool)])],fns:=[false,false]++List.replicate 67 true++[false]++List.replicate 46 true++[false]++List.replicate 18 true++[false]++List.replicate 51 true++[false]++List.replicate 259 true++List.replicate 31 false++[true]}
theorem zf:(List.range C.T.length).map (cW.seen C.P)=C.T.map cW.told:=by kernel_rfl
theorem xR:C.P.follows .mixedOrders=true:=by kernel_rfl
theorem zg:(C.P.funcs.toList.map fun f=>!(f.name== "runtime.NumGoroutine")&&f.body.isSome)=C.fns:=by kernel_rfl
theorem af:C.Ok:={xq:=zf,mixed:=xR,fns:=zg}
abbrev gR:FuncId:=32
abbrev fV:FuncId:=48
abbrev dq:FuncId:=5
noncomputable def dv (k_0:Int) (a_1:Int) (b_2:Int):Prop:=
 ae Tryz.prog 14 #[(.agg #[(.int .i64 (2:Int)),(.int .i64 (1:Int)),(.int .i64 (3:Int))]),k_0,a_1,b_2] (.one (.agg [(.int .i64),.str,.slc,(.int .i64),(.int .i64),(.int .i64),(.int .u32),.slc,.slc])) h fun r1 h1=>
 ae Tryz.prog 15 #[k_0,a_1,b_2] (.one (.agg [(.int .i64),.str,.slc,(.int .i64),(.int .i64),(.int .i64),(.int .u32),.slc,.slc])) h1 fun r2 h2=>
 aq Tryz.prog (Instr.buildSlice 46 2 #[(0,r1),(1,r2)]) aR h2 fun v3 h3=>
 aS (σ:=Int) (fun s4 K1 h4=>
 Br (decide (s4<(v3.len:Int)))
 (∃a5:Addr,(v3.ptr=some a5∧0≤s4∧s4<(v3.len:Int))∧
 ∃x6:bh,ah h4 (a5.add (s4.toNat*9)) 0 x6∧
 aG Tryz.prog (Instr.alloc 29 true (.tuple #[])) h4 fun a7 h5=>
 aa Tryz.prog (Instr.storeAt 29 a7 x6) h5 fun _ h6=>
 ∃x8:Int,cellOf h6 (a7.add 6)=some (.int .u32 x8)∧
 ((1000000000:Int)≠0)∧
 aa Tryz.prog (Instr.storeAt 27 (a7.add 6) (.int .u32 (Int.tmod x8 1000000000))) h6 fun _ h7=>
 ∃x9:Int,cellOf h7 (a7.add 4)=some (.int .i64 x9)∧
 ∃x10:Int,cellOf h7 (a7.add 5)=some (.int .i64 x10)∧
 aa Tryz.prog (Instr.storeAt 3 (a7.add 4) (.int .i64 (if(0:Int)>x9 then(0:Int)else x9))) h7 fun _ h8=>
 aa Tryz.prog (Instr.storeAt 3 (a7.add 5) (.int .i64 (if(0:Int)>x10 then(0:Int)else x10))) h8 fun _ h9=>
 ∃x11:Sl,cellOf h9 (a7.add 7)=some (.slice x11.ptr x11.len x11.cap)∧
 aS (σ:=Int) (fun s12 K2 h10=>
 Br (decide (s12<(x11.len:Int)))
 (∃x13:Sl,cellOf h10 (a7.add 7)=some (.slice x13.ptr x13.len x13.cap)∧
 ∃x14:Sl,cellOf h10 (a7.add 8)=some (.slice x14.ptr x14.len x14.cap)∧
 ∃x15:Sl,cellOf h10 (a7.add 7)=some (.slice x15.ptr x15.len x15.cap)∧
 ∃a16:Addr,(x15.ptr=some a16∧0≤s12∧s12<(x15.len:Int))∧
 ∃x17:Int,cellOf h10 (a16.add (s12.toNat*1))=some (.int .i64 x17)∧
 ∃x18:Sl,cellOf h10 (a7.add 8)=some (.slice x18.ptr x18.len x18.cap)∧
 ∃a19:Addr,(x18.ptr=some a19∧0≤s12∧s12<(x18.len:Int))∧
 ∃x20:Int,cellOf h10 (a19.add (s12.toNat*1))=some (.int .i64 x20)∧
 ∃a21:Addr,(x13.ptr=some a21∧0≤s12∧s12<(x13.len:Int))∧
 aa Tryz.prog (Instr.storeAt 3 (a21.add (s12.toNat*1)) (.int .i64 (if(0:Int)>x17 then(0:Int)else x17))) h10 fun _ h11=>
 (au.ok [(a7.add 8,x18),(a7.add 8,x14)] h11)∧
 ∃a22:Addr,(x14.ptr=some a22∧0≤s12∧s12<(x14.len:Int))∧
 aa Tryz.prog (Instr.storeAt 3 (a22.add (s12.toNat*1)) (.int .i64 (if(0:Int)>x20 then(0:Int)else x20))) h11 fun _ h12=>
 (au.ok [] h12)∧
 K2 (IntKind.wrap .i64 (s12+1)) h12)
 (∃x23:bh,ah h10 a7 0 x23∧
 ae Tryz.prog 16 #[x23] (.one bw) h10 fun r24 h13=>
 ae Tryz.prog 8 #[r24] (.many [(.agg [(.int .i64),.str,.slc,(.int .i64),(.int .i64),(.int .i64),(.int .u32),.slc,.slc]),dM]) h13 fun r25 h14=>
 aG Tryz.prog (Instr.alloc 29 true (.tuple #[])) h14 fun a26 h15=>
 aa Tryz.prog (Instr.storeAt 29 a26 r25.1) h15 fun _ h16=>
 (((r24.size+aB.size:Nat):Int)≤IntKind.max .i64)∧
 ae Tryz.prog 8 #[(.string (r24++aB))] (.many [(.agg [(.int .i64),.str,.slc,(.int .i64),(.int .i64),(.int .i64),(.int .u32),.slc,.slc]),dM]) h16 fun r27 h17=>
 aG Tryz.prog (Instr.alloc 29 true (.tuple #[])) h17 fun a28 h18=>
 aa Tryz.prog (Instr.storeAt 29 a28 r27.1) h18 fun _ h19=>
 (((aB.size+r24.size:Nat):Int)≤IntKind.max .i64)∧
 ae Tryz.prog 8 #[(.string (aB++r24))] (.many [(.agg [(.int .i64),.str,.slc,(.int .i64),(.int .i64),(.int .i64),(.int .u32),.slc,.slc]),dM]) h19 fun r29 h20=>
 aG Tryz.prog (Instr.alloc 29 true (.tuple #[])) h20 fun a30 h21=>
 aa Tryz.prog (Instr.storeAt 29 a30 r29.1) h21 fun _ h22=>
 Br (!r25.2) (R false h22) (∃x31:bh,ah h22 a26 0 x31∧
 ∃x32:bh,ah h22 a7 0 x32∧
 ae Tryz.prog 10 #[x31,x32] cr h22 fun r33 h23=>
 Br (!r33) (R false h23) (Br r27.2 (R false h23) (Br r29.2
 (R false h23)
 (K1 (IntKind.wrap .i64 (s4+1)) h23)))))) (0:Int) h9)
 (ae Tryz.prog 6 #[] cr h4 fun r34 h24=>
 R r34 h24)) (0:Int) h3
theorem fJ (k_0:Int) (a_1:Int) (b_2:Int) (hm: @dv R h k_0 a_1 b_2):ag Tryz.prog 5 #[k_0,a_1,b_2] h R:=ax af Tryz.func5 (.two .n (.two (.two .n (.inn (.loop [(28,bp)] [(6,7),(8,17),(28,105)] (.two .n (.two .n (.two (.inn (.two .n (.two .n (.two .n (.two (.two .n (.inn (.loop [(47,bp)] [(9,10),(47,71)] .n))) .n))))) .n)))))) .n)) hm
abbrev ej:FuncId:=6
noncomputable def eB:Prop:=
 ae Tryz.prog 8 #[fU] (.many [(.agg [(.int .i64),.str,.slc,(.int .i64),(.int .i64),(.int .i64),(.int .u32),.slc,.slc]),dM]) h fun r1 h1=>
 aG Tryz.prog (Instr.alloc 29 true (.tuple #[])) h1 fun a2 h2=>
 aa Tryz.prog (Instr.storeAt 29 a2 r1.1) h2 fun _ h3=>
 aq Tryz.prog (Instr.buildSlice 22 1 #[(0,(.int .i64 (5:Int)))]) aR h3 fun v3 h4=>
 ae Tryz.prog 17 #[(.agg #[(.int .i64 (1:Int)),(.int .i64 (1:Int)),(.int .i64 (1:Int))]),(.int .i64 (0:Int)),v3,um] (.one bw) h4 fun r4 h5=>
 Br (r4.toList==sM.toList) (Br r1.2 (∃x5:Int,cellOf h5 (a2.add 4)=some (.int .i64 x5)∧
 Br (x5==1) (∃x6:Int,cellOf h5 (a2.add 5)=some (.int .i64 x6)∧
 R (.bool (x6==20)) h5) (R false h5)) (R false h5)) (R false h5)
theorem gS (hm: @eB R h):ag Tryz.prog 6 #[] h R:=ax af Tryz.func6 .n hm
abbrev cR:FuncId:=8
noncomputable def iP (line_0:ByteArray):Prop:=
 aG Tryz.prog (Instr.alloc 29 true (.tuple #[])) h fun a1 h1=>
 ae Tryz.prog 19 #[line_0,aB] aR h1 fun r2 h2=>
 aS (σ:=Int) (fun s3 K1 h3=>
 Br (decide (s3<(r2.len:Int)))
 (∃a4:Addr,(r2.ptr=some a4∧0≤s3∧s3<(r2.len:Int))∧
 ∃x5:ByteArray,cellOf h3 (a4.add (s3.toNat*1))=some (.string x5)∧
 Br (x5.toList==aY.toList)
 (aa Tryz.prog (Instr.storeAt 29 a1 (.agg #[(.int .i64 (0:Int)),aY,(.slice none 0 0),(.int .i64 (0:Int)),(.int .i64 (0:Int)),(.int .i64 (0:Int)),(.int .u32 (0:Int)),(.slice none 0 0),(.slice none 0 0)])) h3 fun _ h4=>
 ∃res6:bh,ah h4 a1 0 res6∧
 R (.tuple #[res6,false]) h4)
 (K1 (IntKind.wrap .i64 (s3+1)) h3))
 (aK (σ:=Unit) (fun _ h12=>
 (0≤(1:Int)∧(1:Int)≤(r2.len:Int))∧
 ae Tryz.prog 22 #[(.slice (if r2.cap=(1:Int).toNat then r2.ptr else r2.ptr.map (·.add ((1:Int).toNat*1))) (r2.len-(1:Int).toNat) (r2.cap-(1:Int).toNat))] (.many [eY,dM]) h12 fun r17 h13=>
 Br (!r17.2)
 (aa Tryz.prog (Instr.storeAt 29 a1 (.agg #[(.int .i64 (0:Int)),aY,(.slice none 0 0),(.int .i64 (0:Int)),(.int .i64 (0:Int)),(.int .i64 (0:Int)),(.int .u32 (0:Int)),(.slice none 0 0),(.slice none 0 0)])) h13 fun _ h14=>
 ∃res18:bh,ah h14 a1 0 res18∧
 R (.tuple #[res18,false]) h14)
 (∃a19:Addr,(r2.ptr=some a19∧0≤(0:Int)∧(0:Int)<(r2.len:Int))∧
 ∃x20:ByteArray,cellOf h13 (a19.add ((0:Int).toNat*1))=some (.string x20)∧
 ae Tryz.prog 23 #[x20,r17.1] (.many [(.agg [(.int .i64),.str,.slc,(.int .i64),(.int .i64),(.int .i64),(.int .u32),.slc,.slc]),dM]) h13 fun r21 h15=>
 aa Tryz.prog (Instr.storeAt 29 a1 r21.1) h15 fun _ h16=>
 ∃res22:bh,ah h16 a1 0 res22∧
 R (.tuple #[res22,r21.2]) h16))
 (fun K2=>
 ∃a7:Addr,(r2.ptr=some a7∧0≤(0:Int)∧(0:Int)<(r2.len:Int))∧
 ∃x8:ByteArray,cellOf h3 (a7.add ((0:Int).toNat*1))=some (.string x8)∧
 Br (x8.toList==vu.toList)
 (ae Tryz.prog 20 #[r2] (.many [(.agg [(.int .i64),.str,.slc,(.int .i64),(.int .i64),(.int .i64),(.int .u32),.slc,.slc]),dM]) h3 fun r9 h5=>
 aa Tryz.prog (Instr.storeAt 29 a1 r9.1) h5 fun _ h6=>
 ∃res10:bh,ah h6 a1 0 res10∧
 R (.tuple #[res10,r9.2]) h6)
 (aK (σ:=Bool) (fun s11 h7=>
 Br s11
 (ae Tryz.prog 21 #[r2] (.many [(.agg [(.int .i64),.str,.slc,(.int .i64),(.int .i64),(.int .i64),(.int .u32),.slc,.slc]),dM]) h7 fun r12 h8=>
 aa Tryz.prog (Instr.storeAt 29 a1 r12.1) h8 fun _ h9=>
 ∃res13:bh,ah h9 a1 0 res13∧
 R (.tuple #[res13,r12.2]) h9)
 (Br (x8.toList==na.toList)
 (Br ((r2.len:Int)==1)
 (aa Tryz.prog (Instr.storeAt 29 a1 (.agg #[(.int .i64 (4:Int)),aY,(.slice none 0 0),(.int .i64 (0:Int)),(.int .i64 (0:Int)),(.int .i64 (0:Int)),(.int .u32 (0:Int)),(.slice none 0 0),(.slice none 0 0)])) h7 fun _ h10=>
 ∃res14:bh,ah h10 a1 0 res14∧
 R (.tuple #[res14,true]) h10)
 (aa Tryz.prog (Instr.storeAt 29 a1 (.agg #[(.int .i64 (0:Int)),aY,(.slice none 0 0),(.int .i64 (0:Int)),(.int .i64 (0:Int)),(.int .i64 (0:Int)),(.int .u32 (0:Int)),(.slice none 0 0),(.slice none 0 0)])) h7 fun _ h11=>
 ∃res15:bh,ah h11 a1 0 res15∧
 R (.tuple #[res15,false]) h11))
 (K2 () h7)))
 (fun K3=>
 Br (x8.toList==lW.toList)
 (K3 (x8.toList==lW.toList) h3)
 (Br (x8.toList==lX.toList)
 (K3 (x8.toList==lX.toList) h3)
 (K3 (x8.toList==kB.toList) h3))))))) (0:Int) h2
theorem mP (line_0:ByteArray) (hm: @iP R h line_0):ag Tryz.prog 8 #[line_0] h R:=ax af Tryz.func8 (.two .n (.two .n (.two (.two .n (.inn (.loop [(13,bp)] [(3,4),(6,7),(13,21)] .n))) (.two (.join [] [(3,4),(21,45)] (.two .n (.inn (.two .n (.two .n (.two (.join [(30,dM)] [(30,34)] .n) .n)))))) .n)))) hm
abbrev dw:FuncId:=10
noncomputable def dO (a_0:bh) (b_1:bh):Prop:=
 aG Tryz.prog (Instr.box 29 a_0) h fun a1 h1=>
 aG Tryz.prog (Instr.box 29 b_1) h1 fun a2 h2=>
 ∃x3:Int,cellOf h2 a1=some (.int .i64 x3)∧
 ∃x4:Int,cellOf h2 a2=some (.int .i64 x4)∧
 Br (x3==x4) (∃x5:ByteArray,cellOf h2 (a1.add 1)=some (.string x5)∧
 ∃x6:ByteArray,cellOf h2 (a2.add 1)=some (.string x6)∧
 Br (x5.toList==x6.toList) (∃x7:Sl,cellOf h2 (a1.add 2)=some (.slice x7.ptr x7.len x7.cap)∧
 ∃x8:Sl,cellOf h2 (a2.add 2)=some (.slice x8.ptr x8.len x8.cap)∧
 ae Tryz.prog 27 #[x7,x8] cr h2 fun r9 h3=>
 Br r9 (∃x10:Int,cellOf h3 (a1.add 3)=some (.int .i64 x10)∧
 ∃x11:Int,cellOf h3 (a2.add 3)=some (.int .i64 x11)∧
 Br (x10==x11) (∃x12:Int,cellOf h3 (a1.add 4)=some (.int .i64 x12)∧
 ∃x13:Int,cellOf h3 (a2.add 4)=some (.int .i64 x13)∧
 Br (x12==x13) (∃x14:Int,cellOf h3 (a1.add 5)=some (.int .i64 x14)∧
 ∃x15:Int,cellOf h3 (a2.add 5)=some (.int .i64 x15)∧
 Br (x14==x15) (∃x16:Int,cellOf h3 (a1.add 6)=some (.int .u32 x16)∧
 ∃x17:Int,cellOf h3 (a2.add 6)=some (.int .u32 x17)∧
 Br (x16==x17) (∃x18:Sl,cellOf h3 (a1.add 7)=some (.slice x18.ptr x18.len x18.cap)∧
 ∃x19:Sl,cellOf h3 (a2.add 7)=some (.slice x19.ptr x19.len x19.cap)∧
 ae Tryz.prog 28 #[x18,x19] cr h3 fun r20 h4=>
 Br r20 (∃x21:Sl,cellOf h4 (a1.add 8)=some (.slice x21.ptr x21.len x21.cap)∧
 ∃x22:Sl,cellOf h4 (a2.add 8)=some (.slice x22.ptr x22.len x22.cap)∧
 ae Tryz.prog 28 #[x21,x22] cr h4 fun r23 h5=>
 R r23 h5) (R false h4)) (R false h3)) (R false h3)) (R false h3)) (R false h3)) (R false h3)) (R false h2)) (R false h2)
theorem fW (a_0:bh) (b_1:bh) (hm: @dO R h a_0 b_1):ag Tryz.prog 10 #[a_0,b_1] h R:=ax af Tryz.func10 .n hm
abbrev ik:FuncId:=11
noncomputable def eC (x_0:Int) (n_1:Int):Prop:=
 (n_1≠0)∧
 aK (σ:=Int) (fun s1 h1=>
 R s1 h1)
 (fun K1=>
 Br (decide ((Int.tmod x_0 n_1)<0))
 (K1 (IntKind.wrap .i64 ((Int.tmod x_0 n_1)+n_1)) h)
 (K1 (Int.tmod x_0 n_1) h))
theorem gT (x_0:Int) (n_1:Int) (hm: @eC R h x_0 n_1):ag Tryz.prog 11 #[x_0,n_1] h R:=ax af Tryz.func11 (.two .n (.two .n (.two (.join [(0,bp)] [(0,1),(8,13)] .n) .n))) hm
abbrev iQ:FuncId:=12
noncomputable def jN (m_0:bh) (a_1:pR):Prop:=
 aG Tryz.prog (Instr.box 29 m_0) h fun a1 h1=>
 aG Tryz.prog (Instr.box 38 a_1) h1 fun a2 h2=>
 ∃x3:Int,cellOf h2 a2=some (.int .i64 x3)∧
 Br (x3 !=0)
 (∃x4:Int,cellOf h2 a2=some (.int .i64 x4)∧
 ae Tryz.prog 29 #[x4] (.one bw) h2 fun r5 h3=>
 (((fA.size+r5.size:Nat):Int)≤IntKind.max .i64)∧
 aK (σ:=ByteArray) (fun s9 h5=>
 R s9 h5)
 (fun K1=>
 ∃x6:Int,cellOf h3 a1=some (.int .i64 x6)∧
 Br (x6==10)
 (∃x7:Int,cellOf h3 (a2.add 7)=some (.int .i64 x7)∧
 ae Tryz.prog 29 #[x7] (.one bw) h3 fun r8 h4=>
 (((aB.size+r8.size:Nat):Int)≤IntKind.max .i64)∧
 ((((fA++r5).size+(aB++r8).size:Nat):Int)≤IntKind.max .i64)∧
 K1 ((fA++r5)++(aB++r8)) h4)
 (K1 (fA++r5) h3)))
 (aG Tryz.prog (Instr.alloc 65 true (.tuple #[])) h2 fun a10 h6=>
 aK (σ:=Unit) (fun _ h18=>
 ae Tryz.prog 32 #[a10] (.one bw) h18 fun r35 h19=>
 R r35 h19)
 (fun K2=>
 ∃x11:Int,cellOf h6 a1=some (.int .i64 x11)∧
 Br (x11==2)
 (∃x12:Sl,cellOf h6 (a2.add 1)=some (.slice x12.ptr x12.len x12.cap)∧
 ae Tryz.prog 30 #[x12] (.one bw) h6 fun r13 h7=>
 (((lU.size+r13.size:Nat):Int)≤IntKind.max .i64)∧
 R (.string (lU++r13)) h7)
 (Br (x11==4)
 (ae Tryz.prog 31 #[a10,lV] (.many [bp,(.sc .any)]) h6 fun _ h8=>
 ∃x15:Sl,cellOf h8 (a2.add 2)=some (.slice x15.ptr x15.len x15.cap)∧
 aS (σ:=Int) (fun s16 K3 h9=>
 Br (decide (s16<(x15.len:Int)))
 (∃a17:Addr,(x15.ptr=some a17∧0≤s16∧s16<(x15.len:Int))∧
 ∃x18:ByteArray,cellOf h9 (a17.add (s16.toNat*1))=some (.string x18)∧
 (((aB.size+x18.size:Nat):Int)≤IntKind.max .i64)∧
 ae Tryz.prog 31 #[a10,(.string (aB++x18))] (.many [bp,(.sc .any)]) h9 fun _ h10=>
 K3 (IntKind.wrap .i64 (s16+1)) h10)
 (K2 () h9)) (0:Int) h8)
 (Br (x11==5)
 (ae Tryz.prog 31 #[a10,kB] (.many [bp,(.sc .any)]) h6 fun _ h11=>
 ∃x21:Int,cellOf h11 (a2.add 3)=some (.int .i64 x21)∧
 ∃x22:Int,cellOf h11 ((a2.add 3).add 1)=some (.int .i64 x22)∧
 ∃x23:Int,cellOf h11 ((a2.add 3).add 2)=some (.int .i64 x23)∧
 aq Tryz.prog (Instr.buildSlice 22 3 #[(0,x21),(1,x22),(2,x23)]) aR h11 fun v24 h12=>
 ∃x25:Sl,cellOf h12 ((a2.add 3).add 3)=some (.slice x25.ptr x25.len x25.cap)∧
 aq Tryz.prog (Builtin.append_ #[22,22] 22 #[v24,x25]) aR h12 fun v26 h13=>
 aS (σ:=Int) (fun s27 K4 h14=>
 Br (decide (s27<(v26.len:Int)))
 (∃a28:Addr,(v26.ptr=some a28∧0≤s27∧s27<(v26.len:Int))∧
 ∃x29:Int,cellOf h14 (a28.add (s27.toNat*1))=some (.int .i64 x29)∧
 ae Tryz.prog 29 #[x29] (.one bw) h14 fun r30 h15=>
 (((aB.size+r30.size:Nat):Int)≤IntKind.max .i64)∧
 ae Tryz.prog 31 #[a10,(.string (aB++r30))] (.many [bp,(.sc .any)]) h15 fun _ h16=>
 K4 (IntKind.wrap .i64 (s27+1)) h16)
 (K2 () h14)) (0:Int) h13)
 (Br (x11==10)
 (∃x32:Int,cellOf h6 (a2.add 7)=some (.int .i64 x32)∧
 ae Tryz.prog 29 #[x32] (.one bw) h6 fun r33 h17=>
 (((kY.size+r33.size:Nat):Int)≤IntKind.max .i64)∧
 R (.string (kY++r33)) h17)
 (R vt h6))))))
theorem ny (m_0:bh) (a_1:pR) (hm: @jN R h m_0 a_1):ag Tryz.prog 12 #[m_0,a_1] h R:=ax af Tryz.func12 (.two .n (.two (.two .n (.two (.two .n (.two (.join [(5,bw)] [(5,6),(18,27)] .n) .n)) .n)) (.two .n (.two (.join [] [(4,5),(8,9),(10,11),(28,83)] (.two .n (.inn (.two .n (.two .n (.two .n (.two (.two .n (.two .n (.inn (.loop [(42,bp)] [(8,9),(42,50)] .n)))) (.two .n (.two (.two .n (.two .n (.inn (.loop [(68,bp)] [(10,11),(68,77)] .n)))) .n))))))))) .n)))) hm
abbrev jq:FuncId:=14
noncomputable def eZ (p_0:fw) (k_1:Int) (a_2:Int) (b_3:Int):Prop:=
 aG Tryz.prog (Instr.box 44 p_0) h fun a1 h1=>
 aG Tryz.prog (Instr.alloc 29 true (.tuple #[])) h1 fun a2 h2=>
 ae Tryz.prog 11 #[k_1,(.int .i64 (26:Int))] bB h2 fun r3 h3=>
 Br (decide (r3<8))
 (((5:Int)≠0)∧
 ∃x4:Int,cellOf h3 a1=some (.int .i64 x4)∧
 ∃x5:Int,cellOf h3 (a1.add 2)=some (.int .i64 x5)∧
 ae Tryz.prog 35 #[a_2] (.one bw) h3 fun r6 h4=>
 (au.ok [(a1.add 2,x5),(a1,x4)] h4)∧
 ae Tryz.prog 11 #[(IntKind.wrap .i64 (Int.tdiv a_2 5)),(IntKind.wrap .i64 ((IntKind.wrap .i64 ((IntKind.wrap .i64 (3*x4))*x5))+2))] bB h4 fun r7 h5=>
 (au.ok [(a1.add 2,x5),(a1,x4)] h5)∧
 ae Tryz.prog 36 #[r7,b_3] aR h5 fun r8 h6=>
 (au.ok [(a1.add 2,x5),(a1,x4)] h6)∧
 aa Tryz.prog (Instr.storeAt 29 a2 (.agg #[(.int .i64 (1:Int)),r6,r8,(.int .i64 (0:Int)),(.int .i64 (0:Int)),(.int .i64 (0:Int)),(.int .u32 (0:Int)),(.slice none 0 0),(.slice none 0 0)])) h6 fun _ h7=>
 (au.ok [] h7)∧
 ∃res9:bh,ah h7 a2 0 res9∧
 R res9 h7)
 (Br (decide (r3<11))
 (ae Tryz.prog 35 #[a_2] (.one bw) h3 fun r10 h8=>
 aa Tryz.prog (Instr.storeAt 29 a2 (.agg #[(.int .i64 (2:Int)),r10,(.slice none 0 0),(.int .i64 (0:Int)),(.int .i64 (0:Int)),(.int .i64 (0:Int)),(.int .u32 (0:Int)),(.slice none 0 0),(.slice none 0 0)])) h8 fun _ h9=>
 ∃res11:bh,ah h9 a2 0 res11∧
 R res11 h9)
 (Br (decide (r3<13))
 (ae Tryz.prog 35 #[a_2] (.one bw) h3 fun r12 h10=>
 aa Tryz.prog (Instr.storeAt 29 a2 (.agg #[(.int .i64 (3:Int)),r12,(.slice none 0 0),(.int .i64 (0:Int)),(.int .i64 (0:Int)),(.int .i64 (0:Int)),(.int .u32 (0:Int)),(.slice none 0 0),(.slice none 0 0)])) h10 fun _ h11=>
 ∃res13:bh,ah h11 a2 0 res13∧
 R res13 h11)
 (Br (r3==13)
 (aa Tryz.prog (Instr.storeAt 29 a2 (.agg #[(.int .i64 (4:Int)),aY,(.slice none 0 0),(.int .i64 (0:Int)),(.int .i64 (0:Int)),(.int .i64 (0:Int)),(.int .u32 (0:Int)),(.slice none 0 0),(.slice none 0 0)])) h3 fun _ h12=>
 ∃res14:bh,ah h12 a2 0 res14∧
 R res14 h12)
 (Br (r3==14)
 (ae Tryz.prog 35 #[a_2] (.one bw) h3 fun r15 h13=>
 aa Tryz.prog (Instr.storeAt 29 a2 (.agg #[(.int .i64 (5:Int)),r15,(.slice none 0 0),(.int .i64 (0:Int)),(.int .i64 (0:Int)),(.int .i64 (0:Int)),(.int .u32 (0:Int)),(.slice none 0 0),(.slice none 0 0)])) h13 fun _ h14=>
 ∃res16:bh,ah h14 a2 0 res16∧
 R res16 h14)
 (Br (r3==15)
 (ae Tryz.prog 11 #[a_2,(.int .i64 (9:Int))] bB h3 fun r17 h15=>
 ae Tryz.prog 11 #[b_3,(.int .i64 (60:Int))] bB h15 fun r18 h16=>
 aa Tryz.prog (Instr.storeAt 29 a2 (.agg #[(.int .i64 (6:Int)),aY,(.slice none 0 0),r17,(IntKind.wrap .i64 (6+r18)),(.int .i64 (0:Int)),(.int .u32 (0:Int)),(.slice none 0 0),(.slice none 0 0)])) h16 fun _ h17=>
 ∃res19:bh,ah h17 a2 0 res19∧
 R res19 h17)
 (Br (r3==16)
 (ae Tryz.prog 11 #[a_2,(.int .i64 (8:Int))] bB h3 fun r20 h18=>
 aa Tryz.prog (Instr.storeAt 29 a2 (.agg #[(.int .i64 (7:Int)),aY,(.slice none 0 0),r20,(.int .i64 (0:Int)),(.int .i64 (0:Int)),(.int .u32 (0:Int)),(.slice none 0 0),(.slice none 0 0)])) h18 fun _ h19=>
 ∃res21:bh,ah h19 a2 0 res21∧
 R res21 h19)
 (Br (r3==17)
 (ae Tryz.prog 11 #[a_2,(.int .i64 (8:Int))] bB h3 fun r22 h20=>
 ae Tryz.prog 11 #[b_3,(.int .i64 (60:Int))] bB h20 fun r23 h21=>
 aa Tryz.prog (Instr.storeAt 29 a2 (.agg #[(.int .i64 (8:Int)),aY,(.slice none 0 0),r22,(IntKind.wrap .i64 (6+r23)),(.int .i64 (0:Int)),(.int .u32 (0:Int)),(.slice none 0 0),(.slice none 0 0)])) h21 fun _ h22=>
 ∃res24:bh,ah h22 a2 0 res24∧
 R res24 h22)
 (Br (r3==18)
 (ae Tryz.prog 11 #[a_2,(.int .i64 (8:Int))] bB h3 fun r25 h23=>
 aa Tryz.prog (Instr.storeAt 29 a2 (.agg #[(.int .i64 (9:Int)),aY,(.slice none 0 0),r25,(.int .i64 (0:Int)),(.int .i64 (0:Int)),(.int .u32 (0:Int)),(.slice none 0 0),(.slice none 0 0)])) h23 fun _ h24=>
 ∃res26:bh,ah h24 a2 0 res26∧
 R res26 h24)
 (Br (decide (r3<22))
 (ae Tryz.prog 11 #[a_2,(.int .i64 (3:Int))] bB h3 fun r27 h25=>
 ae Tryz.prog 11 #[b_3,(.int .i64 (20:Int))] bB h25 fun r28 h26=>
 aa Tryz.prog (Instr.storeAt 29 a2 (.agg #[(.int .i64 (10:Int)),aY,(.slice none 0 0),(.int .i64 (0:Int)),r27,r28,(.int .u32 (0:Int)),(.slice none 0 0),(.slice none 0 0)])) h26 fun _ h27=>
 ∃res29:bh,ah h27 a2 0 res29∧
 R res29 h27)
 (Br (r3==22)
 (ae Tryz.prog 11 #[a_2,(.int .i64 (9:Int))] bB h3 fun r30 h28=>
 ae Tryz.prog 11 #[b_3,(.int .i64 (70:Int))] bB h28 fun r31 h29=>
 aa Tryz.prog (Instr.storeAt 29 a2 (.agg #[(.int .i64 (10:Int)),aY,(.slice none 0 0),(.int .i64 (0:Int)),(IntKind.wrap .i64 (r30-1)),(IntKind.wrap .i64 (r31-1)),(.int .u32 (0:Int)),(.slice none 0 0),(.slice none 0 0)])) h29 fun _ h30=>
 ∃res32:bh,ah h30 a2 0 res32∧
 R res32 h30)
 (ae Tryz.prog 11 #[a_2,(.int .i64 (7:Int))] bB h3 fun r33 h31=>
 ((7:Int)≠0)∧
 ae Tryz.prog 11 #[(IntKind.wrap .i64 (Int.tdiv a_2 7)),(.int .i64 (40:Int))] bB h31 fun r34 h32=>
 ae Tryz.prog 11 #[b_3,(.int .i64 (61:Int))] bB h32 fun r35 h33=>
 aa Tryz.prog (Instr.storeAt 29 a2 (.agg #[(.int .i64 (11:Int)),aY,(.slice none 0 0),r33,r34,r35,(.int .u32 (IntKind.wrap .u32 ((IntKind.wrap .u32 ((IntKind.wrap .u32 b_3)*2654435761))+(IntKind.wrap .u32 a_2)))),(.slice none 0 0),(.slice none 0 0)])) h33 fun _ h34=>
 ∃res36:bh,ah h34 a2 0 res36∧
 R res36 h34)))))))))))
theorem iB (p_0:fw) (k_1:Int) (a_2:Int) (b_3:Int) (hm: @eZ R h p_0 k_1 a_2 b_3):ag Tryz.prog 14 #[p_0,k_1,a_2,b_3] h R:=ax af Tryz.func14 .n hm
abbrev jr:FuncId:=15
noncomputable def fa (k_0:Int) (a_1:Int) (b_2:Int):Prop:=
 aG Tryz.prog (Instr.alloc 29 true (.tuple #[])) h fun a1 h1=>
 ae Tryz.prog 11 #[k_0,(.int .i64 (3:Int))] bB h1 fun r2 h2=>
 Br (decide (r2>0))
 (ae Tryz.prog 11 #[a_1,(.int .i64 (60:Int))] bB h2 fun r3 h3=>
 aa Tryz.prog (Instr.storeAt 29 a1 (.agg #[(.int .i64 (12:Int)),aY,(.slice none 0 0),(.int .i64 (0:Int)),r3,(.int .i64 (0:Int)),(.int .u32 (0:Int)),(.slice none 0 0),(.slice none 0 0)])) h3 fun _ h4=>
 ∃res4:bh,ah h4 a1 0 res4∧
 R res4 h4)
 (aG Tryz.prog (Instr.alloc 29 true (.tuple #[])) h2 fun a5 h5=>
 aa Tryz.prog (Instr.storeAt 29 a5 (.agg #[(.int .i64 (13:Int)),aY,(.slice none 0 0),(.int .i64 (0:Int)),(.int .i64 (0:Int)),(.int .i64 (0:Int)),(.int .u32 (0:Int)),(.slice none 0 0),(.slice none 0 0)])) h5 fun _ h6=>
 aK (σ:=Unit) (fun _ h10=>
 aS (σ:=Int) (fun s9 K2 h11=>
 Br (decide (s9<9))
 (aK (σ:=Unit) (fun _ h16=>
 ∃x15:Sl,cellOf h16 (a5.add 8)=some (.slice x15.ptr x15.len x15.cap)∧
 (0≤s9)∧
 ae Tryz.prog 11 #[(.int .i64 (Int.fdiv b_2 (2^min s9.toNat (IntKind.bits .i64)))),(.int .i64 (67:Int))] bB h16 fun r16 h17=>
 (au.ok [(a5.add 8,x15)] h17)∧
 aq Tryz.prog (Instr.buildSlice 22 1 #[(0,(IntKind.wrap .i64 (r16-1)))]) aR h17 fun v17 h18=>
 (au.ok [(a5.add 8,x15)] h18)∧
 aq Tryz.prog (Builtin.append_ #[22,22] 22 #[x15,v17]) aR h18 fun v18 h19=>
 (au.ok [] h19)∧
 aa Tryz.prog (Instr.storeAt 22 (a5.add 8) v18) h19 fun _ h20=>
 (au.ok [] h20)∧
 K2 (IntKind.wrap .i64 (s9+1)) h20)
 (fun K3=>
 ∃x10:Sl,cellOf h11 (a5.add 7)=some (.slice x10.ptr x10.len x10.cap)∧
 (0≤s9)∧
 ae Tryz.prog 11 #[(.int .i64 (Int.fdiv a_1 (2^min s9.toNat (IntKind.bits .i64)))),(.int .i64 (9:Int))] bB h11 fun r11 h12=>
 (au.ok [(a5.add 7,x10)] h12)∧
 aq Tryz.prog (Instr.buildSlice 22 1 #[(0,(IntKind.wrap .i64 (r11-1)))]) aR h12 fun v12 h13=>
 (au.ok [(a5.add 7,x10)] h13)∧
 aq Tryz.prog (Builtin.append_ #[22,22] 22 #[x10,v12]) aR h13 fun v13 h14=>
 (au.ok [] h14)∧
 aa Tryz.prog (Instr.storeAt 22 (a5.add 7) v13) h14 fun _ h15=>
 (au.ok [] h15)∧
 K3 () h15))
 (∃x19:bh,ah h11 a5 0 x19∧
 aa Tryz.prog (Instr.storeAt 29 a1 x19) h11 fun _ h21=>
 ∃res20:bh,ah h21 a1 0 res20∧
 R res20 h21)) (0:Int) h10)
 (fun K1=>
 ae Tryz.prog 11 #[a_1,(.int .i64 (5:Int))] bB h6 fun r6 h7=>
 Br (r6==0)
 (ae Tryz.prog 11 #[b_2,(.int .i64 (12:Int))] bB h7 fun r7 h8=>
 aa Tryz.prog (Instr.storeAt 3 (a5.add 4) r7) h8 fun _ h9=>
 K1 () h9)
 (K1 () h7)))
theorem iC (k_0:Int) (a_1:Int) (b_2:Int) (hm: @fa R h k_0 a_1 b_2):ag Tryz.prog 15 #[k_0,a_1,b_2] h R:=ax af Tryz.func15 (.two .n (.two .n (.two .n (.two .n (.two (.join [] [(19,27)] .n) (.two (.two .n (.inn (.loop [(9,bp)] [(9,10),(27,53)] (.two .n (.two (.inn (.two (.join [] [(31,42)] .n) .n)) .n))))) .n)))))) hm
end Go.Qw
