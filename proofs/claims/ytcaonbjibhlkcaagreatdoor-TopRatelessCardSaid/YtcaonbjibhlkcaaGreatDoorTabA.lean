/- Lemmas for the proof of the law; no condition. -/
import Derived.Test.YtcaonbjibhlkcaaGreatDoorPlA
import Derived.Test.YtcaonbjibhlkcaaGreatDoorProg
set_option linter.unusedVariables false
open Go.Proofs.Tryz renaming prog -> xv
open Go.Value renaming agg -> xp, bool -> xo, int -> xk, pointer -> xm, slice -> xl, string -> xn
open Go.IntKind renaming bits -> qk, i64 -> xq, u32 -> xt, u64 -> xu, u8 -> xr, wrap -> qc
open List renaming replicate -> qg, toArray -> yh
open Go.Instr renaming alloc -> qP, box -> qH, build -> ve, buildSlice -> qt, makeSlice -> qB, storeAt -> qf
open Go.Builtin renaming append_ -> qq
open Option renaming isNone -> q9
open Int renaming tmod -> zZ
open BitVec renaming ofInt -> qu
open Go.Proofs.Tryz
set_option maxRecDepth 1000000
namespace Go.Qw
noncomputable section
open Go Go.Vc Go.Proofs
instance:Coe Int Value:=⟨fun x=>xk xq x⟩
instance:Coe Sl Value:=⟨fun s=>xl s.ptr s.len s.cap⟩
instance:Coe ByteArray Value:=⟨.string⟩
instance:Coe (Option Addr) Value:=⟨.pointer⟩
instance:Coe Addr Value:=⟨fun a=>xm (some a)⟩
instance:Coe Bool Value:=⟨.bool⟩
instance:Coe (Int×Int×Int) (List Value):=⟨fun x=>[x.1,x.2.1,x.2.2]⟩
instance:Coe (Int×Int×Int) Value:=⟨fun x=>xp (yh x)⟩
instance:Coe (Int×Sl) (List Value):=⟨fun x=>[x.1,x.2]⟩
instance:Coe (Int×Sl) Value:=⟨fun x=>xp (yh x)⟩
instance:Coe (Int×ByteArray×Sl×Int×Int×Int×Int×Sl×Sl) (List Value):=⟨fun x=>[x.1,x.2.1,x.2.2.1,x.2.2.2.1,x.2.2.2.2.1,x.2.2.2.2.2.1,(xk xt x.2.2.2.2.2.2.1),x.2.2.2.2.2.2.2.1,x.2.2.2.2.2.2.2.2]⟩
instance:Coe (Int×ByteArray×Sl×Int×Int×Int×Int×Sl×Sl) Value:=⟨fun x=>xp (yh x)⟩
instance:Coe (Int×Sl×Sl×Int×Int×Int×Sl×Int) (List Value):=⟨fun x=>[x.1,x.2.1,x.2.2.1,x.2.2.2.1,x.2.2.2.2.1,x.2.2.2.2.2.1,x.2.2.2.2.2.2.1,x.2.2.2.2.2.2.2]⟩
instance:Coe (Int×Sl×Sl×Int×Int×Int×Sl×Int) Value:=⟨fun x=>xp (yh x)⟩
instance:Coe (Int×Int×Int×Int×Int×Int×Sl×Sl) (List Value):=⟨fun x=>[x.1,x.2.1,x.2.2.1,x.2.2.2.1,x.2.2.2.2.1,x.2.2.2.2.2.1,x.2.2.2.2.2.2.1,x.2.2.2.2.2.2.2]⟩
instance:Coe (Int×Int×Int×Int×Int×Int×Sl×Sl) Value:=⟨fun x=>xp (yh x)⟩
instance:Coe (Int×Int×Int×Sl) (List Value):=⟨fun x=>[x.1,x.2.1,x.2.2.1,x.2.2.2]⟩
instance:Coe (Int×Int×Int×Sl) Value:=⟨fun x=>xp (yh x)⟩
instance:Coe (ByteArray×Int×Int×Sl) (List Value):=⟨fun x=>[x.1,x.2.1,x.2.2.1,x.2.2.2]⟩
instance:Coe (ByteArray×Int×Int×Sl) Value:=⟨fun x=>xp (yh x)⟩
instance:Coe (Int×Int×Int×Int×Int×Int×Int×Sl) (List Value):=⟨fun x=>[x.1,x.2.1,x.2.2.1,x.2.2.2.1,x.2.2.2.2.1,x.2.2.2.2.2.1,(xk xt x.2.2.2.2.2.2.1),x.2.2.2.2.2.2.2]⟩
instance:Coe (Int×Int×Int×Int×Int×Int×Int×Sl) Value:=⟨fun x=>xp (yh x)⟩
instance:Coe (Sl×Sl) (List Value):=⟨fun x=>[x.1,x.2]⟩
instance:Coe (Sl×Sl) Value:=⟨fun x=>xp (yh x)⟩
instance:Coe (Sl×Sl×Sl) (List Value):=⟨fun x=>[x.1,x.2.1,x.2.2]⟩
instance:Coe (Sl×Sl×Sl) Value:=⟨fun x=>xp (yh x)⟩
instance:Coe (Int×Int) (List Value):=⟨fun x=>[x.1,x.2]⟩
instance:Coe (Int×Int) Value:=⟨fun x=>xp (yh x)⟩
instance:Coe (Int×Int×Int×Sl×Sl) (List Value):=⟨fun x=>[x.1,x.2.1,x.2.2.1,x.2.2.2.1,x.2.2.2.2]⟩
instance:Coe (Int×Int×Int×Sl×Sl) Value:=⟨fun x=>xp (yh x)⟩
abbrev di:=Int×Int×Int×Int×Int×Int×Sl×Sl
abbrev jq:=ByteArray×Int×Int×Sl
abbrev bm:=Int×Int×Int
abbrev eF:=Int×Int×Int×Int×Int×Int×Int×Sl
abbrev Qu:=Int×ByteArray×Sl×Int×Int×Int×Int×Sl×Sl
abbrev Tu6:=Sl×Int×Int
abbrev Tu8:=Int×Int×Int×Bool×Bool
abbrev VN:Rt:=.one (.agg [(.int .i64),(.int .i64),(.int .i64),(.int .i64),(.int .i64),(.int .i64),.slc,.slc])
abbrev afY:Rt:=.one (.agg [(.int .i64),(.int .i64),(.int .i64)])
abbrev aK:Rt:=.one (.sc .slc)
abbrev bB:Rt:=.one (.sc (.int .i64))
abbrev mL:Rt:=.one (.sc .ptr)
abbrev bJ:Rt:=.one (.sc .bool)
abbrev ic:Rt:=.many []
abbrev ca:Ty:=.sc .slc
abbrev aS:Ty:=.sc (.int .i64)
abbrev Nr:Ty:=.sc .ptr
abbrev lL:Ty:=.sc .bool
abbrev tyT:Ty:=.sc .str
variable {R:Cu} {h:Heap}
def Yn:ByteArray:=⟨#[0]⟩
def rf:ByteArray:=⟨#[97]⟩
def aeA:ByteArray:=⟨#[]⟩
def Ns:ByteArray:=⟨#[97,98,99]⟩
abbrev aN:TI:=⟨.fn,(.sc .fn),1,8,[.nilFunc]⟩
abbrev ti1:TI:=⟨.int .i64,(.sc (.int .i64)),1,8,[(xk xq 0)]⟩
abbrev ti2:TI:=⟨.int .u8,(.sc (.int .u8)),1,1,[(xk xr 0)]⟩
abbrev ti3:TI:=⟨.str,(.sc .str),1,16,[(.string ⟨#[]⟩)]⟩
abbrev ti4:TI:=⟨.int .u64,(.sc (.int .u64)),1,8,[(xk xu 0)]⟩
abbrev ti5:TI:=⟨.int .i32,(.sc (.int .i32)),1,4,[(.int .i32 0)]⟩
abbrev ti6:TI:=⟨.struct [(0,3),(1,3),(2,3)],(.agg [(.int .i64),(.int .i64),(.int .i64)]),3,24,[(xk xq 0),(xk xq 0),(xk xq 0)]⟩
abbrev ti7:TI:=⟨.other,(.sc .any),1,0,[(.tuple #[(xm none),(xk xq 0)])]⟩
abbrev ti8:TI:=⟨.other,(.sc .any),1,0,[(.tuple #[(xl none 0 0),(xk xq 0)])]⟩
abbrev ti9:TI:=⟨.struct [(0,3),(1,23)],(.agg [(.int .i64),.slc]),2,32,[(xk xq 0),(xl none 0 0)]⟩
abbrev aaQ:TI:=⟨.other,(.sc .any),1,0,[(.tuple #[(xk xq 0),(xk xq 0)])]⟩
abbrev VO:TI:=⟨.other,(.sc .any),1,0,[(.tuple #[(xl none 0 0),(.bool .false)])]⟩
abbrev VP:TI:=⟨.struct [(0,198)],(.agg [(.int .u64)]),1,8,[(xk xu 0)]⟩
abbrev aeE:TI:=⟨.struct [(0,2),(1,3),(2,4),(3,6)],(.agg [(.int .i64),(.int .i64),.bool,(.int .u8)]),4,24,[(xk xq 0),(xk xq 0),(.bool .false),(xk xr 0)]⟩
abbrev aeF:TI:=⟨.struct [(0,9),(1,12)],(.agg [.str,(.int .u64)]),2,24,[(xn ⟨#[]⟩),(xk xu 0)]⟩
abbrev aeG:TI:=⟨.struct [(0,17)],(.agg [.ptr]),1,8,[(xm none)]⟩
abbrev aeH:TI:=⟨.struct [(0,25),(3,27),(4,49)],(.agg [(.int .i64),(.int .i64),(.int .i64),(.int .u32),.slc]),5,56,[(xk xq 0),(xk xq 0),(xk xq 0),(xk xt 0),(xl none 0 0)]⟩
abbrev aeI:TI:=⟨.struct [(0,25),(3,27),(4,58)],(.agg [(.int .i64),(.int .i64),(.int .i64),(.int .u32),.slc]),5,56,[(xk xq 0),(xk xq 0),(xk xq 0),(xk xt 0),(xl none 0 0)]⟩
abbrev aeJ:TI:=⟨.struct [(0,3),(1,3),(2,3),(3,38)],(.agg [(.int .i64),(.int .i64),(.int .i64),.slc]),4,48,[(xk xq 0),(xk xq 0),(xk xq 0),(xl none 0 0)]⟩
abbrev aeK:TI:=⟨.struct [(0,31),(1,23),(2,64),(3,66),(7,3)],(.agg [(.int .i64),.slc,.slc,(.int .i64),(.int .i64),(.int .i64),.slc,(.int .i64)]),8,112,[(xk xq 0),(xl none 0 0),(xl none 0 0),(xk xq 0),(xk xq 0),(xk xq 0),(xl none 0 0),(xk xq 0)]⟩
abbrev aeL:TI:=⟨.struct [(0,3),(1,9),(2,23),(3,3),(4,3),(5,3),(6,27),(7,38),(8,38)],(.agg [(.int .i64),.str,.slc,(.int .i64),(.int .i64),(.int .i64),(.int .u32),.slc,.slc]),9,128,[(xk xq 0),(xn ⟨#[]⟩),(xl none 0 0),(xk xq 0),(xk xq 0),(xk xq 0),(xk xt 0),(xl none 0 0),(xl none 0 0)]⟩
abbrev aeM:TI:=⟨.struct [(0,87),(255,89)],(.arr .any),511,2304,qg 255 (xk xr 0)++qg 256 (xk xq 0)⟩
abbrev aeN:TI:=⟨.struct [(0,95),(1,97),(2,101)],(.arr .any),66,528,qg 66 (xm none)⟩
abbrev aci:TI:=⟨.struct [(0,4),(1,4),(2,3),(3,3)],(.agg [.bool,.bool,(.int .i64),(.int .i64)]),4,24,[(.bool .false),(.bool .false),(xk xq 0),(xk xq 0)]⟩
abbrev acj:TI:=⟨.struct [(0,3),(1,3),(2,25),(5,3),(6,38),(7,134)],(.agg [(.int .i64),(.int .i64),(.int .i64),(.int .i64),(.int .i64),(.int .i64),.slc,.slc]),8,96,[(xk xq 0),(xk xq 0),(xk xq 0),(xk xq 0),(xk xq 0),(xk xq 0),(xl none 0 0),(xl none 0 0)]⟩
abbrev ack:TI:=⟨.struct [(0,136),(8,95),(9,3),(10,101)],(.arr .any),74,624,[(xk xq 0),(xk xq 0),(xk xq 0),(xk xq 0),(xk xq 0),(xk xq 0),(xl none 0 0),(xl none 0 0),(xm none),(xk xq 0)]++qg 64 (xm none)⟩
abbrev acl:TI:=⟨.struct [(0,97),(1,136),(9,136),(17,38),(18,3),(19,159),(83,143)],(.arr .any),84,768,[(xm none),(xk xq 0),(xk xq 0),(xk xq 0),(xk xq 0),(xk xq 0),(xk xq 0),(xl none 0 0),(xl none 0 0),(xk xq 0),(xk xq 0),(xk xq 0),(xk xq 0),(xk xq 0),(xk xq 0),(xl none 0 0),(xl none 0 0),(xl none 0 0)]++qg 65 (xk xq 0)++[(xl none 0 0)]⟩
abbrev acm:TI:=⟨.struct [(0,97),(1,136),(9,38),(10,3),(11,3),(12,3)],(.agg [.ptr,(.int .i64),(.int .i64),(.int .i64),(.int .i64),(.int .i64),(.int .i64),.slc,.slc,.slc,(.int .i64),(.int .i64),(.int .i64)]),13,152,[(xm none),(xk xq 0),(xk xq 0),(xk xq 0),(xk xq 0),(xk xq 0),(xk xq 0),(xl none 0 0),(xl none 0 0),(xl none 0 0),(xk xq 0),(xk xq 0),(xk xq 0)]⟩
abbrev acn:TI:=⟨.struct [(0,9),(1,3),(2,3),(3,38)],(.agg [.str,(.int .i64),(.int .i64),.slc]),4,56,[(xn ⟨#[]⟩),(xk xq 0),(xk xq 0),(xl none 0 0)]⟩
abbrev aco:TI:=⟨.struct [(0,38),(1,23)],(.agg [.slc,.slc]),2,48,[(xl none 0 0),(xl none 0 0)]⟩
abbrev acp:TI:=⟨.struct [(0,185),(1,38),(2,38)],(.agg [.slc,.slc,.slc]),3,72,[(xl none 0 0),(xl none 0 0),(xl none 0 0)]⟩
abbrev acq:TI:=⟨.struct [(0,52),(1,25),(4,49),(5,181),(6,187),(9,49),(10,49)],(.agg [.ptr,(.int .i64),(.int .i64),(.int .i64),.slc,.slc,.slc,.slc,.slc,.slc,.slc]),11,200,[(xm none),(xk xq 0),(xk xq 0),(xk xq 0),(xl none 0 0),(xl none 0 0),(xl none 0 0),(xl none 0 0),(xl none 0 0),(xl none 0 0),(xl none 0 0)]⟩
abbrev acr:TI:=⟨.struct [(0,95),(1,3),(2,49),(3,3),(4,49),(5,4),(6,4)],(.agg [.ptr,(.int .i64),.slc,(.int .i64),.slc,.bool,.bool]),7,80,[(xm none),(xk xq 0),(xl none 0 0),(xk xq 0),(xl none 0 0),(.bool .false),(.bool .false)]⟩
abbrev acs:TI:=⟨.struct [(0,3),(1,3),(2,3),(3,25),(6,27),(7,23)],(.agg [(.int .i64),(.int .i64),(.int .i64),(.int .i64),(.int .i64),(.int .i64),(.int .u32),.slc]),8,80,[(xk xq 0),(xk xq 0),(xk xq 0),(xk xq 0),(xk xq 0),(xk xq 0),(xk xt 0),(xl none 0 0)]⟩
abbrev act:TI:=⟨.struct [(0,3),(1,3),(2,27),(3,30),(4,252),(5,38)],(.agg [(.int .i64),(.int .i64),(.int .u32),.ptr,.slc,.slc]),6,80,[(xk xq 0),(xk xq 0),(xk xt 0),(xm none),(xl none 0 0),(xl none 0 0)]⟩
abbrev acu:TI:=⟨.struct [(0,181),(1,190),(2,49)],(.agg [.slc,.slc,.slc]),3,72,[(xl none 0 0),(xl none 0 0),(xl none 0 0)]⟩
abbrev acv:TI:=⟨.struct [(0,3),(1,3)],(.agg [(.int .i64),(.int .i64)]),2,16,[(xk xq 0),(xk xq 0)]⟩
abbrev acw:TI:=⟨.array 256 4,(.arr .bool),256,256,qg 256 (.bool .false)⟩
abbrev acx:TI:=⟨.mp,(.sc .mp),1,8,[(.map none)]⟩
abbrev acy:TI:=⟨.struct [(0,252),(1,190),(2,190)],(.agg [.slc,.slc,.slc]),3,72,[(xl none 0 0),(xl none 0 0),(xl none 0 0)]⟩
abbrev acz:TI:=⟨.struct [(0,3),(1,345)],(.agg [(.int .i64),(.flt .f64)]),2,16,[(xk xq 0),(.float Go.FloatKind.f64 0)]⟩
abbrev acA:TI:=⟨.struct [(0,341),(1,341),(2,3),(3,3),(4,4)],(.agg [(.cpx .f64),(.cpx .f64),(.int .i64),(.int .i64),.bool]),5,56,[(.complex Go.FloatKind.f64 0 0),(.complex Go.FloatKind.f64 0 0),(xk xq 0),(xk xq 0),(.bool .false)]⟩
abbrev acB:TI:=⟨.struct [(0,52),(1,3),(2,49)],(.agg [.ptr,(.int .i64),.slc]),3,40,[(xm none),(xk xq 0),(xl none 0 0)]⟩
abbrev acC:TI:=⟨.struct [(0,3),(1,3),(2,3),(3,23),(4,23)],(.agg [(.int .i64),(.int .i64),(.int .i64),.slc,.slc]),5,72,[(xk xq 0),(xk xq 0),(xk xq 0),(xl none 0 0),(xl none 0 0)]⟩
abbrev acD:TI:=⟨.struct [(0,5),(1,5)],(.agg [(.int .u8),(.int .u8)]),2,2,[(xk xr 0),(xk xr 0)]⟩
abbrev acE:TI:=⟨.struct [(0,23),(1,4)],(.agg [.slc,.bool]),2,32,[(xl none 0 0),(.bool .false)]⟩
abbrev acF:TI:=⟨.struct [(0,17),(1,17),(2,17),(3,9)],(.agg [.ptr,.ptr,.ptr,.str]),4,40,[(xm none),(xm none),(xm none),(xn ⟨#[]⟩)]⟩
abbrev acG:TI:=⟨.struct [(0,442)],(.agg []),0,0,[]⟩
abbrev acH:TI:=⟨.struct [(0,12),(1,12),(2,27),(3,445),(4,5),(5,5),(6,446),(7,447),(8,355),(9,448),(10,449)],(.agg [(.int .u64),(.int .u64),(.int .u32),(.int .u8),(.int .u8),(.int .u8),(.int .u8),.fn,.ptr,(.int .i32),(.int .i32)]),11,48,[(xk xu 0),(xk xu 0),(xk xt 0),(xk xr 0),(xk xr 0),(xk xr 0),(xk xr 0),.nilFunc,(xm none),(.int .i32 0),(.int .i32 0)]⟩
def tbl:jx:=[⟨.other,(.sc .any),1,0,[(.tuple #[])]⟩,aN,ti1,ti1,⟨.bool,(.sc .bool),1,1,[(.bool .false)]⟩,ti2,ti2,aeE,aeE,ti3,ti3,ti3,ti4,aeF,aeF,⟨.ptr 441,(.sc .ptr),1,8,[(xm none)]⟩,⟨.ptr 444,(.sc .ptr),1,8,[(xm none)]⟩,⟨.ptr 451,(.sc .ptr),1,8,[(xm none)]⟩,aeG,aeG,⟨.other,(.sc .any),1,16,[.nilIface]⟩,ti5,ti4,⟨.slice 5,(.sc .slc),1,24,[(xl none 0 0)]⟩,ti6,ti6,aN,⟨.int .u32,(.sc (.int .u32)),1,4,[(xk xt 0)]⟩,aN,aN,⟨.ptr 57,(.sc .ptr),1,8,[(xm none)]⟩,ti1,ti7,aN,⟨.ptr 60,(.sc .ptr),1,8,[(xm none)]⟩,aN,aN,aN,⟨.slice 3,(.sc .slc),1,24,[(xl none 0 0)]⟩,aN,ti8,aN,aN,aN,aN,aN,aN,aN,aN,⟨.slice 23,(.sc .slc),1,24,[(xl none 0 0)]⟩,ti8,aN,⟨.ptr 92,(.sc .ptr),1,8,[(xm none)]⟩,aN,aN,aN,aeH,aeH,⟨.slice 77,(.sc .slc),1,24,[(xl none 0 0)]⟩,aeI,aeI,⟨.ptr 103,(.sc .ptr),1,8,[(xm none)]⟩,ti7,aN,⟨.slice 9,(.sc .slc),1,24,[(xl none 0 0)]⟩,aeJ,aeJ,aeK,aeK,aN,aeL,aeL,aN,aN,aN,aN,ti9,ti9,aN,aN,aN,aN,aN,aN,aN,aN,aN,⟨.array 255 5,(.arr (.int .u8)),255,255,qg 255 (xk xr 0)⟩,aN,⟨.array 256 3,(.arr (.int .i64)),256,2048,qg 256 (xk xq 0)⟩,aN,aeM,aeM,aN,aN,⟨.ptr 131,(.sc .ptr),1,8,[(xm none)]⟩,aN,⟨.ptr 138,(.sc .ptr),1,8,[(xm none)]⟩,ti7,aN,⟨.ptr 208,(.sc .ptr),1,8,[(xm none)]⟩,⟨.array 64 100,(.arr .ptr),64,512,qg 64 (xm none)⟩,aeN,aeN,aN,aN,aaQ,aN,aN,aN,aN,aN,aN,aN,⟨.ptr 200,(.sc .ptr),1,8,[(xm none)]⟩,aN,aN,aN,aN,aN,aN,aN,aN,aN,aN,aN,aN,aN,aN,aN,aci,aci,VO,aN,⟨.slice 170,(.sc .slc),1,24,[(xl none 0 0)]⟩,acj,acj,ack,ack,aN,aN,aN,aN,⟨.slice 211,(.sc .slc),1,24,[(xl none 0 0)]⟩,aN,aN,aN,aN,aN,⟨.other,(.sc .any),1,0,[(.tuple #[(.agg #[(xk xq 0),(xk xq 0),(xk xq 0),(xl none 0 0)]),(xk xq 0)])]⟩,aN,aN,aN,aN,aN,aN,aN,aN,⟨.ptr 161,(.sc .ptr),1,8,[(xm none)]⟩,⟨.array 64 3,(.arr (.int .i64)),64,512,qg 64 (xk xq 0)⟩,acl,acl,aN,aN,aN,⟨.ptr 167,(.sc .ptr),1,8,[(xm none)]⟩,acm,acm,aN,acn,acn,aN,⟨.other,(.sc .any),1,0,[(.tuple #[(xk xq 0),(xl none 0 0),(.bool .false)])]⟩,aN,aN,aN,aN,aN,⟨.slice 100,(.sc .slc),1,24,[(xl none 0 0)]⟩,aN,aN,⟨.slice 183,(.sc .slc),1,24,[(xl none 0 0)]⟩,aco,aco,⟨.ptr 189,(.sc .ptr),1,8,[(xm none)]⟩,⟨.slice 269,(.sc .slc),1,24,[(xl none 0 0)]⟩,acp,acp,acq,acq,⟨.slice 4,(.sc .slc),1,24,[(xl none 0 0)]⟩,⟨.other,(.sc .any),1,0,[(.tuple #[(xl none 0 0),(xl none 0 0),(xl none 0 0),(xk xq 0)])]⟩,aN,aN,⟨.other,(.sc .any),1,0,[(.tuple #[(xl none 0 0),(xl none 0 0)])]⟩,aN,aN,aN,ti4,VP,VP,aN,aN,aN,aN,aN,aN,acr,acr,aN,ti9,ti9,aN,aN,aN,aN,VO,aN,aN,aN,aN,aN,aN,aN,aN,VO,aN,aN,aN,aN,⟨.slice 233,(.sc .slc),1,24,[(xl none 0 0)]⟩,aN,acs,acs,aN,aN,aN,aN,aN,aN,aN,aN,aN,aN,aN,aN,aN,aN,⟨.ptr 254,(.sc .ptr),1,8,[(xm none)]⟩,ti7,aN,aN,⟨.slice 38,(.sc .slc),1,24,[(xl none 0 0)]⟩,act,act,aN,⟨.other,(.sc .any),1,0,[(.tuple #[(.agg #[(xk xq 0),(xk xq 0),(xk xq 0),(xk xq 0),(xk xq 0),(xk xq 0),(xl none 0 0),(xl none 0 0)]),(.bool .false)])]⟩,aN,aN,aN,⟨.ptr 262,(.sc .ptr),1,8,[(xm none)]⟩,acu,acu,aN,aN,⟨.other,(.sc .any),1,0,[(.tuple #[(.agg #[(xl none 0 0),(xl none 0 0),(xl none 0 0)]),(.bool .false)])]⟩,aN,aN,acv,acv,aN,aN,aN,acw,acw,⟨.other,(.sc .any),1,0,[(.tuple #[(.agg (qg 256 (.bool .false)).toArray),(.bool .false)])]⟩,aN,aN,⟨.ptr 274,(.sc .ptr),1,8,[(xm none)]⟩,⟨.ptr 281,(.sc .ptr),1,8,[(xm none)]⟩,VP,VP,aN,aN,aN,aN,⟨.other,(.sc .any),1,0,[(.tuple #[(xk xq 0),(.bool .false)])]⟩,aN,aN,aN,aN,aN,aN,aN,aN,aN,aN,aN,⟨.other,(.sc .any),1,0,[(.tuple #[(.agg #[(xk xq 0),(xk xq 0),(xk xq 0),(xk xq 0),(xk xq 0),(xk xq 0),(xk xt 0),(xl none 0 0)]),(.bool .false)])]⟩,aN,aN,aN,aN,aN,aN,aN,ti1,aaQ,aN,aN,aN,aN,aN,aN,aN,aN,aN,acx,ti6,ti6,aN,aN,aN,⟨.other,(.sc .any),1,0,[(.tuple #[(xl none 0 0),(.bool .false),(xk xq 0)])]⟩,aN,aN,aN,⟨.slice 136,(.sc .slc),1,24,[(xl none 0 0)]⟩,aN,aN,⟨.ptr 332,(.sc .ptr),1,8,[(xm none)]⟩,acy,acy,aN,⟨.other,(.sc .any),1,0,[(.tuple #[(.agg #[(xk xq 0),(xk xq 0)]),(.bool .false)])]⟩,aN,aN,⟨.other,(.sc .any),1,0,[(.tuple #[(.int .i32 0),(xk xq 0)])]⟩,aN,aN,⟨.int .u16,(.sc (.int .u16)),1,2,[(.int .u16 0)]⟩,⟨.cpx,(.sc (.cpx .f64)),1,16,[(.complex Go.FloatKind.f64 0 0)]⟩,aN,⟨.slice 348,(.sc .slc),1,24,[(xl none 0 0)]⟩,⟨.array 64 4,(.arr .bool),64,64,qg 64 (.bool .false)⟩,⟨.flt,(.sc (.flt .f64)),1,8,[(.float Go.FloatKind.f64 0)]⟩,aN,acz,acz,aN,aN,aN,aN,aN,aN,⟨.ptr 5,(.sc .ptr),1,8,[(xm none)]⟩,aN,ti4,aN,aN,aN,⟨.ptr 3,(.sc .ptr),1,8,[(xm none)]⟩,aN,aN,ti8,aN,⟨.ptr 392,(.sc .ptr),1,8,[(xm none)]⟩,aN,⟨.slice 49,(.sc .slc),1,24,[(xl none 0 0)]⟩,aN,aN,aN,aN,aN,⟨.ptr 377,(.sc .ptr),1,8,[(xm none)]⟩,aN,acA,acA,aN,aN,aN,aN,aN,aN,aN,aN,aN,aN,⟨.ptr 357,(.sc .ptr),1,8,[(xm none)]⟩,aaQ,aN,acB,acB,aN,aN,aN,aN,⟨.slice 399,(.sc .slc),1,24,[(xl none 0 0)]⟩,acC,acC,⟨.other,(.sc .any),1,0,[(.tuple #[(.agg #[(xk xq 0),(xk xq 0),(xk xq 0),(xl none 0 0),(xl none 0 0)]),(.bool .false)])]⟩,aN,acx,VO,aN,aN,aN,aN,⟨.array 256 5,(.arr (.int .u8)),256,256,qg 256 (xk xr 0)⟩,acD,acD,⟨.array 16 410,(.arr (.int .u8)),32,32,qg 32 (xk xr 0)⟩,aN,aN,aN,aN,aN,aN,aN,aN,aN,aN,aN,aN,aN,aN,aN,aN,aN,aN,aN,aN,⟨.ptr 434,(.sc .ptr),1,8,[(xm none)]⟩,acE,acE,aN,aN,aN,aN,aN,acF,acF,⟨.array 0 16,(.arr .ptr),0,0,[]⟩,acG,acG,ti2,ti2,aN,ti5,ti5,acH,acH,aN,⟨.other,(.sc .any),1,8,[(xm none)]⟩]
def C:Ctx:={P:=xv,T:=tbl,tup:=[(0,[]),(32,[(.sc .ptr),(.sc (.int .i64))]),(40,[(.sc .slc),(.sc (.int .i64))]),(50,[(.sc .slc),(.sc (.int .i64))]),(62,[(.sc .ptr),(.sc (.int .i64))]),(98,[(.sc .ptr),(.sc (.int .i64))]),(106,[(.sc (.int .i64)),(.sc (.int .i64))]),(132,[(.sc .slc),(.sc .bool)]),(149,[(.agg [(.int .i64),(.int .i64),(.int .i64),.slc]),(.sc (.int .i64))]),(172,[(.sc (.int .i64)),(.sc .slc),(.sc .bool)]),(191,[(.sc .slc),(.sc .slc),(.sc .slc),(.sc (.int .i64))]),(194,[(.sc .slc),(.sc .slc)]),(216,[(.sc .slc),(.sc .bool)]),(225,[(.sc .slc),(.sc .bool)]),(249,[(.sc .ptr),(.sc (.int .i64))]),(256,[(.agg [(.int .i64),(.int .i64),(.int .i64),(.int .i64),(.int .i64),(.int .i64),.slc,.slc]),(.sc .bool)]),(265,[(.agg [.slc,.slc,.slc]),(.sc .bool)]),(275,[(.arr .bool),(.sc .bool)]),(286,[(.sc (.int .i64)),(.sc .bool)]),(298,[(.agg [(.int .i64),(.int .i64),(.int .i64),(.int .i64),(.int .i64),(.int .i64),(.int .u32),.slc]),(.sc .bool)]),(307,[(.sc (.int .i64)),(.sc (.int .i64))]),(323,[(.sc .slc),(.sc .bool),(.sc (.int .i64))]),(334,[(.agg [(.int .i64),(.int .i64)]),(.sc .bool)]),(337,[(.sc (.int .i32)),(.sc (.int .i64))]),(364,[(.sc .slc),(.sc (.int .i64))]),(389,[(.sc (.int .i64)),(.sc (.int .i64))]),(400,[(.agg [(.int .i64),(.int .i64),(.int .i64),.slc,.slc]),(.sc .bool)]),(403,[(.sc .slc),(.sc .bool)])],fns:=[false,false]++qg 379 true++qg 22 false++[true]}
theorem afG:(List.range C.T.length).map (jx.seen C.P)=C.T.map jx.told:=by kernel_rfl
theorem adu:C.P.follows .mixedOrders=true:=by kernel_rfl
theorem afH:(C.P.funcs.toList.map fun f=>!(f.name== "runtime.NumGoroutine")&&f.body.isSome)=C.fns:=by kernel_rfl
theorem ac:C.Ok:={tbl:=afG,mixed:=adu,fns:=afH}
def kC(O:Int)(U:Int)(K:Int)(g:Int)(j:Sl)(l:Int):Prop:=
 af xv 4 #[O,U,K] afY h fun r1 h1=>
 aO xv (qP 25 true (.tuple #[])) h1 fun c h2=>
 ae xv (qf 25 c r1) h2 fun _ h3=>
 ∃x3:bm,al h3 c 0 x3/\
 af xv 5 #[x3,(xk xu g)] (.one (.sc (.int .u32))) h3 fun r4 h4=>
 ∃x5,cellOf h4 c=some (xk xq x5)/\
 ∃x6,cellOf h4 (c.add 2)=some (xk xq x6)/\
 af xv 6 #[j,(qc xq (x5*x6))] aK h4 fun r7 h5=>
 ∃x8:bm,al h5 c 0 x8/\
 af xv 7 #[x8,(xk xt r4),r7] (.many [Nr,aS]) h5 fun s h6=>
 ∃D:bm,al h6 c 0 D/\
 af xv 8 #[D,(xk xt r4)] mL h6 fun b q=>
 aW (σ:=Unit) (fun _ ad=>
 af xv 10 #[l,(xk xq 60000)] bB ad fun m z=>
 ∃w,cellOf z c=some (xk xq w)/\
 aW (σ:=Int) (fun y x=>
 Br (y>0)
 (af xv 11 #[b] bB x fun S v=>
 Br (S==y) (af xv 9 #[] bJ v fun M V=>
 R M V) (R false v))
 (af xv 12 #[b] (.many [ca,aS]) x fun u G=>
 af xv 11 #[b] bB G fun Q p=>
 Br (Q==0) (Br (u.2==0) (af xv 16 #[u.1,r7] bJ p fun ax t=>
 Br ax (af xv 9 #[] bJ t fun W T=>
 R W T) (R false t)) (R false p)) (R false p)))
 (fun K2=>
 aG (σ:=Int×Sl×Int) (fun a K3 o=>
 aW (σ:=Unit) (fun _ Z=>
 af xv 11 #[b] bB Z fun P B=>
 Br (P !=a.1)
 (R false B)
 (af xv 12 #[b] (.many [ca,aS]) B fun E r=>
 aW (σ:=Unit) (fun _ L=>
 aw xv (qt 38 1 #[(0,(qc xq (m+a.2.2)))]) aK L fun I am=>
 aw xv (qq #[38,38] 38 #[a.2.1,I]) aK am fun k X=>
 af xv 14 #[s.1,(qc xq (m+a.2.2))] aK X fun N ah=>
 af xv 13 #[b,(qc xq (m+a.2.2)),N] bJ ah fun H e=>
 Br (!H)
 (R false e)
 (∃f,cellOf e c=some (xk xq f)/\
 ∃d,cellOf e (c.add 1)=some (xk xq d)/\
 ∃A:bm,al e c 0 A/\
 af xv 15 #[A,(xk xt r4),k] bB e fun n i=>
 (aq.ok [(c.add 1,d),(c,f)] i)/\
 Br (decide ((qc xq ((qc xq (f+d))-n))>a.1)) (R false i) (Br (decide ((qc xq ((qc xq (f+d))-n))<(qc xq (a.1-1))))
 (R false i)
 (K3 (qc xq ((qc xq (f+d))-n),(⟨k.ptr,k.len,k.cap⟩:Sl),qc xq (a.2.2+1)) i))))
 (fun K5=>
 Br (E.2 !=9) (R false r) (Br ((E.1.len:Int)>0)
 (R false r)
 (K5 () r)))))
 (fun K4=>
 Br (a.2.2<60) (Br (a.1>0)
 (K4 () o)
 (K2 a.1 o)) (K2 a.1 o))) (w,(⟨none,0,0⟩:Sl),(0:Int)) z))
 (fun K1=>
 Br (s.2 !=0) (Br (s.2==8) (af xv 9 #[] bJ q fun Y h8=>
 R Y h8) (R false q)) (Br (q9 s.1) (Br (s.2==8) (af xv 9 #[] bJ q fun J h9=>
 R J h9) (R false q)) (Br (q9 b)
 (Br (s.2==8) (af xv 9 #[] bJ q fun ap F=>
 R ap F) (R false q))
 (K1 () q))))
theorem pF(f:Int)(d:Int)(e:Int)(a:Int)(c:Sl)(b:Int)(g:@kC R h f d e a c b):ab xv 3 #[f,d,e,(xk xu a),c,b] h R:=ao ac func3 (ak.tn (ak.tn (ak.tn (ak.tn (ak.tn (ak.tn (.two (.join [] [(12,13),(51,66)] .n) (ak.tn (ak.tn (ak.tn (.two (.join [(19,aS)] [(12,13),(19,25),(70,131)] (ak.tn (.inn (.loop [(19,aS),(20,ca),(21,aS)] [(12,13),(19,25),(70,131)] (.two (.join [] [(70,76)] .n) (.two (.inn (ak.tn (ak.tn (.two (.join [] [(12,13),(87,94)] .n) .n)))) .n)))))) .n))))))))))) g
def mM(d:Int)(b:Int)(c:Int):Prop:=
 aO xv (qP 25 true (.tuple #[])) h fun f m=>
 af xv 10 #[d,(xk xq 16)] bB m fun g j=>
 af xv 10 #[b,(xk xq 4)] bB j fun k h3=>
 af xv 10 #[c,(xk xq 24)] bB h3 fun l i=>
 ae xv (qf 25 f (xp #[(qc xq (1+g)),(qc xq (1+k)),(qc xq (1+l))])) i fun _ e=>
 ∃a:bm,al e f 0 a/\
 R a e
theorem tQ(a:Int)(b:Int)(c:Int)(d:@mM R h a b c):ab xv 4 #[a,b,c] h R:=ao ac func4 .n d
def nf(d:bm)(a:Int):Prop:=
 aO xv (qH 25 d) h fun g i=>
 aG (σ:=Int) (fun b e c=>
 Br (b !=(qc xt ((qc xt a)+24)))
 (∃x3:bm,al c g 0 x3/\
 af xv 17 #[x3,(xk xt b)] bJ c fun f h3=>
 Br f
 (R (xk xt b) h3)
 (e (qc xt (b+1)) h3))
 (R (xk xt (qc xt a)) c)) (qc xt a) i
theorem uO(b:bm)(a:Int)(c:@nf R h b a):ab xv 5 #[b,(xk xu a)] h R:=ao ac func5 (ak.tn (.two (ak.tn (.inn (.loop [(5,(.sc (.int .u32)))] [(4,6),(8,19)] .n))) .n)) c
def ng(b:Sl)(a:Int):Prop:=
 aw xv (qB 23 a a) aK h fun c e=>
 aw xv (Builtin.copy_ #[23,23] 3 #[c,b]) bB e fun _ d=>
 R c d
theorem uP(a:Sl)(b:Int)(c:@ng R h a b):ab xv 6 #[a,b] h R:=ao ac func6 .n c
def Fy(K:bm)(d:Int)(a:Sl):Prop:=
 aO xv (qH 25 K) h fun c O=>
 aW (σ:=Unit) (fun _ h3=>
 ∃Q:bm,al h3 c 0 Q/\
 af xv 17 #[Q,(xk xt d)] bJ h3 fun T L=>
 Br (!T)
 (R (.tuple #[(xm none),(xk xq 8)]) L)
 (∃N,cellOf L (c.add 1)=some (xk xq N)/\
 aG (σ:=Sl×Int) (fun g X y=>
 Br (g.2<N)
 (∃m,cellOf y (c.add 2)=some (xk xq m)/\
 aw xv (qB 23 m m) aK y fun F U=>
 aw xv (qt 49 1 #[(0,F)]) aK U fun E Z=>
 aw xv (qq #[49,49] 49 #[g.1,E]) aK Z fun n h8=>
 X ((⟨n.ptr,n.len,n.cap⟩:Sl),qc xq (g.2+1)) h8)
 (∃w,cellOf y c=some (xk xq w)/\
 aG (σ:=Sl×Int) (fun b Y q=>
 Br (b.2<w)
 (∃f,cellOf q (c.add 2)=some (xk xq f)/\
 ∃k,cellOf q (c.add 2)=some (xk xq k)/\
 (0<=(qc xq (b.2*f))/\(qc xq (b.2*f))<=(qc xq ((qc xq (b.2+1))*k))/\(qc xq ((qc xq (b.2+1))*k))<=(a.cap:Int))/\
 aw xv (qt 49 1 #[(0,(.slice (if a.cap=(qc xq (b.2*f)).toNat then a.ptr else a.ptr.map (·.add ((qc xq (b.2*f)).toNat*1))) ((qc xq ((qc xq (b.2+1))*k)).toNat-(qc xq (b.2*f)).toNat) (a.cap-(qc xq (b.2*f)).toNat)))]) aK q fun H z=>
 aw xv (qq #[49,49] 49 #[b.1,H]) aK z fun o I=>
 Y ((⟨o.ptr,o.len,o.cap⟩:Sl),qc xq (b.2+1)) I)
 (aW (σ:=Sl×Int) (fun r p=>
 Br (r.2 !=0)
 (R (.tuple #[(xm none),(xk xq 8)]) p)
 (∃l:bm,al p c 0 l/\
 aO xv (qH 57 (xp #[l.1,l.2.1,l.2.2,(xk xt d),r.1])) p fun J B=>
 R (.tuple #[J,(xk xq 0)]) B))
 (fun S=>
 ∃e:bm,al q c 0 e/\
 ∃i:bm,al q c 0 i/\
 af xv 20 #[] mL q fun A u=>
 (aq.ok [(c,i.1),(c.add 1,i.2.1),(c.add 2,i.2.2),(c,e.1),(c.add 1,e.2.1),(c.add 2,e.2.2)] u)/\
 af xv 22 #[i] aK u fun G s=>
 (aq.ok [(c,e.1),(c.add 1,e.2.1),(c.add 2,e.2.2)] s)/\
 af xv 21 #[e,(xk xt d),G] aK s fun D x=>
 (aq.ok [] x)/\
 af xv 19 #[A,D,b.1] (.many [ca,aS]) x fun j v=>
 (aq.ok [] v)/\
 S ((⟨j.1.ptr,j.1.len,j.1.cap⟩:Sl),j.2) v))) ((⟨g.1.ptr,g.1.len,g.1.cap⟩:Sl),(0:Int)) y)) ((⟨none,0,0⟩:Sl),(0:Int)) L))
 (fun W=>
 ∃x2:bm,al O c 0 x2/\
 af xv 18 #[x2] bJ O fun V t=>
 Br (!V) (R (.tuple #[(xm none),(xk xq 1)]) t) (∃M,cellOf t c=some (xk xq M)/\
 ∃P,cellOf t (c.add 2)=some (xk xq P)/\
 Br ((a.len:Int) !=(qc xq (M*P)))
 (R (.tuple #[(xm none),(xk xq 1)]) t)
 (W () t)))
theorem LM(c:bm)(a:Int)(b:Sl)(d:@Fy R h c a b):ab xv 7 #[c,(xk xt a),b] h R:=ao ac func7 (ak.tn (.two (.join [] [(6,8),(12,25)] .n) (ak.tn (ak.tn (.two (ak.tn (.inn (.loop [(8,ca),(31,aS)] [(8,9),(31,40)] .n))) (.two (ak.tn (.inn (.loop [(8,ca),(42,aS)] [(8,10),(42,60)] .n))) (.two (.join [(10,ca),(11,aS)] [(10,12),(60,71)] .n) .n))))))) d
def Fz(d:bm)(a:Int):Prop:=
 aO xv (qH 25 d) h fun e f=>
 ∃x2:bm,al f e 0 x2/\
 af xv 18 #[x2] bJ f fun g c=>
 Br (!g)
 (R (xm none) c)
 (∃b:bm,al c e 0 b/\
 aO xv (qH 60 (xp #[b.1,b.2.1,b.2.2,(xk xt a),(xl none 0 0)])) c fun a5 h3=>
 R a5 h3)
theorem LN(b:bm)(a:Int)(c:@Fz R h b a):ab xv 8 #[b,(xk xt a)] h R:=ao ac func8 .n c
def oh:Prop:=
 aw xv (qt 38 2 #[(0,(xk xq 20)),(1,(xk xq 20))]) aK h fun l m=>
 af xv 23 #[(xp #[(xk xq 1),(xk xq 1),(xk xq 4)]),(xk xq 2),l] (.many [Nr,aS]) m fun a b=>
 aW (σ:=Unit) (fun _ h3=>
 aw xv (qt 23 3 #[(0,(xk xr 97)),(1,(xk xr 98)),(2,(xk xr 99))]) aK h3 fun v4 d=>
 aw xv (convert 23 23 v4) aK d fun v5 i=>
 af xv 24 #[a.1,(xp #[(xk xq 1),rf,v5,(xk xq 0),(xk xq 0),(xk xq 0),(xk xt 0),(xl none 0 0),(xl none 0 0)])] (.one (.agg [(.int .i64),.slc,.slc,(.int .i64),(.int .i64),(.int .i64),.slc,(.int .i64)])) i fun j c=>
 Br (j.1==0) (af xv 24 #[a.1,(xp #[(xk xq 2),rf,(xl none 0 0),(xk xq 0),(xk xq 0),(xk xq 0),(xk xt 0),(xl none 0 0),(xl none 0 0)])] (.one (.agg [(.int .i64),.slc,.slc,(.int .i64),(.int .i64),(.int .i64),.slc,(.int .i64)])) c fun f g=>
 aw xv (convert 23 9 f.2.1) (.one tyT) g fun k h8=>
 R (xo (k.toList==Ns.toList)) h8) (R false c))
 (fun e=>
 Br (a.2 !=0) (R false b) (Br (q9 a.1)
 (R false b)
 (e () b)))
theorem xL(a:@oh R h):ab xv 9 #[] h R:=ao ac func9 (ak.tn (ak.tn (.two (.join [] [(0,1),(10,16)] .n) .n))) a
def mN(b:Int)(a:Int):Prop:=
 (a≠0)/\
 aW (σ:=Int) (fun d e=>
 R d e)
 (fun c=>
 Br ((zZ b a)<0)
 (c (qc xq ((zZ b a)+a)) h)
 (c (zZ b a) h))
theorem tR(a:Int)(b:Int)(c:@mN R h a b):ab xv 10 #[a,b] h R:=ao ac func10 (ak.tn (ak.tn (.two (.join [(0,aS)] [(0,1),(8,13)] .n) .n))) c
def ol(a:aP):Prop:=
 Br (q9 a)
 (R (xk xq 0) h)
 (∃j,(a=some j)/\
 ∃x2:bm,al h j 0 x2/\
 ∃a3,(a=some a3)/\
 ∃b:bm,al h a3 0 b/\
 ∃a5,(a=some a5)/\
 ∃c,cellOf h (a5.add 3)=some (xk xt c)/\
 ∃e,(a=some e)/\
 ∃g:Sl,cellOf h (e.add 4)=some (g:Value)/\
 af xv 25 #[x2] bB h fun l k=>
 (aq.ok [(e.add 4,g),(a5.add 3,(xk xt c)),(a3,b.1),(a3.add 1,b.2.1),(a3.add 2,b.2.2)] k)/\
 af xv 27 #[g] aK k fun f i=>
 (aq.ok [(a5.add 3,(xk xt c)),(a3,b.1),(a3.add 1,b.2.1),(a3.add 2,b.2.2)] i)/\
 af xv 26 #[b,(xk xt c),f] bB i fun d h3=>
 (aq.ok [] h3)/\
 R (qc xq (l-d)) h3)
theorem xM(a:aP)(b:@ol R h a):ab xv 11 #[a] h R:=ao ac func11 .n b
def nh(a:aP):Prop:=
 Br (q9 a)
 (R (.tuple #[(xl none 0 0),(xk xq 1)]) h)
 (∃d,(a=some d)/\
 ∃x2:bm,al h d 0 x2/\
 ∃a3,(a=some a3)/\
 ∃c,cellOf h (a3.add 3)=some (xk xt c)/\
 ∃a5,(a=some a5)/\
 ∃e:Sl,cellOf h (a5.add 4)=some (e:Value)/\
 af xv 28 #[x2,(xk xt c),e] (.many [ca,aS]) h fun b f=>
 (aq.ok [] f)/\
 R (.tuple #[b.1,b.2]) f)
theorem uQ(a:aP)(b:@nh R h a):ab xv 12 #[a] h R:=ao ac func12 .n b
def ph(b:aP)(c:Int)(a:Sl):Prop:=
 af xv 29 #[a] aK h fun s t=>
 aO xv (qP 77 true (.tuple #[])) t fun i u=>
 ae xv (qf 77 i (xp #[c,s])) u fun _ h3=>
 aW (σ:=Unit) (fun _ k=>
 ∃l,(b=some l)/\
 ∃g:Sl,cellOf k (l.add 4)=some (g:Value)/\
 ∃e:Int×Sl,al k i 0 e/\
 aw xv (qt 58 1 #[(0,e)]) aK k fun f o=>
 (aq.ok [(l.add 4,g)] o)/\
 aw xv (qq #[58,58] 58 #[g,f]) aK o fun j q=>
 (aq.ok [] q)/\
 ∃d,(b=some d)/\
 ae xv (qf 58 (d.add 4) j) q fun _ h8=>
 (aq.ok [] h8)/\
 R true h8)
 (fun v=>
 Br (q9 b) ((aq.ok [] h3)/\
 R false h3) (∃a3,(b=some a3)/\
 ∃n:bm,al h3 a3 0 n/\
 ∃p:Int×Sl,al h3 i 0 p/\
 af xv 30 #[n,p] bJ h3 fun r m=>
 (aq.ok [] m)/\
 Br (!r)
 (R false m)
 (v () m)))
theorem AP(c:aP)(b:Int)(a:Sl)(d:@ph R h c b a):ab xv 13 #[c,b,a] h R:=ao ac func13 (ak.tn (ak.tn (.two (.join [] [(6,7),(12,23)] .n) .n))) d
def om(d:aP)(b:Int):Prop:=
 aW (σ:=Unit) (fun _ u=>
 ∃v,(d=some v)/\
 ∃x3,cellOf u (v.add 2)=some (xk xq x3)/\
 aw xv (qB 23 x3 x3) aK u fun v4 r=>
 ∃a5,(d=some a5)/\
 ∃t:bm,al r a5 0 t/\
 ∃w,(d=some w)/\
 ∃x,cellOf r (w.add 3)=some (xk xt x)/\
 af xv 31 #[t,(xk xt x),b] aK r fun s h3=>
 (aq.ok [] h3)/\
 aG (σ:=Int) (fun c A p=>
 Br (c<(s.len:Int))
 (∃l,(s.ptr=some l/\0<=c/\c<(s.len:Int))/\
 ∃f,cellOf p (l.add (c.toNat*1))=some (xk xq f)/\
 ∃k,(d=some k)/\
 ∃g:Sl,cellOf p (k.add 4)=some (g:Value)/\
 ∃o,(g.ptr=some o/\0<=f/\f<(g.len:Int))/\
 ∃e:Sl,cellOf p (o.add (f.toNat*1))=some (e:Value)/\
 aG (σ:=Int) (fun a B q=>
 Br (a<(e.len:Int))
 (∃m,(e.ptr=some m/\0<=a/\a<(e.len:Int))/\
 ∃i,cellOf q (m.add (a.toNat*1))=some (xk xr i)/\
 ∃n,(v4.ptr=some n/\0<=a/\a<(v4.len:Int))/\
 ∃j,cellOf q (n.add (a.toNat*1))=some (xk xr j)/\
 ∃a22,(v4.ptr=some a22/\0<=a/\a<(v4.len:Int))/\
 ae xv (qf 5 (a22.add (a.toNat*1)) (xk xr (qc xr ((qu (qk xr) j^^^(qu (qk xr) i)).toNat:Nat)))) q fun _ y=>
 B (qc xq (a+1)) y)
 (A (qc xq (c+1)) q)) (0:Int) p)
 (R v4 p)) (0:Int) h3)
 (fun z=>
 Br (q9 d) (R (xl none 0 0) h) (Br (b<0) (R (xl none 0 0) h) (Br (b>65535)
 (R (xl none 0 0) h)
 (z () h))))
theorem xN(b:aP)(a:Int)(c:@om R h b a):ab xv 14 #[b,a] h R:=ao ac func14 (ak.tn (.two (.join [] [(4,5),(10,20)] .n) (ak.tn (.two (ak.tn (.inn (.loop [(37,aS)] [(7,10),(37,63)] (ak.tn (ak.tn (.two (.inn (ak.tn (ak.tn (.inn (.loop [(49,aS)] [(8,10),(49,62)] .n))))) .n)))))) .n)))) c
def lV(c:bm)(a:Int)(b:Sl):Prop:=
 aO xv (qH 25 c) h fun i d=>
 ∃x2:bm,al d i 0 x2/\
 af xv 33 #[x2,(xk xt a),b] aK d fun f e=>
 af xv 32 #[f] bB e fun g h3=>
 R g h3
theorem sP(c:bm)(a:Int)(b:Sl)(d:@lV R h c a b):ab xv 15 #[c,(xk xt a),b] h R:=ao ac func15 .n d
def lc(a:Sl)(c:Sl):Prop:=
 Br ((a.len:Int) !=(c.len:Int))
 (R false h)
 (aG (σ:=Int) (fun b g d=>
 Br (b<(a.len:Int))
 (∃e,(a.ptr=some e/\0<=b/\b<(a.len:Int))/\
 ∃x3,cellOf d (e.add (b.toNat*1))=some (xk xr x3)/\
 ∃a4,(c.ptr=some a4/\0<=b/\b<(c.len:Int))/\
 ∃f,cellOf d (a4.add (b.toNat*1))=some (xk xr f)/\
 Br (x3 !=f)
 (R false d)
 (g (qc xq (b+1)) d))
 (R true d)) (0:Int) h)
theorem rg(a:Sl)(b:Sl)(c:@lc R h a b):ab xv 16 #[a,b] h R:=ao ac func16 (ak.tn (ak.tn (.two (ak.tn (.inn (.loop [(13,aS)] [(4,6),(13,26)] .n))) .n))) c
def By(c:bm)(a:Int):Prop:=
 aO xv (qH 25 c) h fun b d=>
 ∃x2:bm,al d b 0 x2/\
 ∃x3:bm,al d b 0 x3/\
 af xv 22 #[x3] aK d fun g e=>
 (aq.ok [(b,x2.1),(b.add 1,x2.2.1),(b.add 2,x2.2.2)] e)/\
 af xv 34 #[x2,(xk xt a),g] bJ e fun f h3=>
 (aq.ok [] h3)/\
 R f h3
theorem IN(b:bm)(a:Int)(c:@By R h b a):ab xv 17 #[b,(xk xt a)] h R:=ao ac func17 .n c
def Nt(c:bm):Prop:=
 aO xv (qH 25 c) h fun b a=>
 ∃x2,cellOf a b=some (xk xq x2)/\
 Br (x2>=1) (∃x3,cellOf a b=some (xk xq x3)/\
 Br (x3<=16) (∃f,cellOf a (b.add 1)=some (xk xq f)/\
 Br (f>=1) (∃e,cellOf a (b.add 1)=some (xk xq e)/\
 Br (e<=4) (∃g,cellOf a (b.add 2)=some (xk xq g)/\
 Br (g>=1) (∃d,cellOf a (b.add 2)=some (xk xq d)/\
 R (decide (d<=24)) a) (R false a)) (R false a)) (R false a)) (R false a)) (R false a)
theorem SV(a:bm)(b:@Nt R h a):ab xv 18 #[a] h R:=ao ac func18 .n b
def AQ(x:aP)(f:Sl)(i:Sl):Prop:=
 aW (σ:=Unit) (fun _ h3=>
 af xv 36 #[f] bB h3 fun j K=>
 af xv 37 #[f] aK K fun d P=>
 aG (σ:=Int) (fun g Q u=>
 Br (g<(d.len:Int))
 (∃H,(d.ptr=some H/\0<=g/\g<(d.len:Int))/\
 ∃J:Sl,cellOf u (H.add (g.toNat*1))=some (J:Value)/\
 ∃a9,(i.ptr=some a9/\0<=g/\g<(i.len:Int))/\
 ∃s:Sl,cellOf u (a9.add (g.toNat*1))=some (s:Value)/\
 aw xv (qq #[23,23] 23 #[J,s]) aK u fun w I=>
 (aq.ok [] I)/\
 ∃p,(d.ptr=some p/\0<=g/\g<(d.len:Int))/\
 ae xv (qf 23 (p.add (g.toNat*1)) w) I fun _ h8=>
 (aq.ok [] h8)/\
 Q (qc xq (g+1)) h8)
 (af xv 39 #[x] mL u fun z T=>
 af xv 38 #[z,d,j] bB T fun a n=>
 Br (a<j)
 (R (.tuple #[(xl none 0 0),(xk xq 9)]) n)
 ((0<=a/\a<=(d.len:Int))/\
 aG (σ:=Int) (fun e S m=>
 Br (decide (e<(((d.len-a.toNat):Nat):Int)))
 (∃o:Addr,((if d.cap=a.toNat then d.ptr else d.ptr.map (·.add (a.toNat*1)))=some o/\0<=e/\e<(((d.len-a.toNat):Nat):Int))/\
 ∃q:Sl,cellOf m (o.add (e.toNat*1))=some (q:Value)/\
 af xv 40 #[q] bB m fun A r=>
 Br (A>=0)
 (R (.tuple #[(xl none 0 0),(xk xq 10)]) r)
 (S (qc xq (e+1)) r))
 ((0<=a/\a<=(d.cap:Int))/\
 aG (σ:=Sl×Int) (fun c L k=>
 Br (c.2<(a.toNat:Int))
 (∃t,(d.ptr=some t/\0<=c.2/\c.2<(a.toNat:Int))/\
 ∃b:Sl,cellOf k (t.add (c.2.toNat*1))=some (b:Value)/\
 (0<=j/\j<=(b.len:Int))/\
 af xv 29 #[(.slice (if b.cap=j.toNat then b.ptr else b.ptr.map (·.add (j.toNat*1))) (b.len-j.toNat) (b.cap-j.toNat))] aK k fun F D=>
 aw xv (qt 49 1 #[(0,F)]) aK D fun y B=>
 aw xv (qq #[49,49] 49 #[c.1,y]) aK B fun l E=>
 L ((⟨l.ptr,l.len,l.cap⟩:Sl),qc xq (c.2+1)) E)
 (R (.tuple #[c.1,(xk xq 0)]) k)) ((⟨none,0,0⟩:Sl),(0:Int)) m)) (0:Int) n))) (0:Int) P)
 (fun O=>
 af xv 35 #[f] bJ h fun N G=>
 Br (!N) (R (.tuple #[(xl none 0 0),(xk xq 1)]) G) (af xv 35 #[i] bJ G fun M v=>
 Br (!M) (R (.tuple #[(xl none 0 0),(xk xq 1)]) v) (Br ((f.len:Int) !=(i.len:Int)) (R (.tuple #[(xl none 0 0),(xk xq 1)]) v) (Br ((f.len:Int)==0)
 (R (.tuple #[(xl none 0 0),(xk xq 1)]) v)
 (O () v)))))
theorem DQ(a:aP)(b:Sl)(c:Sl)(d:@AQ R h a b c):ab xv 19 #[a,b,c] h R:=ao ac func19 (ak.tn (.two (.join [] [(6,8),(17,37)] .n) (ak.tn (ak.tn (.two (ak.tn (.inn (.loop [(43,aS)] [(10,11),(43,59)] .n))) (ak.tn (ak.tn (.two (ak.tn (.inn (.loop [(71,aS)] [(6,8),(13,14),(71,79)] .n))) (ak.tn (.two (ak.tn (.inn (.loop [(14,ca),(83,aS)] [(14,15),(16,17),(83,95)] .n))) .n)))))))))) d
def Qv:Prop:=
 af xv 41 #[] (.one (.arr (.int .u8))) h fun j k=>
 aO xv (qP 87 true (.tuple #[])) k fun a i=>
 ae xv (qf 87 a (xp (j.map (Sc.enc (.int .u8))).toArray)) i fun _ h3=>
 ∃x3:List (Int),(x3.length=255/\al h3 a 0 (x3.map (Sc.enc (.int .u8))))/\
 ∃b:List (Int),(b.length=255/\al h3 a 0 (b.map (Sc.enc (.int .u8))))/\
 af xv 42 #[(xp (b.map (Sc.enc (.int .u8))).toArray)] (.one (.arr (.int .i64))) h3 fun f c=>
 (aq.ok (lO a 0 (x3.map (Sc.enc (.int .u8))) []) c)/\
 ∃e:Value,(aJ xv (ve 92 #[(0,(xp (x3.map (Sc.enc (.int .u8))).toArray)),(1,(xp (f.map (Sc.enc (.int .i64))).toArray))]) e)/\
 aO xv (qH 92 e) c fun g d=>
 (aq.ok (lO a 0 (x3.map (Sc.enc (.int .u8))) []) d)/\
 R g d
theorem VQ(a:@Qv R h):ab xv 20 #[] h R:=ao ac func20 .n a
def Au(f:bm)(c:Int)(a:Sl):Prop:=
 aO xv (qH 25 f) h fun m j=>
 ∃x2:bm,al j m 0 x2/\
 af xv 43 #[x2] aK j fun e p=>
 aG (σ:=Sl×Int) (fun b k h3=>
 Br (b.2<(a.len:Int))
 (∃a5,(a.ptr=some a5/\0<=b.2/\b.2<(a.len:Int))/\
 ∃i,cellOf h3 (a5.add (b.2.toNat*1))=some (xk xq i)/\
 ∃l:bm,al h3 m 0 l/\
 af xv 44 #[l,(xk xt c),i] aK h3 fun g n=>
 Br (!(q9 g.ptr))
 (aw xv (qt 49 1 #[(0,g)]) aK n fun v9 q=>
 aw xv (qq #[49,49] 49 #[b.1,v9]) aK q fun d o=>
 k ((⟨d.ptr,d.len,d.cap⟩:Sl),qc xq (b.2+1)) o)
 (k ((⟨b.1.ptr,b.1.len,b.1.cap⟩:Sl),qc xq (b.2+1)) n))
 (R b.1 h3)) ((⟨e.ptr,e.len,e.cap⟩:Sl),(0:Int)) p
theorem Hu(c:bm)(a:Int)(b:Sl)(d:@Au R h c a b):ab xv 21 #[c,(xk xt a),b] h R:=ao ac func21 (ak.tn (ak.tn (.two (ak.tn (.inn (.loop [(7,ca),(15,aS)] [(7,8),(9,11),(15,30)] .n))) .n))) d
def Bz(b:bm):Prop:=
 aO xv (qH 25 b) h fun g d=>
 ∃x2,cellOf d g=some (xk xq x2)/\
 aG (σ:=Sl×Int) (fun a f c=>
 Br (decide (a.2<(if(if(16:Int)<x2 then(16:Int)else x2)>(0:Int)then(if(16:Int)<x2 then(16:Int)else x2)else(0:Int))))
 (aw xv (qt 38 1 #[(0,a.2)]) aK c fun v4 h3=>
 aw xv (qq #[38,38] 38 #[a.1,v4]) aK h3 fun v5 e=>
 f ((⟨v5.ptr,v5.len,v5.cap⟩:Sl),qc xq (a.2+1)) e)
 (R a.1 c)) ((⟨none,0,0⟩:Sl),(0:Int)) d
theorem IP(a:bm)(b:@Bz R h a):ab xv 22 #[a] h R:=ao ac func22 (ak.tn (ak.tn (.two (ak.tn (.inn (.loop [(3,ca),(9,aS)] [(3,5),(9,17)] .n))) .n))) b
def DR(c:bm)(a:Int)(b:Sl):Prop:=
 aO xv (qH 25 c) h fun j k=>
 af xv 45 #[] mL k fun e f=>
 ∃x3:bm,al f j 0 x3/\
 af xv 46 #[x3,a,e,b] (.many [Nr,aS]) f fun d h3=>
 Br (d.2 !=0)
 (R (.tuple #[(xm none),d.2]) h3)
 (∃v5:Value,(aJ xv (ve 103 #[(0,e),(1,d.1)]) v5)/\
 aO xv (qH 103 v5) h3 fun i g=>
 R (.tuple #[i,(xk xq 0)]) g)
theorem JS(c:bm)(a:Int)(b:Sl)(d:@DR R h c a b):ab xv 23 #[c,a,b] h R:=ao ac func23 .n d
def kR(b:aP)(ad:Qu):Prop:=
 aO xv (qH 71 ad) h fun e h1=>
 aO xv (qP 68 true (.tuple #[])) h1 fun d k=>
 Br (q9 b)
 (ae xv (qf 68 d (xp #[(xk xq 14),(xl none 0 0),(xl none 0 0),(xk xq 0),(xk xq 0),(xk xq 0),(xl none 0 0),(xk xq 0)])) k fun _ h3=>
 ∃j:Int×Sl×Sl×Int×Int×Int×Sl×Int,al h3 d 0 j/\
 R j h3)
 (aW (σ:=Unit) (fun _ o=>
 ∃S:Int×Sl×Sl×Int×Int×Int×Sl×Int,al o d 0 S/\
 ae xv (qf 68 d S) o fun _ E=>
 ∃f:Int×Sl×Sl×Int×Int×Int×Sl×Int,al E d 0 f/\
 R f E)
 (fun g=>
 ∃c,cellOf k e=some (xk xq c)/\
 aW (σ:=Bool) (fun s5 a=>
 Br s5
 (∃x6:Qu,al a e 0 x6/\
 af xv 47 #[b,x6] (.one (.agg [(.int .i64),.slc,.slc,(.int .i64),(.int .i64),(.int .i64),.slc,(.int .i64)])) a fun r7 h5=>
 ae xv (qf 68 d r7) h5 fun _ h6=>
 ∃i:Int×Sl×Sl×Int×Int×Int×Sl×Int,al h6 d 0 i/\
 R i h6)
 (Br (c==6)
 (∃a9,(b=some a9)/\
 ∃J:aP,cellOf a (a9.add 1)=some (.pointer J)/\
 ∃M,cellOf a (e.add 3)=some (xk xq M)/\
 ∃F,cellOf a (e.add 4)=some (xk xq F)/\
 af xv 48 #[J,M,F] bB a fun Z h7=>
 (aq.ok [] h7)/\
 ae xv (qf 31 d Z) h7 fun _ h8=>
 (aq.ok [] h8)/\
 g () h8)
 (Br (c==7)
 (∃q,(b=some q)/\
 ∃L:aP,cellOf a (q.add 1)=some (.pointer L)/\
 ∃n,cellOf a (e.add 3)=some (xk xq n)/\
 af xv 49 #[L,n] bB a fun Y h9=>
 (aq.ok [] h9)/\
 ae xv (qf 31 d Y) h9 fun _ l=>
 (aq.ok [] l)/\
 g () l)
 (Br (c==8)
 (∃D,(b=some D)/\
 ∃v:aP,cellOf a (D.add 1)=some (.pointer v)/\
 ∃r,cellOf a (e.add 3)=some (xk xq r)/\
 ∃z,cellOf a (e.add 4)=some (xk xq z)/\
 af xv 50 #[v,r,z] bB a fun a4 O=>
 (aq.ok [] O)/\
 ae xv (qf 31 d a4) O fun _ G=>
 (aq.ok [] G)/\
 g () G)
 (Br (c==9)
 (∃x,(b=some x)/\
 ∃U:aP,cellOf a (x.add 1)=some (.pointer U)/\
 ∃p,cellOf a (e.add 3)=some (xk xq p)/\
 af xv 51 #[U,p] bB a fun X t=>
 (aq.ok [] t)/\
 ae xv (qf 31 d X) t fun _ N=>
 (aq.ok [] N)/\
 g () N)
 (Br (c==10)
 (∃y,(b=some y)/\
 ∃s:aP,cellOf a (y.add 1)=some (.pointer s)/\
 ∃H,cellOf a (e.add 4)=some (xk xq H)/\
 ∃m,cellOf a (e.add 5)=some (xk xq m)/\
 af xv 52 #[s,H,m] (.many [aS,aS]) a fun W I=>
 (aq.ok [] I)/\
 ae xv (qf 3 (d.add 7) W.1) I fun _ V=>
 (aq.ok [] V)/\
 ae xv (qf 31 d W.2) V fun _ u=>
 (aq.ok [] u)/\
 g () u)
 (Br (c==11)
 (∃T:Qu,al a e 0 T/\
 af xv 53 #[b,T] bB a fun ap a3=>
 ae xv (qf 31 d ap) a3 fun _ a0=>
 g () a0)
 (Br (c==12)
 (∃B,(b=some B)/\
 ∃A:aP,cellOf a B=some (.pointer A)/\
 ∃K,cellOf a (e.add 4)=some (xk xq K)/\
 af xv 54 #[A,K] ic a fun _ P=>
 (aq.ok [] P)/\
 g () P)
 (Br (c==13)
 (∃w:Qu,al a e 0 w/\
 af xv 55 #[b,w] bB a fun am ah=>
 ae xv (qf 31 d am) ah fun _ ax=>
 g () ax)
 (ae xv (qf 31 d (xk xq 1)) a fun _ ay=>
 g () ay))))))))))
 (fun Q=>
 Br (c==1)
 (Q (c==1) k)
 (Br (c==2)
 (Q (c==2) k)
 (Br (c==3)
 (Q (c==3) k)
 (Br (c==4)
 (Q (c==4) k)
 (Q (c==5) k)))))))
theorem ni(a:aP)(b:Qu)(c:@kR R h a b):ab xv 24 #[a,b] h R:=ao ac func24 (ak.tn (ak.tn (.two (.join [] [(8,101)] (ak.tn (.inn (.two (.join [(11,lL)] [(11,17)] .n) .n)))) .n))) c
def JT(b:bm):Prop:=
 aO xv (qH 25 b) h fun c f=>
 ∃x2:bm,al f c 0 x2/\
 af xv 18 #[x2] bJ f fun g a=>
 Br (!g)
 (R (xk xq 0) a)
 (∃e,cellOf a c=some (xk xq e)/\
 ∃d,cellOf a (c.add 1)=some (xk xq d)/\
 R (qc xq (e+d)) a)
theorem Qx(a:bm)(b:@JT R h a):ab xv 25 #[a] h R:=ao ac func25 .n b
def DS(d:bm)(a:Int)(b:Sl):Prop:=
 aO xv (qH 25 d) h fun c g=>
 ∃x2:bm,al g c 0 x2/\
 af xv 20 #[] mL g fun j f=>
 (aq.ok [(c,x2.1),(c.add 1,x2.2.1),(c.add 2,x2.2.2)] f)/\
 af xv 21 #[x2,(xk xt a),b] aK f fun k h3=>
 (aq.ok [] h3)/\
 af xv 56 #[j,k] bB h3 fun i e=>
 (aq.ok [] e)/\
 R i e
theorem JU(c:bm)(a:Int)(b:Sl)(d:@DS R h c a b):ab xv 26 #[c,(xk xt a),b] h R:=ao ac func26 .n d
def FA(b:Sl):Prop:=
 aG (σ:=Sl×Int) (fun a j d=>
 Br (a.2<(b.len:Int))
 (∃e,(b.ptr=some e/\0<=a.2/\a.2<(b.len:Int))/\
 ∃x3:Int×Sl,al d (e.add (a.2.toNat*2)) 0 x3/\
 aO xv (qP 77 true (.tuple #[])) d fun a4 i=>
 ae xv (qf 77 a4 x3) i fun _ h3=>
 ∃f,cellOf h3 a4=some (xk xq f)/\
 aw xv (qt 38 1 #[(0,f)]) aK h3 fun l g=>
 aw xv (qq #[38,38] 38 #[a.1,l]) aK g fun c k=>
 j ((⟨c.ptr,c.len,c.cap⟩:Sl),qc xq (a.2+1)) k)
 (R a.1 d)) ((⟨none,0,0⟩:Sl),(0:Int)) h
theorem LO(a:Sl)(b:@FA R h a):ab xv 27 #[a] h R:=ao ac func27 (ak.tn (ak.tn (.two (ak.tn (.inn (.loop [(3,ca),(8,aS)] [(3,4),(5,6),(8,18)] .n))) .n))) b
def BA(H:bm)(b:Int)(n:Sl):Prop:=
 aO xv (qH 25 H) h fun f I=>
 aW (σ:=Unit) (fun _ M=>
 aW (σ:=Unit) (fun _ L=>
 ∃A:bm,al L f 0 A/\
 af xv 59 #[A,(xk xt b),n] (.many [ca,aS]) L fun g h8=>
 Br (g.2 !=0)
 (R (.tuple #[(xl none 0 0),g.2]) h8)
 (∃z,cellOf h8 f=some (xk xq z)/\
 aG (σ:=Sl×Int) (fun e V G=>
 Br (e.2<z)
 (∃p,cellOf G (f.add 2)=some (xk xq p)/\
 aw xv (qB 23 p p) aK G fun d q=>
 ∃r:bm,al q f 0 r/\
 af xv 31 #[r,(xk xt b),e.2] aK q fun m F=>
 aG (σ:=Int) (fun c O l=>
 Br (c<(m.len:Int))
 (∃y,(m.ptr=some y/\0<=c/\c<(m.len:Int))/\
 ∃i,cellOf l (y.add (c.toNat*1))=some (xk xq i)/\
 ∃u,(g.1.ptr=some u/\0<=i/\i<(g.1.len:Int))/\
 ∃k:Sl,cellOf l (u.add (i.toNat*1))=some (k:Value)/\
 aG (σ:=Int) (fun a N j=>
 Br (a<(k.len:Int))
 (∃v,(k.ptr=some v/\0<=a/\a<(k.len:Int))/\
 ∃s,cellOf j (v.add (a.toNat*1))=some (xk xr s)/\
 ∃t,(d.ptr=some t/\0<=a/\a<(d.len:Int))/\
 ∃w,cellOf j (t.add (a.toNat*1))=some (xk xr w)/\
 ∃a28,(d.ptr=some a28/\0<=a/\a<(d.len:Int))/\
 ae xv (qf 5 (a28.add (a.toNat*1)) (xk xr (qc xr ((qu (qk xr) w^^^(qu (qk xr) s)).toNat:Nat)))) j fun _ E=>
 N (qc xq (a+1)) E)
 (O (qc xq (c+1)) j)) (0:Int) l)
 (aw xv (qq #[23,23] 23 #[e.1,d]) aK l fun o D=>
 V ((⟨o.ptr,o.len,o.cap⟩:Sl),qc xq (e.2+1)) D)) (0:Int) F)
 (R (.tuple #[e.1,(xk xq 0)]) G)) ((⟨none,0,0⟩:Sl),(0:Int)) h8))
 (fun U=>
 ∃x:bm,al M f 0 x/\
 af xv 27 #[n] aK M fun Q K=>
 (aq.ok [(f,x.1),(f.add 1,x.2.1),(f.add 2,x.2.2)] K)/\
 af xv 34 #[x,(xk xt b),Q] bJ K fun P B=>
 (aq.ok [] B)/\
 Br (!P)
 (R (.tuple #[(xl none 0 0),(xk xq 9)]) B)
 (U () B)))
 (fun T=>
 ∃x2:bm,al I f 0 x2/\
 af xv 18 #[x2] bJ I fun S J=>
 Br (!S) (R (.tuple #[(xl none 0 0),(xk xq 1)]) J) (af xv 57 #[n,(.func (.func 58) #[] #[f])] bJ J fun W h3=>
 Br W
 (R (.tuple #[(xl none 0 0),(xk xq 1)]) h3)
 (T () h3)))
theorem IQ(c:bm)(a:Int)(b:Sl)(d:@BA R h c a b):ab xv 28 #[c,(xk xt a),b] h R:=ao ac func28 (ak.tn (.two (.join [] [(6,8),(17,25)] .n) (.two (.join [] [(6,8),(25,31)] .n) (ak.tn (ak.tn (ak.tn (.two (ak.tn (.inn (.loop [(10,ca),(43,aS)] [(10,13),(14,17),(43,81)] (ak.tn (ak.tn (.two (.inn (ak.tn (ak.tn (.two (ak.tn (.inn (.loop [(54,aS)] [(14,17),(54,77)] (ak.tn (ak.tn (.two (.inn (ak.tn (ak.tn (.inn (.loop [(63,aS)] [(15,17),(63,76)] .n))))) .n)))))) .n)))) .n)))))) .n))))))) d
def DT(a:Sl):Prop:=
 Br (q9 a.ptr)
 (R (xl none 0 0) h)
 (aw xv (qt 23 0 #[]) aK h fun d e=>
 aw xv (qq #[23,23] 23 #[d,a]) aK e fun c b=>
 R c b)
theorem JV(a:Sl)(b:@DT R h a):ab xv 29 #[a] h R:=ao ac func29 .n b
def BB(c:bm)(d:Int×Sl):Prop:=
 aO xv (qH 25 c) h fun i j=>
 aO xv (qH 77 d) j fun b a=>
 ∃x3,cellOf a b=some (xk xq x3)/\
 Br (x3>=0) (∃f,cellOf a b=some (xk xq f)/\
 Br (f<=65535) (∃e:Sl,cellOf a (b.add 1)=some (e:Value)/\
 ∃g,cellOf a (i.add 2)=some (xk xq g)/\
 R (xo ((e.len:Int)==g)) a) (R false a)) (R false a)
theorem IR(b:bm)(a:Int×Sl)(c:@BB R h b a):ab xv 30 #[b,a] h R:=ao ac func30 .n c
def Nu(g:bm)(b:Int)(a:Int):Prop:=
 aO xv (qH 25 g) h fun l j=>
 aW (σ:=Unit) (fun _ h3=>
 ∃k:bm,al h3 l 0 k/\
 af xv 25 #[k] bB h3 fun i t=>
 af xv 60 #[(xk xt (qc xt ((qu (qk xt) b^^^(qu (qk xt) (qc xt ((qc xt a)*2654435761)))).toNat:Nat)))] mL t fun f p=>
 af xv 61 #[f] (.one (.sc (.int .u32))) p fun _ m=>
 af xv 63 #[i] aK m fun q s=>
 af xv 62 #[q,f] bB s fun e h8=>
 af xv 64 #[f,i,e] aK h8 fun d r=>
 R d r)
 (fun o=>
 ∃x2:bm,al j l 0 x2/\
 af xv 18 #[x2] bJ j fun n c=>
 Br (!n) (R (xl none 0 0) c) (Br (a<0) (R (xl none 0 0) c) (Br (a>65535)
 (R (xl none 0 0) c)
 (o () c))))
theorem SX(c:bm)(a:Int)(b:Int)(d:@Nu R h c a b):ab xv 31 #[c,(xk xt a),b] h R:=ao ac func31 (ak.tn (.two (.join [] [(6,7),(10,21)] .n) .n)) d
def nj(a:Sl):Prop:=
 af xv 65 #[a] aK h fun c b=>
 R (xk xq (c.len:Int)) b
theorem uR(a:Sl)(b:@nj R h a):ab xv 32 #[a] h R:=ao ac func32 .n b
def lW(m:bm)(c:Int)(a:Sl):Prop:=
 aO xv (qH 25 m) h fun n q=>
 ∃x2:bm,al q n 0 x2/\
 af xv 66 #[x2] bJ q fun u j=>
 Br (!u)
 (R (xl none 0 0) j)
 (∃p:bm,al j n 0 p/\
 af xv 67 #[p] aK j fun l h3=>
 aG (σ:=Sl×Int) (fun b s o=>
 Br (b.2<(a.len:Int))
 (∃r,(a.ptr=some r/\0<=b.2/\b.2<(a.len:Int))/\
 ∃g,cellOf o (r.add (b.2.toNat*1))=some (xk xq g)/\
 af xv 68 #[g] bJ o fun v k=>
 Br v
 (∃e:bm,al k n 0 e/\
 af xv 69 #[e,(xk xt c),g] aK k fun f t=>
 aw xv (qt 49 1 #[(0,f)]) aK t fun i w=>
 aw xv (qq #[49,49] 49 #[b.1,i]) aK w fun d h8=>
 s ((⟨d.ptr,d.len,d.cap⟩:Sl),qc xq (b.2+1)) h8)
 (s ((⟨b.1.ptr,b.1.len,b.1.cap⟩:Sl),qc xq (b.2+1)) k))
 (R b.1 o)) ((⟨l.ptr,l.len,l.cap⟩:Sl),(0:Int)) h3)
theorem sQ(c:bm)(a:Int)(b:Sl)(d:@lW R h c a b):ab xv 33 #[c,(xk xt a),b] h R:=ao ac func33 (ak.tn (ak.tn (ak.tn (.two (ak.tn (.inn (.loop [(7,ca),(17,aS)] [(7,8),(9,10),(17,31)] .n))) .n)))) d
def DU(f:bm)(a:Int)(b:Sl):Prop:=
 aO xv (qH 25 f) h fun d j=>
 ∃x2:bm,al j d 0 x2/\
 af xv 18 #[x2] bJ j fun k c=>
 (aq.ok [] c)/\
 Br k (∃i:bm,al c d 0 i/\
 ∃e:bm,al c d 0 e/\
 af xv 26 #[i,(xk xt a),b] bB c fun m h3=>
 (aq.ok [(d,e.1),(d.add 1,e.2.1),(d.add 2,e.2.2)] h3)/\
 af xv 25 #[e] bB h3 fun l g=>
 (aq.ok [] g)/\
 R (xo (m==l)) g) ((aq.ok [] c)/\
 (aq.ok [] c)/\
 R false c)
theorem JW(c:bm)(a:Int)(b:Sl)(d:@DU R h c a b):ab xv 34 #[c,(xk xt a),b] h R:=ao ac func34 .n d
def Nv(a:Sl):Prop:=
 aG (σ:=Int) (fun c f b=>
 Br (c<(a.len:Int))
 (∃d,(a.ptr=some d/\0<=c/\c<(a.len:Int))/\
 ∃x3:Sl,cellOf b (d.add (c.toNat*1))=some (x3:Value)/\
 ∃a4,(a.ptr=some a4/\0<=(0:Int)/\(0:Int)<(a.len:Int))/\
 ∃e:Sl,cellOf b (a4.add ((0:Int).toNat*1))=some (e:Value)/\
 Br ((x3.len:Int) !=(e.len:Int)) (R false b) (Br ((x3.len:Int)>64)
 (R false b)
 (f (qc xq (c+1)) b)))
 (R true b)) (0:Int) h
theorem SY(a:Sl)(b:@Nv R h a):ab xv 35 #[a] h R:=ao ac func35 (ak.tn (.two (ak.tn (.inn (.loop [(7,aS)] [(2,3),(4,5),(7,24)] .n))) .n)) b
def HL(a:Sl):Prop:=
 Br ((a.len:Int)==0)
 (R (xk xq 0) h)
 (∃b,(a.ptr=some b/\0<=(0:Int)/\(0:Int)<(a.len:Int))/\
 ∃x2:Sl,cellOf h (b.add ((0:Int).toNat*1))=some (x2:Value)/\
 R (xk xq (x2.len:Int)) h)
theorem Om(a:Sl)(b:@HL R h a):ab xv 36 #[a] h R:=ao ac func36 .n b
def Nw(a:Sl):Prop:=
 aw xv (qB 49 (xk xq 0) (xk xq (a.len:Int))) aK h fun e l=>
 aG (σ:=Sl×Int) (fun b j d=>
 Br (b.2<(a.len:Int))
 (∃a3,(a.ptr=some a3/\0<=b.2/\b.2<(a.len:Int))/\
 ∃f:Sl,cellOf d (a3.add (b.2.toNat*1))=some (f:Value)/\
 af xv 29 #[f] aK d fun i h3=>
 aw xv (qt 49 1 #[(0,i)]) aK h3 fun m g=>
 aw xv (qq #[49,49] 49 #[b.1,m]) aK g fun c k=>
 j ((⟨c.ptr,c.len,c.cap⟩:Sl),qc xq (b.2+1)) k)
 (R b.1 d)) ((⟨e.ptr,e.len,e.cap⟩:Sl),(0:Int)) l
theorem SZ(a:Sl)(b:@Nw R h a):ab xv 37 #[a] h R:=ao ac func37 (ak.tn (ak.tn (.two (ak.tn (.inn (.loop [(3,ca),(11,aS)] [(3,4),(5,6),(11,21)] .n))) .n))) b
def FB(j:aP)(a:Sl)(i:Int):Prop:=
 aG (σ:=Int×Int) (fun b I G=>
 Br (b.2<i)
 (af xv 70 #[a,b.1,b.2] bB G fun l x=>
 Br (l<0)
 (I (b.1,qc xq (b.2+1)) x)
 (aW (σ:=Unit) (fun _ y=>
 aW (σ:=Unit) (fun _ O=>
 aG (σ:=Int) (fun c B d=>
 Br (c<(a.len:Int))
 (Br (c !=b.1)
 (∃m,(a.ptr=some m/\0<=c/\c<(a.len:Int))/\
 ∃g:Sl,cellOf d (m.add (c.toNat*1))=some (g:Value)/\
 ∃q,(g.ptr=some q/\0<=b.2/\b.2<(g.len:Int))/\
 ∃o,cellOf d (q.add (b.2.toNat*1))=some (xk xr o)/\
 ∃a25,(a.ptr=some a25/\0<=b.1/\b.1<(a.len:Int))/\
 ∃p:Sl,cellOf d (a25.add (b.1.toNat*1))=some (p:Value)/\
 ∃s,(a.ptr=some s/\0<=c/\c<(a.len:Int))/\
 ∃w:Sl,cellOf d (s.add (c.toNat*1))=some (w:Value)/\
 af xv 73 #[j,(xk xr o),p,w] ic d fun _ v=>
 (aq.ok [(m.add (c.toNat*1),g)] v)/\
 B (qc xq (c+1)) v)
 (B (qc xq (c+1)) d))
 (I (qc xq (b.1+1),qc xq (b.2+1)) d)) (0:Int) O)
 (fun N=>
 ∃f,(a.ptr=some f/\0<=b.1/\b.1<(a.len:Int))/\
 ∃e:Sl,cellOf y (f.add (b.1.toNat*1))=some (e:Value)/\
 ∃r,(e.ptr=some r/\0<=b.2/\b.2<(e.len:Int))/\
 ∃u,cellOf y (r.add (b.2.toNat*1))=some (xk xr u)/\
 ∃k,(a.ptr=some k/\0<=b.1/\b.1<(a.len:Int))/\
 ∃n:Sl,cellOf y (k.add (b.1.toNat*1))=some (n:Value)/\
 af xv 72 #[j,(xk xr u)] (.one (.sc (.int .u8))) y fun z E=>
 (aq.ok [(k.add (b.1.toNat*1),n),(f.add (b.1.toNat*1),e)] E)/\
 af xv 71 #[j,(xk xr z),n] aK E fun A K=>
 (aq.ok [(f.add (b.1.toNat*1),e)] K)/\
 ∃t,(a.ptr=some t/\0<=b.1/\b.1<(a.len:Int))/\
 ae xv (qf 23 (t.add (b.1.toNat*1)) A) K fun _ h8=>
 (aq.ok [] h8)/\
 N () h8))
 (fun M=>
 ∃a3,(a.ptr=some a3/\0<=l/\l<(a.len:Int))/\
 ∃D:Sl,cellOf x (a3.add (l.toNat*1))=some (D:Value)/\
 ∃a5,(a.ptr=some a5/\0<=b.1/\b.1<(a.len:Int))/\
 ∃F:Sl,cellOf x (a5.add (b.1.toNat*1))=some (F:Value)/\
 ∃H,(a.ptr=some H/\0<=b.1/\b.1<(a.len:Int))/\
 ae xv (qf 23 (H.add (b.1.toNat*1)) D) x fun _ h3=>
 (aq.ok [] h3)/\
 ∃J,(a.ptr=some J/\0<=l/\l<(a.len:Int))/\
 ae xv (qf 23 (J.add (l.toNat*1)) F) h3 fun _ L=>
 (aq.ok [] L)/\
 M () L)))
 (R b.1 G)) ((0:Int),(0:Int)) h
theorem LP(b:aP)(c:Sl)(a:Int)(d:@FB R h b c a):ab xv 38 #[b,c,a] h R:=ao ac func38 (ak.tn (ak.tn (.two (ak.tn (.inn (.loop [(7,aS),(12,aS)] [(7,11),(12,82)] (ak.tn (ak.tn (.two (.inn (ak.tn (ak.tn (ak.tn (.two (.join [] [(21,35)] .n) (.two (.join [] [(35,53)] .n) (.two (ak.tn (.inn (.loop [(55,aS)] [(10,11),(55,79)] .n))) .n))))))) .n)))))) .n))) d
def JX(a:aP):Prop:=
 Br (q9 a)
 (af xv 20 #[] mL h fun c b=>
 R c b)
 (R a h)
theorem Qy(a:aP)(b:@JX R h a):ab xv 39 #[a] h R:=ao ac func39 .n b
def JY(a:Sl):Prop:=
 af xv 74 #[a,(.func (.func 75) #[] #[])] bB h fun c b=>
 R c b
theorem Qz(a:Sl)(b:@JY R h a):ab xv 40 #[a] h R:=ao ac func40 .n b
def HM:Prop:=
 aO xv (qP 87 true (.tuple #[])) h fun c k=>
 aG (σ:=Int×Int) (fun b j d=>
 Br (b.2<255)
 ((0<=b.2/\b.2<((255:Nat):Int))/\
 ae xv (qf 5 (c.add (b.2.toNat*1)) (xk xr b.1)) d fun _ h3=>
 af xv 76 #[(xk xr b.1),(xk xr 3)] (.one (.sc (.int .u8))) h3 fun i g=>
 j (i,qc xq (b.2+1)) g)
 (∃e:List (Int),(e.length=255/\al d c 0 (e.map (Sc.enc (.int .u8))))/\
 ae xv (qf 87 c (xp (e.map (Sc.enc (.int .u8))).toArray)) d fun _ f=>
 ∃a:List (Int),(a.length=255/\al f c 0 (a.map (Sc.enc (.int .u8))))/\
 R (xp (a.map (Sc.enc (.int .u8))).toArray) f)) ((1:Int),(0:Int)) k
theorem On(a:@HM R h):ab xv 41 #[] h R:=ao ac func41 (ak.tn (ak.tn (.two (ak.tn (.inn (.loop [(1,(.sc (.int .u8))),(3,aS)] [(1,12)] .n))) .n))) a
def Nx(e:List (Int)):Prop:=
 aO xv (qH 87 (xp (e.map (Sc.enc (.int .u8))).toArray)) h fun l m=>
 aO xv (qP 89 true (.tuple #[])) m fun c g=>
 ∃x3:List (Int),(x3.length=255/\al g l 0 (x3.map (Sc.enc (.int .u8))))/\
 aG (σ:=Int) (fun b k h3=>
 Br (b<255)
 (∃d:Int,(0<=b/\b<((255:Nat):Int)/\((x3.map (Sc.enc (.int .u8))).toArray:Array Value)[b.toNat]?=some (xk xr d))/\
 (0<=d/\d<((256:Nat):Int))/\
 ae xv (qf 3 (c.add (d.toNat*1)) b) h3 fun _ j=>
 k (qc xq (b+1)) j)
 (∃f:List (Int),(f.length=256/\al h3 c 0 (f.map (Sc.enc (.int .i64))))/\
 ae xv (qf 89 c (xp (f.map (Sc.enc (.int .i64))).toArray)) h3 fun _ i=>
 ∃a:List (Int),(a.length=256/\al i c 0 (a.map (Sc.enc (.int .i64))))/\
 R (xp (a.map (Sc.enc (.int .i64))).toArray) i)) (0:Int) g
theorem Ta(a:List (Int))(b:@Nx R h a):ab xv 42 #[(xp (a.map (Sc.enc (.int .u8))).toArray)] h R:=ao ac func42 (ak.tn (.two (ak.tn (.inn (.loop [(6,aS)] [(3,5),(6,14)] .n))) .n)) b
def JZ(q:bm):Prop:=
 aO xv (qH 25 q) h fun e s=>
 ∃x2:bm,al s e 0 x2/\
 af xv 18 #[x2] bJ s fun y t=>
 Br (!y)
 (R (xl none 0 0) t)
 (af xv 20 #[] mL t fun F h3=>
 ∃u,cellOf h3 (e.add 1)=some (xk xq u)/\
 aG (σ:=Sl×Int) (fun f z k=>
 Br (f.2<u)
 (aW (σ:=Sl) (fun c x=>
 ∃g,cellOf x e=some (xk xq g)/\
 aG (σ:=Int) (fun a B h8=>
 Br (a<g)
 (af xv 78 #[F,(qc xq ((qc xq (f.2+1))*(qc xq (a+1))))] (.one (.sc (.int .u8))) h8 fun p D=>
 ∃i,(c.ptr=some i/\0<=a/\a<(c.len:Int))/\
 ae xv (qf 5 (i.add (a.toNat*1)) (xk xr p)) D fun _ l=>
 B (qc xq (a+1)) l)
 (aw xv (qt 49 1 #[(0,c)]) aK h8 fun m o=>
 aw xv (qq #[49,49] 49 #[f.1,m]) aK o fun b n=>
 z ((⟨b.ptr,b.len,b.cap⟩:Sl),qc xq (f.2+1)) n)) (0:Int) x)
 (fun A=>
 ∃w:bm,al k e 0 w/\
 ∃j,cellOf k e=some (xk xq j)/\
 af xv 25 #[w] bB k fun E v=>
 (aq.ok [(e,j)] v)/\
 af xv 77 #[E,(qc xq (j+f.2))] aK v fun d r=>
 (aq.ok [(e,j)] r)/\
 A (⟨d.ptr,d.len,d.cap⟩:Sl) r))
 (R f.1 k)) ((⟨none,0,0⟩:Sl),(0:Int)) h3)
theorem QA(a:bm)(b:@JZ R h a):ab xv 43 #[a] h R:=ao ac func43 (ak.tn (ak.tn (ak.tn (ak.tn (.two (ak.tn (.inn (.loop [(4,ca),(14,aS)] [(4,8),(14,45)] (ak.tn (ak.tn (.two (.inn (ak.tn (.two (.join [(6,ca)] [(6,7),(17,24)] .n) (.two (ak.tn (.inn (.loop [(26,aS)] [(7,8),(26,40)] .n))) .n)))) .n)))))) .n))))) b
def QB(l:bm)(d:Int)(a:Int):Prop:=
 aO xv (qH 25 l) h fun m p=>
 aW (σ:=Unit) (fun _ h3=>
 ∃q:bm,al h3 m 0 q/\
 af xv 25 #[q] bB h3 fun n w=>
 aw xv (qB 23 n n) aK w fun i r=>
 ∃o:bm,al r m 0 o/\
 af xv 31 #[o,(xk xt d),a] aK r fun j s=>
 aG (σ:=Int) (fun b v k=>
 Br (b<(j.len:Int))
 (∃f,(j.ptr=some f/\0<=b/\b<(j.len:Int))/\
 ∃c,cellOf k (f.add (b.toNat*1))=some (xk xq c)/\
 ∃e,(i.ptr=some e/\0<=c/\c<(i.len:Int))/\
 ae xv (qf 5 (e.add (c.toNat*1)) (xk xr 1)) k fun _ h8=>
 v (qc xq (b+1)) h8)
 (R i k)) (0:Int) s)
 (fun u=>
 ∃x2:bm,al p m 0 x2/\
 af xv 18 #[x2] bJ p fun t g=>
 Br (!t) (R (xl none 0 0) g) (Br (a<0) (R (xl none 0 0) g) (Br (a>65535)
 (R (xl none 0 0) g)
 (u () g))))
theorem VR(c:bm)(a:Int)(b:Int)(d:@QB R h c a b):ab xv 44 #[c,(xk xt a),b] h R:=ao ac func44 (ak.tn (.two (.join [] [(6,7),(10,21)] .n) (ak.tn (.two (ak.tn (.inn (.loop [(29,aS)] [(9,10),(29,37)] .n))) .n)))) d
def HN:Prop:=
 aO xv (qH 131 (xp #[false,false,(xk xq 0),(xk xq 0)])) h fun a b=>
 R a b
theorem Oo(a:@HN R h):ab xv 45 #[] h R:=ao ac func45 .n a
def BC(I:bm)(b:Int)(d:aP)(a:Sl):Prop:=
 aO xv (qH 25 I) h fun m P=>
 af xv 79 #[a] (.many [ca,lL]) P fun l G=>
 aW (σ:=Unit) (fun _ M=>
 aW (σ:=aP) (fun g U=>
 aG (σ:=Int) (fun f T h8=>
 Br (f<(l.1.len:Int))
 (∃r,(l.1.ptr=some r/\0<=f/\f<(l.1.len:Int))/\
 ∃j,cellOf h8 (r.add (f.toNat*1))=some (xk xq j)/\
 ∃n,(a.ptr=some n/\0<=j/\j<(a.len:Int))/\
 ∃o,cellOf h8 (n.add (j.toNat*1))=some (xk xq o)/\
 ∃q,(g=some q)/\
 ∃u:di,al h8 q 0 u/\
 af xv 81 #[u] aK h8 fun F H=>
 (aq.ok [(n.add (j.toNat*1),o)] H)/\
 Br (o<(F.len:Int))
 (R (.tuple #[(xm none),(xk xq 7)]) H)
 (T (qc xq (f+1)) H))
 (aG (σ:=Int) (fun i N e=>
 Br (i<(l.1.len:Int))
 (∃A,(l.1.ptr=some A/\0<=i/\i<(l.1.len:Int))/\
 ∃c,cellOf e (A.add (i.toNat*1))=some (xk xq c)/\
 ∃a22,(a.ptr=some a22/\0<=c/\c<(a.len:Int))/\
 ∃w,cellOf e (a22.add (c.toNat*1))=some (xk xq w)/\
 ∃s,(g=some s)/\
 af xv 82 #[w,d] mL e fun E z=>
 (aq.ok [] z)/\
 (0<=c/\c<((64:Nat):Int))/\
 ae xv (qf 100 ((s.add 10).add (c.toNat*1)) E) z fun _ v=>
 (aq.ok [] v)/\
 N (qc xq (i+1)) v)
 (∃p,(g=some p)/\
 ∃t:di,al e p 0 t/\
 af xv 85 #[t,l.1] aK e fun B D=>
 af xv 83 #[(.func (.func 84) #[g] #[]),B] bB D fun x y=>
 Br (x !=0)
 (R (.tuple #[(xm none),x]) y)
 (R (.tuple #[g,(xk xq 0)]) y))) (0:Int) h8)) (0:Int) U)
 (fun S=>
 ∃k:bm,al M m 0 k/\
 af xv 80 #[d] bB M fun O K=>
 (aq.ok [(m,k.1),(m.add 1,k.2.1),(m.add 2,k.2.2)] K)/\
 ∃L:Value,(aJ xv (ve 138 #[(0,(xp #[(xk xq 1),(xk xq 0),k.1,k.2.1,k.2.2,b,l.1,(xl none 0 0)])),(1,d),(2,O)]) L)/\
 aO xv (qH 138 L) K fun a9 J=>
 (aq.ok [(m,k.1),(m.add 1,k.2.1),(m.add 2,k.2.2)] J)/\
 S (some a9) J))
 (fun Q=>
 Br (!l.2) (R (.tuple #[(xm none),(xk xq 1)]) G) (∃x3:bm,al G m 0 x3/\
 af xv 18 #[x3] bJ G fun V h3=>
 Br (!V) (R (.tuple #[(xm none),(xk xq 1)]) h3) (Br (b<0) (R (.tuple #[(xm none),(xk xq 1)]) h3) (Br (b>16) (R (.tuple #[(xm none),(xk xq 1)]) h3) (Br (q9 d)
 (R (.tuple #[(xm none),(xk xq 1)]) h3)
 (Q () h3))))))
theorem IS(d:bm)(b:Int)(c:aP)(a:Sl)(e:@BC R h d b c a):ab xv 46 #[d,b,c,a] h R:=ao ac func46 (ak.tn (ak.tn (.two (.join [] [(8,10),(23,42)] .n) (.two (.join [(12,Nr)] [(12,13),(42,51)] .n) (.two (ak.tn (.inn (.loop [(53,aS)] [(8,10),(14,15),(53,69)] .n))) (.two (ak.tn (.inn (.loop [(71,aS)] [(16,17),(71,87)] .n))) .n)))))) e
def jR(b:aP)(G:Qu):Prop:=
 aO xv (qH 71 G) h fun g V=>
 aO xv (qP 68 true (.tuple #[])) V fun c a=>
 aW (σ:=Unit) (fun _ A=>
 ∃j:Int×Sl×Sl×Int×Int×Int×Sl×Int,al A c 0 j/\
 ae xv (qf 68 c j) A fun _ s=>
 ∃d:Int×Sl×Sl×Int×Int×Int×Sl×Int,al s c 0 d/\
 R d s)
 (fun f=>
 ∃x3,cellOf a g=some (xk xq x3)/\
 Br (x3==1)
 (∃a4,(b=some a4)/\
 ∃N:aP,cellOf a (a4.add 1)=some (.pointer N)/\
 ∃M:ByteArray,cellOf a (g.add 1)=some (xn M)/\
 ∃P:Sl,cellOf a (g.add 2)=some (P:Value)/\
 af xv 86 #[N,M,P] bB a fun U h3=>
 (aq.ok [] h3)/\
 ae xv (qf 31 c U) h3 fun _ T=>
 (aq.ok [] T)/\
 f () T)
 (Br (x3==2)
 (∃a9,(b=some a9)/\
 ∃u:aP,cellOf a (a9.add 1)=some (.pointer u)/\
 ∃y:ByteArray,cellOf a (g.add 1)=some (xn y)/\
 af xv 87 #[u,y] (.many [ca,aS]) a fun x O=>
 (aq.ok [] O)/\
 ae xv (qf 23 (c.add 1) x.1) O fun _ L=>
 (aq.ok [] L)/\
 ae xv (qf 31 c x.2) L fun _ S=>
 (aq.ok [] S)/\
 f () S)
 (Br (x3==3)
 (∃r,(b=some r)/\
 ∃z:aP,cellOf a (r.add 1)=some (.pointer z)/\
 ∃w:ByteArray,cellOf a (g.add 1)=some (xn w)/\
 af xv 88 #[z,w] bB a fun F h8=>
 (aq.ok [] h8)/\
 ae xv (qf 31 c F) h8 fun _ Q=>
 (aq.ok [] Q)/\
 f () Q)
 (Br (x3==4)
 (∃k,(b=some k)/\
 ∃n:aP,cellOf a (k.add 1)=some (.pointer n)/\
 af xv 89 #[n] aK a fun H E=>
 ae xv (qf 64 (c.add 2) H) E fun _ e=>
 ∃B,(b=some B)/\
 ∃p:aP,cellOf e (B.add 1)=some (.pointer p)/\
 Br (q9 p) (ae xv (qf 31 c (xk xq 14)) e fun _ I=>
 f () I) (∃a22,(b=some a22)/\
 ∃v:aP,cellOf e (a22.add 1)=some (.pointer v)/\
 af xv 90 #[v] bJ e fun J l=>
 Br J
 (ae xv (qf 31 c (xk xq 14)) l fun _ K=>
 f () K)
 (f () l)))
 (Br (x3==5)
 (∃a25,(b=some a25)/\
 ∃o:aP,cellOf a (a25.add 1)=some (.pointer o)/\
 ∃q:ByteArray,cellOf a (g.add 1)=some (xn q)/\
 af xv 91 #[o,q] (.many [(.agg [(.int .i64),(.int .i64),(.int .i64),.slc]),aS]) a fun i t=>
 (aq.ok [] t)/\
 ae xv (qf 66 (c.add 3) i.1) t fun _ D=>
 (aq.ok [] D)/\
 ae xv (qf 31 c i.2) D fun _ m=>
 (aq.ok [] m)/\
 f () m)
 (f () a))))))
theorem lX(a:aP)(b:Qu)(c:@jR R h a b):ab xv 47 #[a,b] h R:=ao ac func47 (ak.tn (.two (.join [] [(5,78)] .n) .n)) c
end
end Go.Qw
