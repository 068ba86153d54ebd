/- Lemmas. -/
import Derived.Test.YtadfimdanpoafaaGreatDoorPlA
import Derived.Test.YtadfimdanpoafaaGreatDoorProg
set_option linter.unusedVariables false
open Go.Proofs.Tryz renaming prog -> xx
open Go.Value renaming agg -> xr, bool -> xq, int -> xl, pointer -> xo, slice -> xn, string -> xp
open Go.IntKind renaming i64 -> xt, u32 -> xv, u64 -> xw, u8 -> xu, wrap -> qc
open List renaming replicate -> qg, toArray -> yw
open Go.Instr renaming alloc -> qK, box -> qM, build -> va, buildSlice -> qt, storeAt -> qf
open Go.Builtin renaming append_ -> qw
open Option renaming isNone -> ze
open Int renaming tdiv -> wI, tmod -> z7
open Go.Proofs.Tryz
set_option maxRecDepth 1000000
namespace Go.Qw
noncomputable section
open Go Go.Vc Go.Proofs
instance:Coe Int Value:=⟨fun x=>xl xt x⟩
instance:Coe Sl Value:=⟨fun s=>xn s.ptr s.len s.cap⟩
instance:Coe ByteArray Value:=⟨.string⟩
instance:Coe (Option Addr) Value:=⟨.pointer⟩
instance:Coe Addr Value:=⟨fun a=>xo (some a)⟩
instance:Coe Bool Value:=⟨.bool⟩
instance:Coe (Int×Int×Int) (List Value):=⟨fun x=>[x.1,x.2.1,x.2.2]⟩
instance:Coe (Int×Int×Int) Value:=⟨fun x=>xr (yw x)⟩
instance:Coe (Int×ByteArray×Sl×Int×Int×Int×Int×Sl×Sl) (List Value):=⟨fun x=>[x.1,x.2.1,x.2.2.1,x.2.2.2.1,x.2.2.2.2.1,x.2.2.2.2.2.1,(xl xv x.2.2.2.2.2.2.1),x.2.2.2.2.2.2.2.1,x.2.2.2.2.2.2.2.2]⟩
instance:Coe (Int×ByteArray×Sl×Int×Int×Int×Int×Sl×Sl) Value:=⟨fun x=>xr (yw x)⟩
instance:Coe (Int×Int×Int×Sl) (List Value):=⟨fun x=>[x.1,x.2.1,x.2.2.1,x.2.2.2]⟩
instance:Coe (Int×Int×Int×Sl) Value:=⟨fun x=>xr (yw x)⟩
instance:Coe (Int×Int×Int×Int×Int×Int×Sl×Sl) (List Value):=⟨fun x=>[x.1,x.2.1,x.2.2.1,x.2.2.2.1,x.2.2.2.2.1,x.2.2.2.2.2.1,x.2.2.2.2.2.2.1,x.2.2.2.2.2.2.2]⟩
instance:Coe (Int×Int×Int×Int×Int×Int×Sl×Sl) Value:=⟨fun x=>xr (yw x)⟩
instance:Coe (ByteArray×Int×Int×Sl) (List Value):=⟨fun x=>[x.1,x.2.1,x.2.2.1,x.2.2.2]⟩
instance:Coe (ByteArray×Int×Int×Sl) Value:=⟨fun x=>xr (yw x)⟩
instance:Coe (Int×Int×Int×Int×Int×Int×Int×Sl) (List Value):=⟨fun x=>[x.1,x.2.1,x.2.2.1,x.2.2.2.1,x.2.2.2.2.1,x.2.2.2.2.2.1,(xl xv x.2.2.2.2.2.2.1),x.2.2.2.2.2.2.2]⟩
instance:Coe (Int×Int×Int×Int×Int×Int×Int×Sl) Value:=⟨fun x=>xr (yw x)⟩
instance:Coe (Int×Sl) (List Value):=⟨fun x=>[x.1,x.2]⟩
instance:Coe (Int×Sl) Value:=⟨fun x=>xr (yw x)⟩
instance:Coe (Int×Int) (List Value):=⟨fun x=>[x.1,x.2]⟩
instance:Coe (Int×Int) Value:=⟨fun x=>xr (yw x)⟩
instance:Coe (Sl×Sl) (List Value):=⟨fun x=>[x.1,x.2]⟩
instance:Coe (Sl×Sl) Value:=⟨fun x=>xr (yw x)⟩
instance:Coe (Sl×Sl×Sl) (List Value):=⟨fun x=>[x.1,x.2.1,x.2.2]⟩
instance:Coe (Sl×Sl×Sl) Value:=⟨fun x=>xr (yw x)⟩
abbrev bH:=Int×Int×Int
abbrev cJ:=Int×Int×Int×Int×Int×Int×Sl×Sl
abbrev df:=Int×Int×Int×Int×Int×Int×Int×Sl
abbrev iX:=ByteArray×Int×Int×Sl
abbrev BN:=Int×ByteArray×Sl×Int×Int×Int×Int×Sl×Sl
abbrev Tu5:=Int×Int×Int×Sl
abbrev Tu6:=Sl×Sl×Int
abbrev Tu7:=Sl×Int×Int
abbrev Tu8:=Int×Int×Int×Bool×Bool
abbrev FH:Rt:=.one (.agg [(.int .i64),(.int .i64),(.int .i64),(.int .i64),(.int .i64),(.int .i64),.slc,.slc])
abbrev afR:Ty:=.agg [(.int .i64),(.int .i64),(.int .i64),(.int .i64),(.int .i64),(.int .i64),(.int .u32),.slc]
abbrev aaF:Rt:=.one (.agg [(.int .i64),(.int .i64),(.int .i64)])
abbrev aH:Rt:=.one (.sc .slc)
abbrev bt:Rt:=.one (.sc (.int .i64))
abbrev jp:Rt:=.one (.sc .ptr)
abbrev bE:Rt:=.one (.sc .bool)
abbrev gF:Rt:=.many []
abbrev cv:Ty:=.sc .slc
abbrev aZ:Ty:=.sc (.int .i64)
abbrev FI:Ty:=.sc .ptr
abbrev mg:Ty:=.sc .bool
abbrev Kx:Ty:=.sc .str
variable {R:AX} {h:Heap}
def Yc:ByteArray:=⟨#[0]⟩
def VI:ByteArray:=⟨#[99,97,116,45,55]⟩
def adm:ByteArray:=⟨#[100]⟩
def FJ:ByteArray:=⟨#[101,49,50,51,52,53,54,55,56,57,48,49]⟩
def adn:ByteArray:=⟨#[98]⟩
def np:ByteArray:=⟨#[]⟩
def ado:ByteArray:=⟨#[97]⟩
abbrev aR:TI:=⟨.fn,(.sc .fn),1,8,[.nilFunc]⟩
abbrev ti1:TI:=⟨.int .i64,(.sc (.int .i64)),1,8,[(xl xt 0)]⟩
abbrev ti2:TI:=⟨.int .u8,(.sc (.int .u8)),1,1,[(xl xu 0)]⟩
abbrev ti3:TI:=⟨.str,(.sc .str),1,16,[(.string ⟨#[]⟩)]⟩
abbrev ti4:TI:=⟨.int .u64,(.sc (.int .u64)),1,8,[(xl xw 0)]⟩
abbrev ti5:TI:=⟨.int .i32,(.sc (.int .i32)),1,4,[(.int .i32 0)]⟩
abbrev ti6:TI:=⟨.struct [(0,3),(1,3),(2,3)],(.agg [(.int .i64),(.int .i64),(.int .i64)]),3,24,[(xl xt 0),(xl xt 0),(xl xt 0)]⟩
abbrev ti7:TI:=⟨.other,(.sc .any),1,0,[(.tuple #[(xo none),(xl xt 0)])]⟩
abbrev ti8:TI:=⟨.other,(.sc .any),1,0,[(.tuple #[(xn none 0 0),(.bool .false)])]⟩
abbrev ti9:TI:=⟨.struct [(0,4),(1,4),(2,3),(3,3)],(.agg [.bool,.bool,(.int .i64),(.int .i64)]),4,24,[(.bool .false),(.bool .false),(xl xt 0),(xl xt 0)]⟩
abbrev QH:TI:=⟨.struct [(0,3),(1,35)],(.agg [(.int .i64),.slc]),2,32,[(xl xt 0),(xn none 0 0)]⟩
abbrev VJ:TI:=⟨.struct [(0,24),(3,36),(4,40)],(.agg [(.int .i64),(.int .i64),(.int .i64),(.int .u32),.slc]),5,56,[(xl xt 0),(xl xt 0),(xl xt 0),(xl xv 0),(xn none 0 0)]⟩
abbrev VK:TI:=⟨.struct [(0,3),(1,3)],(.agg [(.int .i64),(.int .i64)]),2,16,[(xl xt 0),(xl xt 0)]⟩
abbrev VL:TI:=⟨.struct [(0,335)],(.agg [(.int .u64)]),1,8,[(xl xw 0)]⟩
abbrev aex:TI:=⟨.struct [(0,2),(1,3),(2,4),(3,6)],(.agg [(.int .i64),(.int .i64),.bool,(.int .u8)]),4,24,[(xl xt 0),(xl xt 0),(.bool .false),(xl xu 0)]⟩
abbrev aey:TI:=⟨.struct [(0,9),(1,12)],(.agg [.str,(.int .u64)]),2,24,[(xp ⟨#[]⟩),(xl xw 0)]⟩
abbrev aez:TI:=⟨.struct [(0,17)],(.agg [.ptr]),1,8,[(xo none)]⟩
abbrev aeA:TI:=⟨.struct [(0,3),(1,9),(2,35),(3,3),(4,3),(5,3),(6,36),(7,22),(8,22)],(.agg [(.int .i64),.str,.slc,(.int .i64),(.int .i64),(.int .i64),(.int .u32),.slc,.slc]),9,128,[(xl xt 0),(xp ⟨#[]⟩),(xn none 0 0),(xl xt 0),(xl xt 0),(xl xt 0),(xl xv 0),(xn none 0 0),(xn none 0 0)]⟩
abbrev aeB:TI:=⟨.other,(.sc .any),1,0,[(.tuple #[(xn none 0 0),(xl xt 0)])]⟩
abbrev aeC:TI:=⟨.struct [(0,3),(1,3),(2,3),(3,22)],(.agg [(.int .i64),(.int .i64),(.int .i64),.slc]),4,48,[(xl xt 0),(xl xt 0),(xl xt 0),(xn none 0 0)]⟩
abbrev aeD:TI:=⟨.struct [(0,3),(1,3),(2,24),(5,3),(6,22),(7,57)],(.agg [(.int .i64),(.int .i64),(.int .i64),(.int .i64),(.int .i64),(.int .i64),.slc,.slc]),8,96,[(xl xt 0),(xl xt 0),(xl xt 0),(xl xt 0),(xl xt 0),(xl xt 0),(xn none 0 0),(xn none 0 0)]⟩
abbrev aeE:TI:=⟨.struct [(0,59),(8,64),(9,3),(10,66)],(.arr .any),74,624,[(xl xt 0),(xl xt 0),(xl xt 0),(xl xt 0),(xl xt 0),(xl xt 0),(xn none 0 0),(xn none 0 0),(xo none),(xl xt 0)]++qg 64 (xo none)⟩
abbrev aeF:TI:=⟨.struct [(0,59),(8,31),(9,3),(10,93)],(.arr .any),74,624,[(xl xt 0),(xl xt 0),(xl xt 0),(xl xt 0),(xl xt 0),(xl xt 0),(xn none 0 0),(xn none 0 0),(xo none),(xl xt 0)]++qg 64 (xo none)⟩
abbrev aeG:TI:=⟨.struct [(0,9),(1,3),(2,3),(3,22)],(.agg [.str,(.int .i64),(.int .i64),.slc]),4,56,[(xp ⟨#[]⟩),(xl xt 0),(xl xt 0),(xn none 0 0)]⟩
abbrev acj:TI:=⟨.struct [(0,27),(1,59),(9,59),(17,22),(18,3),(19,129),(83,98)],(.arr .any),84,768,[(xo none),(xl xt 0),(xl xt 0),(xl xt 0),(xl xt 0),(xl xt 0),(xl xt 0),(xn none 0 0),(xn none 0 0),(xl xt 0),(xl xt 0),(xl xt 0),(xl xt 0),(xl xt 0),(xl xt 0),(xn none 0 0),(xn none 0 0),(xn none 0 0)]++qg 65 (xl xt 0)++[(xn none 0 0)]⟩
abbrev ack:TI:=⟨.struct [(0,3),(1,3),(2,3),(3,24),(6,36),(7,35)],(.agg [(.int .i64),(.int .i64),(.int .i64),(.int .i64),(.int .i64),(.int .i64),(.int .u32),.slc]),8,80,[(xl xt 0),(xl xt 0),(xl xt 0),(xl xt 0),(xl xt 0),(xl xt 0),(xl xv 0),(xn none 0 0)]⟩
abbrev acl:TI:=⟨.struct [(0,31),(1,3),(2,40),(3,3),(4,40),(5,4),(6,4)],(.agg [.ptr,(.int .i64),.slc,(.int .i64),.slc,.bool,.bool]),7,80,[(xo none),(xl xt 0),(xn none 0 0),(xl xt 0),(xn none 0 0),(.bool .false),(.bool .false)]⟩
abbrev acm:TI:=⟨.struct [(0,3),(1,64),(2,40),(3,3),(4,4),(5,40),(6,4)],(.agg [(.int .i64),.ptr,.slc,(.int .i64),.bool,.slc,.bool]),7,88,[(xl xt 0),(xo none),(xn none 0 0),(xl xt 0),(.bool .false),(xn none 0 0),(.bool .false)]⟩
abbrev acn:TI:=⟨.struct [(0,3),(1,246)],(.agg [(.int .i64),(.flt .f64)]),2,16,[(xl xt 0),(.float Go.FloatKind.f64 0)]⟩
abbrev aco:TI:=⟨.struct [(0,22),(1,35)],(.agg [.slc,.slc]),2,48,[(xn none 0 0),(xn none 0 0)]⟩
abbrev acp:TI:=⟨.struct [(0,265),(1,22),(2,22)],(.agg [.slc,.slc,.slc]),3,72,[(xn none 0 0),(xn none 0 0),(xn none 0 0)]⟩
abbrev acq:TI:=⟨.struct [(0,236),(1,24),(4,40),(5,261),(6,267),(9,40),(10,40)],(.agg [.ptr,(.int .i64),(.int .i64),(.int .i64),.slc,.slc,.slc,.slc,.slc,.slc,.slc]),11,200,[(xo none),(xl xt 0),(xl xt 0),(xl xt 0),(xn none 0 0),(xn none 0 0),(xn none 0 0),(xn none 0 0),(xn none 0 0),(xn none 0 0),(xn none 0 0)]⟩
abbrev acr:TI:=⟨.struct [(0,314),(255,316)],(.arr .any),511,2304,qg 255 (xl xu 0)++qg 256 (xl xt 0)⟩
abbrev acs:TI:=⟨.struct [(0,242),(1,242),(2,3),(3,3),(4,4)],(.agg [(.cpx .f64),(.cpx .f64),(.int .i64),(.int .i64),.bool]),5,56,[(.complex Go.FloatKind.f64 0 0),(.complex Go.FloatKind.f64 0 0),(xl xt 0),(xl xt 0),(.bool .false)]⟩
abbrev act:TI:=⟨.other,(.sc .any),1,0,[(.tuple #[(xl xt 0),(xl xt 0)])]⟩
abbrev acu:TI:=⟨.struct [(0,261),(1,270),(2,40)],(.agg [.slc,.slc,.slc]),3,72,[(xn none 0 0),(xn none 0 0),(xn none 0 0)]⟩
abbrev acv:TI:=⟨.array 256 4,(.arr .bool),256,256,qg 256 (.bool .false)⟩
abbrev acw:TI:=⟨.struct [(0,83),(1,270),(2,270)],(.agg [.slc,.slc,.slc]),3,72,[(xn none 0 0),(xn none 0 0),(xn none 0 0)]⟩
abbrev acx:TI:=⟨.struct [(0,5),(1,5)],(.agg [(.int .u8),(.int .u8)]),2,2,[(xl xu 0),(xl xu 0)]⟩
abbrev acy:TI:=⟨.struct [(0,17),(1,17),(2,17),(3,9)],(.agg [.ptr,.ptr,.ptr,.str]),4,40,[(xo none),(xo none),(xo none),(xp ⟨#[]⟩)]⟩
abbrev acz:TI:=⟨.struct [(0,426)],(.agg []),0,0,[]⟩
abbrev acA:TI:=⟨.struct [(0,12),(1,12),(2,36),(3,429),(4,5),(5,5),(6,430),(7,431),(8,256),(9,432),(10,433)],(.agg [(.int .u64),(.int .u64),(.int .u32),(.int .u8),(.int .u8),(.int .u8),(.int .u8),.fn,.ptr,(.int .i32),(.int .i32)]),11,48,[(xl xw 0),(xl xw 0),(xl xv 0),(xl xu 0),(xl xu 0),(xl xu 0),(xl xu 0),.nilFunc,(xo none),(.int .i32 0),(.int .i32 0)]⟩
def tbl:lM:=[⟨.other,(.sc .any),1,0,[(.tuple #[])]⟩,aR,ti1,ti1,⟨.bool,(.sc .bool),1,1,[(.bool .false)]⟩,ti2,ti2,aex,aex,ti3,ti3,ti3,ti4,aey,aey,⟨.ptr 425,(.sc .ptr),1,8,[(xo none)]⟩,⟨.ptr 428,(.sc .ptr),1,8,[(xo none)]⟩,⟨.ptr 435,(.sc .ptr),1,8,[(xo none)]⟩,aez,aez,⟨.other,(.sc .any),1,16,[.nilIface]⟩,ti5,⟨.slice 3,(.sc .slc),1,24,[(xn none 0 0)]⟩,ti6,ti6,⟨.other,(.sc .any),1,0,[(.tuple #[(.agg #[(xl xt 0),(xl xt 0),(xl xt 0)]),(xl xt 0),(xn none 0 0)])]⟩,aR,⟨.ptr 95,(.sc .ptr),1,8,[(xo none)]⟩,ti1,ti7,aR,⟨.ptr 101,(.sc .ptr),1,8,[(xo none)]⟩,aR,⟨.slice 38,(.sc .slc),1,24,[(xn none 0 0)]⟩,aR,⟨.slice 5,(.sc .slc),1,24,[(xn none 0 0)]⟩,⟨.int .u32,(.sc (.int .u32)),1,4,[(xl xv 0)]⟩,aeA,aeA,aR,⟨.slice 35,(.sc .slc),1,24,[(xn none 0 0)]⟩,⟨.slice 9,(.sc .slc),1,24,[(xn none 0 0)]⟩,aR,aeB,aR,aR,aR,aR,⟨.ptr 161,(.sc .ptr),1,8,[(xo none)]⟩,aR,aeC,aeC,⟨.other,(.sc .any),1,0,[(.tuple #[(.agg #[(xl xt 0),(xl xt 0),(xl xt 0),(xn none 0 0)]),(xl xt 0)])]⟩,aR,aR,aR,aR,⟨.slice 105,(.sc .slc),1,24,[(xn none 0 0)]⟩,aeD,aeD,aR,⟨.ptr 68,(.sc .ptr),1,8,[(xo none)]⟩,⟨.other,(.sc .any),1,0,[(.tuple #[(xo none),(xo none)])]⟩,aR,⟨.ptr 142,(.sc .ptr),1,8,[(xo none)]⟩,⟨.ptr 223,(.sc .ptr),1,8,[(xo none)]⟩,⟨.array 64 65,(.arr .ptr),64,512,qg 64 (xo none)⟩,aeE,aeE,aR,aR,aR,aR,⟨.slice 59,(.sc .slc),1,24,[(xn none 0 0)]⟩,aR,aR,aR,aR,aR,aR,⟨.slice 48,(.sc .slc),1,24,[(xn none 0 0)]⟩,aR,aR,⟨.slice 22,(.sc .slc),1,24,[(xn none 0 0)]⟩,aR,aR,aR,aR,aR,ti8,aR,aR,aR,⟨.array 64 48,(.arr .ptr),64,512,qg 64 (xo none)⟩,aeF,aeF,aR,aR,⟨.slice 112,(.sc .slc),1,24,[(xn none 0 0)]⟩,aR,ti9,ti9,aR,aR,aeG,aeG,aR,aR,ti8,aR,aR,QH,QH,aR,aR,aR,aR,aR,aR,⟨.slice 157,(.sc .slc),1,24,[(xn none 0 0)]⟩,aR,aR,aR,ti8,aR,aR,aR,aR,⟨.ptr 131,(.sc .ptr),1,8,[(xo none)]⟩,⟨.array 64 3,(.arr (.int .i64)),64,512,qg 64 (xl xt 0)⟩,acj,acj,aR,aR,aR,aR,⟨.slice 139,(.sc .slc),1,24,[(xn none 0 0)]⟩,aR,ack,ack,aR,ti9,ti9,ti7,aR,aR,aR,aR,aR,aR,aR,aR,aR,aR,aR,aR,QH,QH,aR,aR,acl,acl,aR,aR,aR,aR,aR,aR,⟨.other,(.sc .any),1,0,[(.tuple #[(xl xt 0),(.bool .false)])]⟩,aR,aR,aR,⟨.ptr 241,(.sc .ptr),1,8,[(xo none)]⟩,ti7,aR,aR,aR,aR,aR,aR,aR,aR,aR,aR,aR,aR,aR,aR,aR,aR,aR,aeB,aR,aR,aR,aR,aR,aR,aR,aR,aR,aR,⟨.other,(.sc .any),1,0,[(.tuple #[(.agg #[(xl xt 0),(xl xt 0),(xl xt 0),(xl xt 0),(xl xt 0),(xl xt 0),(xl xv 0),(xn none 0 0)]),(.bool .false)])]⟩,aR,aR,aR,aR,aR,aR,aR,⟨.other,(.sc .any),1,0,[(.tuple #[(.agg #[(xl xt 0),(xl xt 0),(xl xt 0),(xl xt 0),(xl xt 0),(xl xt 0),(xn none 0 0),(xn none 0 0)]),(xl xt 0)])]⟩,aR,aR,⟨.slice 218,(.sc .slc),1,24,[(xn none 0 0)]⟩,aR,⟨.ptr 299,(.sc .ptr),1,8,[(xo none)]⟩,ti7,aR,QH,aR,aR,aR,acm,acm,aR,aR,aR,aR,aR,aR,aR,aR,aR,ti4,aR,aR,⟨.ptr 319,(.sc .ptr),1,8,[(xo none)]⟩,aR,aR,aR,VJ,VJ,⟨.cpx,(.sc (.cpx .f64)),1,16,[(.complex Go.FloatKind.f64 0 0)]⟩,aR,⟨.slice 249,(.sc .slc),1,24,[(xn none 0 0)]⟩,⟨.array 64 4,(.arr .bool),64,64,qg 64 (.bool .false)⟩,⟨.flt,(.sc (.flt .f64)),1,8,[(.float Go.FloatKind.f64 0)]⟩,aR,acn,acn,aR,aR,aR,aR,aR,aR,⟨.ptr 5,(.sc .ptr),1,8,[(xo none)]⟩,aR,aR,aR,aR,⟨.slice 263,(.sc .slc),1,24,[(xn none 0 0)]⟩,aco,aco,⟨.ptr 269,(.sc .ptr),1,8,[(xo none)]⟩,⟨.slice 347,(.sc .slc),1,24,[(xn none 0 0)]⟩,acp,acp,acq,acq,⟨.slice 4,(.sc .slc),1,24,[(xn none 0 0)]⟩,⟨.other,(.sc .any),1,0,[(.tuple #[(xn none 0 0),(xn none 0 0),(xn none 0 0),(xl xt 0)])]⟩,aR,aR,⟨.other,(.sc .any),1,0,[(.tuple #[(xn none 0 0),(xn none 0 0)])]⟩,aR,aR,aR,⟨.ptr 359,(.sc .ptr),1,8,[(xo none)]⟩,aR,aR,aR,aR,aR,⟨.mp,(.sc .mp),1,8,[(.map none)]⟩,ti6,ti6,aR,aR,aR,⟨.other,(.sc .any),1,0,[(.tuple #[(xl xt 0),(xn none 0 0),(.bool .false)])]⟩,aR,aR,aR,aR,aR,aR,aR,VJ,VJ,VK,VK,aR,aR,aR,aR,aR,aR,aR,aR,aR,aR,aR,aR,⟨.array 255 5,(.arr (.int .u8)),255,255,qg 255 (xl xu 0)⟩,aR,⟨.array 256 3,(.arr (.int .i64)),256,2048,qg 256 (xl xt 0)⟩,aR,acr,acr,⟨.ptr 323,(.sc .ptr),1,8,[(xo none)]⟩,aR,acs,acs,aR,aR,aR,ti1,act,aR,aR,aR,aR,aR,aR,ti4,aR,aR,aR,⟨.ptr 341,(.sc .ptr),1,8,[(xo none)]⟩,acu,acu,aR,⟨.other,(.sc .any),1,0,[(.tuple #[(.agg #[(xn none 0 0),(xn none 0 0),(xn none 0 0)]),(.bool .false)])]⟩,aR,aR,VK,VK,aR,aR,aR,acv,acv,⟨.other,(.sc .any),1,0,[(.tuple #[(.agg #[(.bool .false),(.bool .false),(.bool .false),(.bool .false),(.bool .false),(.bool .false),(.bool .false),(.bool .false),(.bool .false),(.bool .false),(.bool .false),(.bool .false),(.bool .false),(.bool .false),(.bool .false),(.bool .false),(.bool .false),(.bool .false),(.bool .false),(.bool .false),(.bool .false),(.bool .false),(.bool .false),(.bool .false),(.bool .false),(.bool .false),(.bool .false),(.bool .false),(.bool .false),(.bool .false),(.bool .false),(.bool .false),(.bool .false),(.bool .false),(.bool .false),(.bool .false),(.bool .false),(.bool .false),(.bool .false),(.bool .false),(.bool .false),(.bool .false),(.bool .false),(.bool .false),(.bool .false),(.bool .false),(.bool .false),(.bool .false),(.bool .false),(.bool .false),(.bool .false),(.bool .false),(.bool .false),(.bool .false),(.bool .false),(.bool .false),(.bool .false),(.bool .false),(.bool .false),(.bool .false),(.bool .false),(.bool .false),(.bool .false),(.bool .false),(.bool .false),(.bool .false),(.bool .false),(.bool .false),(.bool .false),(.bool .false),(.bool .false),(.bool .false),(.bool .false),(.bool .false),(.bool .false),(.bool .false),(.bool .false),(.bool .false),(.bool .false),(.bool .false),(.bool .false),(.bool .false),(.bool .false),(.bool .false),(.bool .false),(.bool .false),(.bool .false),(.bool .false),(.bool .false),(.bool .false),(.bool .false),(.bool .false),(.bool .false),(.bool .false),(.bool .false),(.bool .false),(.bool .false),(.bool .false),(.bool .false),(.bool .false),(.bool .false),(.bool .false),(.bool .false),(.bool .false),(.bool .false),(.bool .false),(.bool .false),(.bool .false),(.bool .false),(.bool .false),(.bool .false),(.bool .false),(.bool .false),(.bool .false),(.bool .false),(.bool .false),(.bool .false),(.bool .false),(.bool .false),(.bool .false),(.bool .false),(.bool .false),(.bool .false),(.bool .false),(.bool .false),(.bool .false),(.bool .false),(.bool .false),(.bool .false),(.bool .false),(.bool .false),(.bool .false),(.bool .false),(.bool .false),(.bool .false),(.bool .false),(.bool .false),(.bool .false),(.bool .false),(.bool .false),(.bool .false),(.bool .false),(.bool .false),(.bool .false),(.bool .false),(.bool .false),(.bool .false),(.bool .false),(.bool .false),(.bool .false),(.bool .false),(.bool .false),(.bool .false),(.bool .false),(.bool .false),(.bool .false),(.bool .false),(.bool .false),(.bool .false),(.bool .false),(.bool .false),(.bool .false),(.bool .false),(.bool .false),(.bool .false),(.bool .false),(.bool .false),(.bool .false),(.bool .false),(.bool .false),(.bool .false),(.bool .false),(.bool .false),(.bool .false),(.bool .false),(.bool .false),(.bool .false),(.bool .false),(.bool .false),(.bool .false),(.bool .false),(.bool .false),(.bool .false),(.bool .false),(.bool .false),(.bool .false),(.bool .false),(.bool .false),(.bool .false),(.bool .false),(.bool .false),(.bool .false),(.bool .false),(.bool .false),(.bool .false),(.bool .false),(.bool .false),(.bool .false),(.bool .false),(.bool .false),(.bool .false),(.bool .false),(.bool .false),(.bool .false),(.bool .false),(.bool .false),(.bool .false),(.bool .false),(.bool .false),(.bool .false),(.bool .false),(.bool .false),(.bool .false),(.bool .false),(.bool .false),(.bool .false),(.bool .false),(.bool .false),(.bool .false),(.bool .false),(.bool .false),(.bool .false),(.bool .false),(.bool .false),(.bool .false),(.bool .false),(.bool .false),(.bool .false),(.bool .false),(.bool .false),(.bool .false),(.bool .false),(.bool .false),(.bool .false),(.bool .false),(.bool .false),(.bool .false),(.bool .false),(.bool .false),(.bool .false),(.bool .false),(.bool .false),(.bool .false),(.bool .false),(.bool .false),(.bool .false),(.bool .false),(.bool .false),(.bool .false),(.bool .false),(.bool .false),(.bool .false),(.bool .false),(.bool .false),(.bool .false),(.bool .false)]),(.bool .false)])]⟩,aR,aR,⟨.ptr 352,(.sc .ptr),1,8,[(xo none)]⟩,aR,VL,VL,aR,aR,aR,aR,aR,aR,aR,aR,aR,aR,aR,aR,aR,⟨.ptr 375,(.sc .ptr),1,8,[(xo none)]⟩,VL,VL,aR,aR,aR,aR,aR,aR,aR,aR,aR,aR,aR,aR,aR,ti4,aR,aR,aR,⟨.ptr 3,(.sc .ptr),1,8,[(xo none)]⟩,aR,aR,aR,⟨.ptr 399,(.sc .ptr),1,8,[(xo none)]⟩,acw,acw,aR,⟨.other,(.sc .any),1,0,[(.tuple #[(.agg #[(xl xt 0),(xl xt 0)]),(.bool .false)])]⟩,aR,aR,⟨.other,(.sc .any),1,0,[(.tuple #[(.int .i32 0),(xl xt 0)])]⟩,aR,aR,aR,aR,aR,aR,⟨.ptr 389,(.sc .ptr),1,8,[(xo none)]⟩,act,aR,aR,aR,aR,⟨.int .u16,(.sc (.int .u16)),1,2,[(.int .u16 0)]⟩,aR,⟨.array 256 5,(.arr (.int .u8)),256,256,qg 256 (xl xu 0)⟩,acx,acx,⟨.array 16 421,(.arr (.int .u8)),32,32,qg 32 (xl xu 0)⟩,aR,acy,acy,⟨.array 0 16,(.arr .ptr),0,0,[]⟩,acz,acz,ti2,ti2,aR,ti5,ti5,acA,acA,⟨.other,(.sc .any),1,8,[(xo none)]⟩]
def C:Ctx:={P:=xx,T:=tbl,tup:=[(0,[]),(25,[(.agg [(.int .i64),(.int .i64),(.int .i64)]),(.sc (.int .i64)),(.sc .slc)]),(29,[(.sc .ptr),(.sc (.int .i64))]),(43,[(.sc .slc),(.sc (.int .i64))]),(52,[(.agg [(.int .i64),(.int .i64),(.int .i64),.slc]),(.sc (.int .i64))]),(62,[(.sc .ptr),(.sc .ptr)]),(89,[(.sc .slc),(.sc .bool)]),(108,[(.sc .slc),(.sc .bool)]),(123,[(.sc .slc),(.sc .bool)]),(143,[(.sc .ptr),(.sc (.int .i64))]),(168,[(.sc (.int .i64)),(.sc .bool)]),(173,[(.sc .ptr),(.sc (.int .i64))]),(191,[(.sc .slc),(.sc (.int .i64))]),(202,[(.agg [(.int .i64),(.int .i64),(.int .i64),(.int .i64),(.int .i64),(.int .i64),(.int .u32),.slc]),(.sc .bool)]),(210,[(.agg [(.int .i64),(.int .i64),(.int .i64),(.int .i64),(.int .i64),(.int .i64),.slc,.slc]),(.sc (.int .i64))]),(216,[(.sc .ptr),(.sc (.int .i64))]),(271,[(.sc .slc),(.sc .slc),(.sc .slc),(.sc (.int .i64))]),(274,[(.sc .slc),(.sc .slc)]),(290,[(.sc (.int .i64)),(.sc .slc),(.sc .bool)]),(328,[(.sc (.int .i64)),(.sc (.int .i64))]),(343,[(.agg [.slc,.slc,.slc]),(.sc .bool)]),(353,[(.arr .bool),(.sc .bool)]),(401,[(.agg [(.int .i64),(.int .i64)]),(.sc .bool)]),(404,[(.sc (.int .i32)),(.sc (.int .i64))]),(412,[(.sc (.int .i64)),(.sc (.int .i64))])],fns:=[false,false]++qg 411 true++qg 21 false++[true]}
theorem afx:(List.range C.T.length).map (lM.seen C.P)=C.T.map lM.told:=by kernel_rfl
theorem adp:C.P.follows .mixedOrders=true:=by kernel_rfl
theorem afy:(C.P.funcs.toList.map fun f=>!(f.name== "runtime.NumGoroutine")&&f.body.isSome)=C.fns:=by kernel_rfl
theorem ae:C.Ok:={tbl:=afx,mixed:=adp,fns:=afy}
def jQ(Z:Sl)(ap:Sl)(i:Int):Prop:=
 af xx 6 #[Z] (.many [(.agg [(.int .i64),(.int .i64),(.int .i64)]),aZ,cv]) h fun V h1=>
 aK xx (qK 24 true (.tuple #[])) h1 fun d h2=>
 ag xx (qf 24 d V.1) h2 fun _ h3=>
 bf (σ:=aO×Int) (fun a s=>
 bf (σ:=Unit) (fun _ I=>
 ∃U:bH,aj I d 0 U/\
 af xx 9 #[U,ap,(xl xt 6),false] aH I fun p a7=>
 aJ (σ:=Int) (fun f K3 m=>
 Br (f<(p.len:Int))
 (∃T,(p.ptr=some T/\0<=f/\f<(p.len:Int))/\
 ∃M:BN,aj m (T.add (f.toNat*9)) 0 M/\
 aK xx (qK 38 true (.tuple #[])) m fun k am=>
 ag xx (qf 38 k M) am fun _ g=>
 ∃y,cellOf g k=some (xl xt y)/\
 Br (y==1)
 (∃x:ByteArray,cellOf g (k.add 1)=some (xp x)/\
 ∃O:Sl,cellOf g (k.add 2)=some (O:Value)/\
 af xx 10 #[a.1,x,O] bt g fun _ ah=>
 K3 (qc xt (f+1)) ah)
 (K3 (qc xt (f+1)) g))
 (af xx 11 #[a.1] aH m fun o ao=>
 aJ (σ:=Sl×Int) (fun b K4 t=>
 Br (b.2<(o.len:Int))
 (∃Q,(o.ptr=some Q/\0<=b.2/\b.2<(o.len:Int))/\
 ∃E:ByteArray,cellOf t (Q.add (b.2.toNat*1))=some (xp E)/\
 af xx 12 #[a.1,E] (.many [cv,aZ]) t fun N D=>
 Br (N.2 !=0)
 (R false D)
 (az xx (qt 40 1 #[(0,N.1)]) aH D fun ax a0=>
 az xx (qw #[40,40] 40 #[b.1,ax]) aH a0 fun v28 ay=>
 K4 ((⟨v28.ptr,v28.len,v28.cap⟩:Sl),qc xt (b.2+1)) ay))
 (af xx 13 #[i,(xl xt 4)] bt t fun r a3=>
 bf (σ:=Unit) (fun _ bb=>
 af xx 11 #[a.1] aH bb fun u a6=>
 aJ (σ:=Int) (fun c K6 l=>
 Br (c<(u.len:Int))
 (∃P,(u.ptr=some P/\0<=c/\c<(u.len:Int))/\
 ∃q:ByteArray,cellOf l (P.add (c.toNat*1))=some (xp q)/\
 af xx 12 #[a.1,q] (.many [cv,aZ]) l fun w ab=>
 af xx 17 #[a.1,q] (.many [(.agg [(.int .i64),(.int .i64),(.int .i64),.slc]),aZ]) ab fun z X=>
 aK xx (qK 51 true (.tuple #[])) X fun n bd=>
 ag xx (qf 51 n z.1) bd fun _ j=>
 Br (w.2 !=0) (R false j) (Br (z.2 !=0) (R false j) (∃S,(b.1.ptr=some S/\0<=c/\c<(b.1.len:Int))/\
 ∃K:Sl,cellOf j (S.add (c.toNat*1))=some (K:Value)/\
 af xx 18 #[w.1,K] bE j fun a8 e=>
 Br (!a8) (R false e) (∃L,cellOf e (n.add 2)=some (xl xt L)/\
 ∃G,cellOf e (n.add 1)=some (xl xt G)/\
 ∃v,cellOf e d=some (xl xt v)/\
 Br (L !=(qc xt (G*(qc xt (v+V.2.1)))))
 (R false e)
 (K6 (qc xt (c+1)) e)))))
 (af xx 11 #[a.1] aH l fun a4 H=>
 Br ((a4.len:Int)==(b.1.len:Int)) (af xx 19 #[] bE H fun ad a5=>
 R ad a5) (R false H))) (0:Int) a6)
 (fun K5=>
 af xx 14 #[a.1,r] bt a3 fun W B=>
 Br (W !=0) (R false B) (af xx 15 #[a.1] aH B fun Y J=>
 Br ((Y.len:Int) !=3) (R false J) (af xx 16 #[a.1,r] jp J fun a1 F=>
 Br (!(ze a1)) (R false F) (af xx 14 #[a.1,r] bt F fun a9 A=>
 Br (a9 !=5)
 (R false A)
 (K5 () A))))))) ((⟨none,0,0⟩:Sl),(0:Int)) ao)) (0:Int) a7)
 (fun K2=>
 Br (a.2 !=0) (R false s) (Br (ze a.1)
 (R false s)
 (K2 () s))))
 (fun K1=>
 ∃x3:bH,aj h3 d 0 x3/\
 (af xx 8 #[] jp h3 fun r4 h4=>
 (av.ok [(d,x3.1),(d.add 1,x3.2.1),(d.add 2,x3.2.2)] h4)/\
 az xx (qt 22 4 #[(0,(xl xt 400)),(1,(xl xt 400)),(2,(xl xt 400)),(3,(xl xt 400))]) aH h4 fun v5 h5=>
 (av.ok [(d,x3.1),(d.add 1,x3.2.1),(d.add 2,x3.2.2)] h5)/\
 af xx 7 #[x3,V.2.1,r4,v5] (.many [FI,aZ]) h5 fun r6 h6=>
 (av.ok [] h6)/\
 K1 (r6.1,r6.2) h6)/\(az xx (qt 22 4 #[(0,(xl xt 400)),(1,(xl xt 400)),(2,(xl xt 400)),(3,(xl xt 400))]) aH h3 fun v7 h7=>
 (av.ok [(d,x3.1),(d.add 1,x3.2.1),(d.add 2,x3.2.2)] h7)/\
 af xx 8 #[] jp h7 fun r8 h8=>
 (av.ok [(d,x3.1),(d.add 1,x3.2.1),(d.add 2,x3.2.2)] h8)/\
 af xx 7 #[x3,V.2.1,r8,v7] (.many [FI,aZ]) h8 fun r9 h9=>
 (av.ok [] h9)/\
 K1 (r9.1,r9.2) h9))
theorem nP(b:Sl)(c:Sl)(a:Int)(d:@jQ R h b c a):ac xx 3 #[b,c,a] h R:=au ae func3 (an.tn (an.tn (.two (.join [(10,FI),(11,aZ)] [(10,12),(31,39)] .n) (.two (.join [] [(6,7),(39,45)] .n) (.two (an.tn (.inn (.loop [(49,aZ)] [(13,14),(49,63)] .n))) (an.tn (.two (an.tn (.inn (.loop [(14,cv),(66,aZ)] [(6,7),(14,15),(16,19),(66,83)] .n))) (an.tn (.two (.join [] [(6,7),(85,107)] .n) (.two (an.tn (.inn (.loop [(110,aZ)] [(6,7),(19,25),(110,155)] .n))) .n)))))))))) d
def mV(b:Sl):Prop:=
 aK xx (qK 24 true (.tuple #[])) h fun u J=>
 af xx 45 #[b,(xl xt 0)] bt J fun B w=>
 af xx 45 #[b,(xl xt 1)] bt w fun H h3=>
 af xx 45 #[b,(xl xt 2)] bt h3 fun x v=>
 af xx 44 #[B,H,x] aaF v fun G D=>
 aK xx (qK 24 true (.tuple #[])) D fun d I=>
 ag xx (qf 24 d G) I fun _ A=>
 aJ (σ:=Sl×Int) (fun k E h8=>
 af xx 45 #[b,(xl xt 4)] bt h8 fun z y=>
 af xx 13 #[z,(xl xt 4)] bt y fun F f=>
 Br (k.2<(qc xt (2+F)))
 (af xx 45 #[b,(qc xt (5+k.2))] bt f fun t p=>
 af xx 13 #[t,(xl xt 50)] bt p fun r l=>
 az xx (qt 22 1 #[(0,(qc xt (8+r)))]) aH l fun s q=>
 az xx (qw #[22,22] 22 #[k.1,s]) aH q fun g n=>
 E ((⟨g.ptr,g.len,g.cap⟩:Sl),qc xt (k.2+1)) n)
 (∃a:bH,aj f d 0 a/\
 af xx 45 #[b,(xl xt 3)] bt f fun o j=>
 (av.ok [(d,a.1),(d.add 1,a.2.1),(d.add 2,a.2.2)] j)/\
 af xx 13 #[o,(xl xt 7)] bt j fun m i=>
 (av.ok [(d,a.1),(d.add 1,a.2.1),(d.add 2,a.2.2)] i)/\
 ag xx (qf 24 u a) i fun _ e=>
 (av.ok [] e)/\
 ∃c:bH,aj e u 0 c/\
 R (.tuple #[c,m,k.1]) e)) ((⟨none,0,0⟩:Sl),(0:Int)) A
theorem ud(a:Sl)(b:@mV R h a):ac xx 6 #[a] h R:=au ae func6 (an.tn (an.tn (an.tn (an.tn (.two (an.tn (.inn (.loop [(7,cv),(8,aZ)] [(7,9),(16,35)] .n))) .n))))) b
def BO(I:bH)(b:Int)(d:aO)(a:Sl):Prop:=
 aK xx (qM 24 I) h fun m V=>
 af xx 46 #[a] (.many [cv,mg]) V fun l D=>
 bf (σ:=Unit) (fun _ J=>
 bf (σ:=aO) (fun e P=>
 aJ (σ:=Int) (fun f U h8=>
 Br (f<(l.1.len:Int))
 (∃u,(l.1.ptr=some u/\0<=f/\f<(l.1.len:Int))/\
 ∃j,cellOf h8 (u.add (f.toNat*1))=some (xl xt j)/\
 ∃n,(a.ptr=some n/\0<=j/\j<(a.len:Int))/\
 ∃o,cellOf h8 (n.add (j.toNat*1))=some (xl xt o)/\
 ∃x,(e=some x)/\
 ∃r:cJ,aj h8 x 0 r/\
 af xx 43 #[r] aH h8 fun B E=>
 (av.ok [(n.add (j.toNat*1),o)] E)/\
 Br (o<(B.len:Int))
 (R (.tuple #[(xo none),(xl xt 7)]) E)
 (U (qc xt (f+1)) E))
 (aJ (σ:=Int) (fun g N i=>
 Br (g<(l.1.len:Int))
 (∃t,(l.1.ptr=some t/\0<=g/\g<(l.1.len:Int))/\
 ∃c,cellOf i (t.add (g.toNat*1))=some (xl xt c)/\
 ∃a22,(a.ptr=some a22/\0<=c/\c<(a.len:Int))/\
 ∃s,cellOf i (a22.add (c.toNat*1))=some (xl xt s)/\
 ∃z,(e=some z)/\
 af xx 49 #[s,d] jp i fun F y=>
 (av.ok [] y)/\
 (0<=c/\c<((64:Nat):Int))/\
 ag xx (qf 48 ((z.add 10).add (c.toNat*1)) F) y fun _ p=>
 (av.ok [] p)/\
 N (qc xt (g+1)) p)
 (∃A,(e=some A)/\
 ∃w:cJ,aj i A 0 w/\
 af xx 51 #[w,l.1] aH i fun H G=>
 af xx 50 #[(.func (.func 16) #[e] #[]),H] bt G fun v q=>
 Br (v !=0)
 (R (.tuple #[(xo none),v]) q)
 (R (.tuple #[e,(xl xt 0)]) q))) (0:Int) h8)) (0:Int) P)
 (fun Q=>
 ∃k:bH,aj J m 0 k/\
 af xx 48 #[d] bt J fun S K=>
 (av.ok [(m,k.1),(m.add 1,k.2.1),(m.add 2,k.2.2)] K)/\
 ∃L:Value,(aF xx (va 95 #[(0,(xr #[(xl xt 1),(xl xt 0),k.1,k.2.1,k.2.2,b,l.1,(xn none 0 0)])),(1,d),(2,S)]) L)/\
 aK xx (qM 95 L) K fun a9 M=>
 (av.ok [(m,k.1),(m.add 1,k.2.1),(m.add 2,k.2.2)] M)/\
 Q (some a9) M))
 (fun T=>
 Br (!l.2) (R (.tuple #[(xo none),(xl xt 1)]) D) (∃x3:bH,aj D m 0 x3/\
 af xx 47 #[x3] bE D fun O h3=>
 Br (!O) (R (.tuple #[(xo none),(xl xt 1)]) h3) (Br (b<0) (R (.tuple #[(xo none),(xl xt 1)]) h3) (Br (b>16) (R (.tuple #[(xo none),(xl xt 1)]) h3) (Br (ze d)
 (R (.tuple #[(xo none),(xl xt 1)]) h3)
 (T () h3))))))
theorem Je(d:bH)(a:Int)(c:aO)(b:Sl)(e:@BO R h d a c b):ac xx 7 #[d,a,c,b] h R:=au ae func7 (an.tn (an.tn (.two (.join [] [(8,10),(23,42)] .n) (.two (.join [(12,FI)] [(12,13),(42,51)] .n) (.two (an.tn (.inn (.loop [(53,aZ)] [(8,10),(14,15),(53,69)] .n))) (.two (an.tn (.inn (.loop [(71,aZ)] [(16,17),(71,87)] .n))) .n)))))) e
def Ih:Prop:=
 aK xx (qM 101 (xr #[false,false,(xl xt 0),(xl xt 0)])) h fun b a=>
 R b a
theorem OJ(a:@Ih R h):ac xx 8 #[] h R:=au ae func8 .n a
def nt(H:bH)(b:Sl)(f:Int)(c:Bool):Prop:=
 aK xx (qM 24 H) h fun T W=>
 bf (σ:=Sl) (fun z G=>
 R z G)
 (fun N=>
 aJ (σ:=Sl×Int) (fun a L A=>
 bf (σ:=Unit) (fun _ h3=>
 bf (σ:=Sl) (fun D n=>
 ∃m:bH,aj n T 0 m/\
 ∃e,(b.ptr=some e/\0<=a.2/\a.2<(b.len:Int))/\
 ∃d,cellOf n (e.add (a.2.toNat*1))=some (xl xt d)/\
 ((5:Int)≠0)/\
 ∃y,(b.ptr=some y/\0<=(qc xt (a.2+1))/\(qc xt (a.2+1))<(b.len:Int))/\
 ∃r:Int,cellOf n (y.add ((qc xt (a.2+1)).toNat*1))=some (xl xt r)/\
 ∃k,(b.ptr=some k/\0<=(qc xt (a.2+2))/\(qc xt (a.2+2))<(b.len:Int))/\
 ∃q:Int,cellOf n (k.add ((qc xt (a.2+2)).toNat*1))=some (xl xt q)/\
 af xx 53 #[m,(qc xt (wI d 5)),r,q] (.one (.agg [(.int .i64),.str,.slc,(.int .i64),(.int .i64),(.int .i64),(.int .u32),.slc,.slc])) n fun F u=>
 (av.ok [(e.add (a.2.toNat*1),d)] u)/\
 az xx (qt 33 1 #[(0,F)]) aH u fun E s=>
 (av.ok [(e.add (a.2.toNat*1),d)] s)/\
 az xx (qw #[33,33] 33 #[D,E]) aH s fun i j=>
 (av.ok [(e.add (a.2.toNat*1),d)] j)/\
 L ((⟨i.ptr,i.len,i.cap⟩:Sl),qc xt (a.2+3)) j)
 (fun Q=>
 bf (σ:=Bool) (fun U v=>
 Br U
 (∃l,(b.ptr=some l/\0<=a.2/\a.2<(b.len:Int))/\
 ∃t,cellOf v (l.add (a.2.toNat*1))=some (xl xt t)/\
 ((5:Int)≠0)/\
 ∃p,(b.ptr=some p/\0<=(qc xt (a.2+1))/\(qc xt (a.2+1))<(b.len:Int))/\
 ∃x:Int,cellOf v (p.add ((qc xt (a.2+1)).toNat*1))=some (xl xt x)/\
 ∃o,(b.ptr=some o/\0<=(qc xt (a.2+2))/\(qc xt (a.2+2))<(b.len:Int))/\
 ∃w:Int,cellOf v (o.add ((qc xt (a.2+2)).toNat*1))=some (xl xt w)/\
 af xx 52 #[(qc xt (wI t 5)),x,w] (.one (.agg [(.int .i64),.str,.slc,(.int .i64),(.int .i64),(.int .i64),(.int .u32),.slc,.slc])) v fun B O=>
 (av.ok [(l.add (a.2.toNat*1),t)] O)/\
 az xx (qt 33 1 #[(0,B)]) aH O fun I K=>
 (av.ok [(l.add (a.2.toNat*1),t)] K)/\
 az xx (qw #[33,33] 33 #[a.1,I]) aH K fun g h8=>
 (av.ok [(l.add (a.2.toNat*1),t)] h8)/\
 L ((⟨g.ptr,g.len,g.cap⟩:Sl),qc xt (a.2+3)) h8)
 (Q (⟨a.1.ptr,a.1.len,a.1.cap⟩:Sl) v))
 (fun M=>
 Br c (∃a4,(b.ptr=some a4/\0<=a.2/\a.2<(b.len:Int))/\
 ∃J,cellOf h3 (a4.add (a.2.toNat*1))=some (xl xt J)/\
 af xx 13 #[J,(xl xt 5)] bt h3 fun S P=>
 M (S==4) P) (M false h3))))
 (fun V=>
 Br ((qc xt (a.2+2))<(b.len:Int)) (Br ((a.1.len:Int)<f)
 (V () A)
 (N (⟨a.1.ptr,a.1.len,a.1.cap⟩:Sl) A)) (N (⟨a.1.ptr,a.1.len,a.1.cap⟩:Sl) A))) ((⟨none,0,0⟩:Sl),(0:Int)) W)
theorem uZ(d:bH)(c:Sl)(b:Int)(a:Bool)(e:@nt R h d c b a):ac xx 9 #[d,c,b,a] h R:=au ae func9 (an.tn (an.tn (.two (.join [(9,cv)] [(9,72)] (an.tn (.inn (.loop [(9,cv),(10,aZ)] [(9,72)] (.two (.join [] [(11,22)] .n) (.two (.inn (.two (.join [(9,cv)] [(9,10),(24,52)] (.two (.join [(32,mg)] [(24,33)] .n) .n)) .n)) .n)))))) .n))) e
def tt(a:aO)(e:ByteArray)(i:Sl):Prop:=
 af xx 54 #[a,e,i] bt h fun r1 h1=>
 Br (r1 !=0)
 (R r1 h1)
 (∃a2,(a=some a2)/\
 ∃x3,cellOf h1 (a2.add 1)=some (xl xt x3)/\
 aK xx (qK 105 true (.tuple #[])) h1 fun a4 h2=>
 ag xx (qf 105 a4 (xr #[e,x3,(xl xt (i.len:Int)),(xn none 0 0)])) h2 fun _ h3=>
 bf (σ:=Sl×Bool) (fun s h6=>
 Br (!s.2)
 (R (xl xt 8) h6)
 (ag xx (qf 22 (a4.add 3) s.1) h6 fun _ h7=>
 ∃L:iX,aj h7 a4 0 L/\
 af xx 57 #[a,L,i] (.many [cv,mg]) h7 fun D h8=>
 aK xx (qK 98 true (.tuple #[])) h8 fun k h9=>
 ag xx (qf 98 k D.1) h9 fun _ f=>
 Br (!D.2)
 (R (xl xt 8) f)
 (bf (σ:=Addr×Sl) (fun g J=>
 ∃I:cJ,aj J g.1 0 I/\
 af xx 43 #[I] aH J fun S W=>
 aK xx (qK 3 true (.tuple #[])) W fun n ad=>
 ag xx (qf 3 n (xl xt (S.len:Int))) ad fun _ Y=>
 af xx 60 #[a,g.2,(.func (.func 59) #[] #[n,k])] bE Y fun X F=>
 Br (!X)
 (R (xl xt 7) F)
 (af xx 61 #[a,g.2,(.func (.func 59) #[] #[n,k])] bt F fun H r=>
 Br (H !=0)
 (R H r)
 (∃B:Sl,cellOf r k=some (B:Value)/\
 af xx 50 #[(.func (.func 16) #[a] #[]),B] bt r fun E q=>
 Br (E !=0)
 (R E q)
 (∃P:cJ,aj q g.1 0 P/\
 af xx 62 #[a,P,g.2] bt q fun ab V=>
 R ab V))))
 (fun T=>
 ∃c,(a=some c)/\
 ∃b:cJ,aj f c 0 b/\
 ∃d:iX,aj f a4 0 d/\
 (af xx 58 #[b,d] FH f fun y o=>
 (av.ok [] o)/\
 (af xx 15 #[a] aH o fun p u=>
 (av.ok [] u)/\
 aK xx (qK 59 true (.tuple #[])) u fun Q K=>
 (av.ok [] K)/\
 ag xx (qf 59 Q y) K fun _ x=>
 (av.ok [] x)/\
 T (Q,(⟨p.ptr,p.len,p.cap⟩:Sl)) x)/\(aK xx (qK 59 true (.tuple #[])) o fun a22 O=>
 (av.ok [] O)/\
 af xx 15 #[a] aH O fun l t=>
 (av.ok [] t)/\
 ag xx (qf 59 a22 y) t fun _ A=>
 (av.ok [] A)/\
 T (a22,(⟨l.ptr,l.len,l.cap⟩:Sl)) A))/\(aK xx (qK 59 true (.tuple #[])) f fun M v=>
 (av.ok [(a4,d.1),(a4.add 1,d.2.1),(a4.add 2,d.2.2.1),(a4.add 3,d.2.2.2),(c,b.1),(c.add 1,b.2.1),(c.add 2,b.2.2.1),(c.add 3,b.2.2.2.1),(c.add 4,b.2.2.2.2.1),(c.add 5,b.2.2.2.2.2.1),(c.add 6,b.2.2.2.2.2.2.1),(c.add 7,b.2.2.2.2.2.2.2)] v)/\
 af xx 58 #[b,d] FH v fun U N=>
 (av.ok [] N)/\
 af xx 15 #[a] aH N fun m G=>
 (av.ok [] G)/\
 ag xx (qf 59 M U) G fun _ z=>
 (av.ok [] z)/\
 T (M,(⟨m.ptr,m.len,m.cap⟩:Sl)) z)))))
 (fun K1=>
 ∃a5,(a=some a5)/\
 ∃w:bH,aj h3 (a5.add 2) 0 w/\
 ∃Z,cellOf h3 (a4.add 1)=some (xl xt Z)/\
 ∃a8,(a=some a8)/\
 ∃x9:bH,aj h3 (a8.add 2) 0 x9/\
 af xx 56 #[x9,(xl xt (i.len:Int))] bt h3 fun ah h4=>
 (av.ok [(a4.add 1,Z),(a5.add 2,w.1),((a5.add 2).add 1,w.2.1),((a5.add 2).add 2,w.2.2)] h4)/\
 af xx 55 #[w,Z,ah] (.many [cv,mg]) h4 fun j h5=>
 (av.ok [] h5)/\
 K1 ((⟨j.1.ptr,j.1.len,j.1.cap⟩:Sl),j.2) h5))
theorem EG(c:aO)(a:ByteArray)(b:Sl)(d:@tt R h c a b):ac xx 10 #[c,a,b] h R:=au ae func10 (an.tn (an.tn (an.tn (.two (.join [(9,cv),(10,mg)] [(9,11),(34,53)] .n) (an.tn (an.tn (an.tn (an.tn (.two (.join [(12,(.sc .adr)),(13,cv)] [(12,14),(66,74)] .n) .n))))))))) d
def sg(c:aO):Prop:=
 af xx 63 #[c] bE h fun q f=>
 Br q
 (R (xn none 0 0) f)
 (∃j,(c=some j)/\
 ∃x3:Sl,cellOf f (j.add 7)=some (x3:Value)/\
 aJ (σ:=Sl×Int) (fun b n e=>
 Br (b.2<(x3.len:Int))
 (∃a5,(x3.ptr=some a5/\0<=b.2/\b.2<(x3.len:Int))/\
 ∃g:iX,aj e (a5.add (b.2.toNat*4)) 0 g/\
 aK xx (qK 105 true (.tuple #[])) e fun k h3=>
 ag xx (qf 105 k g) h3 fun _ i=>
 ∃l:ByteArray,cellOf i k=some (xp l)/\
 af xx 64 #[l] (.one Kx) i fun p o=>
 az xx (qt 41 1 #[(0,p)]) aH o fun d r=>
 az xx (qw #[41,41] 41 #[b.1,d]) aH r fun a m=>
 n ((⟨a.ptr,a.len,a.cap⟩:Sl),qc xt (b.2+1)) m)
 (R b.1 e)) ((⟨none,0,0⟩:Sl),(0:Int)) f)
theorem Dj(a:aO)(b:@sg R h a):ac xx 11 #[a] h R:=au ae func11 (an.tn (an.tn (an.tn (.two (an.tn (.inn (.loop [(3,cv),(14,aZ)] [(3,4),(5,6),(14,25)] .n))) .n)))) b
def tu(d:aO)(i:ByteArray):Prop:=
 af xx 63 #[d] bE h fun U P=>
 Br U
 (R (.tuple #[(xn none 0 0),(xl xt 14)]) P)
 (af xx 65 #[d,i] bt P fun z L=>
 Br (z<0)
 (R (.tuple #[(xn none 0 0),(xl xt 5)]) L)
 (af xx 66 #[d] bE L fun W h3=>
 Br (!W)
 (R (.tuple #[(xn none 0 0),(xl xt 11)]) h3)
 (∃a4,(d=some a4)/\
 ∃E:Sl,cellOf h3 (a4.add 7)=some (E:Value)/\
 ∃K,(E.ptr=some K/\0<=z/\z<(E.len:Int))/\
 ∃O:iX,aj h3 (K.add (z.toNat*4)) 0 O/\
 aK xx (qK 105 true (.tuple #[])) h3 fun n Q=>
 ag xx (qf 105 n O) Q fun _ N=>
 ∃A:Sl,cellOf N (n.add 3)=some (A:Value)/\
 aJ (σ:=Sl×Int) (fun c T k=>
 Br (c.2<(A.len:Int))
 (∃p,(A.ptr=some p/\0<=c.2/\c.2<(A.len:Int))/\
 ∃y,cellOf k (p.add (c.2.toNat*1))=some (xl xt y)/\
 bf (σ:=Sl) (fun J G=>
 bf (σ:=Sl×Int) (fun u o=>
 Br (u.2 !=0)
 (R (.tuple #[(xn none 0 0),(xl xt 11)]) o)
 (az xx (qt 40 1 #[(0,u.1)]) aH o fun v25 I=>
 az xx (qw #[40,40] 40 #[c.1,v25]) aH I fun j D=>
 T ((⟨j.ptr,j.len,j.cap⟩:Sl),qc xt (c.2+1)) D))
 (fun V=>
 ∃f,(d=some f)/\
 ∃e:bH,aj G (f.add 2) 0 e/\
 ∃x,cellOf G (n.add 1)=some (xl xt x)/\
 af xx 69 #[x,c.2,y] (.one (.sc (.int .u32))) G fun F t=>
 (av.ok [(f.add 2,e.1),((f.add 2).add 1,e.2.1),((f.add 2).add 2,e.2.2)] t)/\
 af xx 68 #[e,(xl xv F),J] (.many [cv,aZ]) t fun g r=>
 (av.ok [] r)/\
 V ((⟨g.1.ptr,g.1.len,g.1.cap⟩:Sl),g.2) r))
 (fun S=>
 ∃b,(d=some b)/\
 ∃a:cJ,aj k b 0 a/\
 ∃m,cellOf k (n.add 1)=some (xl xt m)/\
 af xx 15 #[d] aH k fun B M=>
 (av.ok [(n.add 1,m),(b,a.1),(b.add 1,a.2.1),(b.add 2,a.2.2.1),(b.add 3,a.2.2.2.1),(b.add 4,a.2.2.2.2.1),(b.add 5,a.2.2.2.2.2.1),(b.add 6,a.2.2.2.2.2.2.1),(b.add 7,a.2.2.2.2.2.2.2)] M)/\
 af xx 67 #[(.func (.func 16) #[d] #[]),B,a,m,c.2] aH M fun l h8=>
 (av.ok [] h8)/\
 S (⟨l.ptr,l.len,l.cap⟩:Sl) h8))
 (∃q,(d=some q)/\
 ∃v:bH,aj k (q.add 2) 0 v/\
 ∃s,cellOf k (n.add 2)=some (xl xt s)/\
 af xx 70 #[v,c.1,s] (.many [cv,mg]) k fun H w=>
 (av.ok [] w)/\
 R (.tuple #[H.1,(xl xt 0)]) w)) ((⟨none,0,0⟩:Sl),(0:Int)) N)))
theorem EH(b:aO)(a:ByteArray)(c:@tu R h b a):ac xx 12 #[b,a] h R:=au ae func12 (an.tn (an.tn (an.tn (an.tn (an.tn (an.tn (an.tn (.two (an.tn (.inn (.loop [(8,cv),(37,aZ)] [(4,6),(8,14),(37,76)] (an.tn (an.tn (.two (.inn (an.tn (.two (.join [(11,cv)] [(11,12),(42,54)] .n) (.two (.join [(12,cv),(13,aZ)] [(12,14),(54,69)] .n) .n)))) .n)))))) .n)))))))) c
def mW(b:Int)(a:Int):Prop:=
 (a≠0)/\
 bf (σ:=Int) (fun e d=>
 R e d)
 (fun c=>
 Br ((z7 b a)<0)
 (c (qc xt ((z7 b a)+a)) h)
 (c (z7 b a) h))
theorem ue(b:Int)(a:Int)(c:@mW R h b a):ac xx 13 #[b,a] h R:=au ae func13 (an.tn (an.tn (.two (.join [(0,aZ)] [(0,1),(8,13)] .n) .n))) c
def BP(c:aO)(j:Int):Prop:=
 aK xx (qM 3 j) h fun Z h1=>
 af xx 71 #[c] bE h1 fun r2 h2=>
 Br r2
 (R (xl xt 14) h2)
 (af xx 34 #[c] FH h2 fun r3 h3=>
 aK xx (qK 59 true (.tuple #[])) h3 fun a4 h4=>
 ag xx (qf 59 a4 r3) h4 fun _ h5=>
 ∃x5:Sl,cellOf h5 (a4.add 6)=some (x5:Value)/\
 ∃x6,cellOf h5 Z=some (xl xt x6)/\
 af xx 72 #[x5,x6] bE h5 fun r7 h6=>
 Br (!r7)
 (R (xl xt 5) h6)
 (aK xx (qK 127 true (.tuple #[])) h6 fun a8 h7=>
 ag xx (qf 127 a8 (.func (.func 73) #[] #[Z])) h7 fun _ h8=>
 bf (σ:=aO) (fun a ay=>
 af xx 15 #[c] aH ay fun a6 a3=>
 af xx 74 #[a6,(.func (.func 75) #[] #[a8])] aH a3 fun ab ah=>
 ∃L,(a=some L)/\
 ag xx (qf 22 (L.add 17) ab) ah fun _ g=>
 bf (σ:=Unit) (fun _ v=>
 ∃S,(a=some S)/\
 ∃K,cellOf v (S.add 9)=some (xl xt K)/\
 ∃z,(a=some z)/\
 ag xx (qf 3 (z.add 9) (qc xt (K+1))) v fun _ y=>
 ∃W,(a=some W)/\
 ∃G:Sl,cellOf y ((W.add 9).add 6)=some (G:Value)/\
 af xx 74 #[G,(.func (.func 76) #[] #[a8])] aH y fun a7 am=>
 ∃A,(a=some A)/\
 ag xx (qf 22 ((A.add 9).add 6) a7) am fun _ T=>
 ∃a28,(a=some a28)/\
 ∃s:cJ,aj T (a28.add 9) 0 s/\
 af xx 43 #[s] aH T fun ad ao=>
 ∃M,(a=some M)/\
 ag xx (qf 3 (M.add 18) (xl xt (ad.len:Int))) ao fun _ O=>
 ∃D,cellOf O Z=some (xl xt D)/\
 af xx 77 #[a,D] bE O fun a9 q=>
 Br (!a9)
 (R (xl xt 7) q)
 (∃U,(a=some U)/\
 ∃k:Sl,cellOf q (U.add 17)=some (k:Value)/\
 aJ (σ:=Int) (fun i K3 f=>
 Br (i<(k.len:Int))
 (∃V,(k.ptr=some V/\0<=i/\i<(k.len:Int))/\
 ∃e,cellOf f (V.add (i.toNat*1))=some (xl xt e)/\
 bf (σ:=Int) (fun I H=>
 Br (I !=0)
 (R I H)
 (K3 (qc xt (i+1)) H))
 (fun K4=>
 ∃b:cJ,aj f a4 0 b/\
 ∃n,(a=some n)/\
 ∃l,cellOf f (n.add 18)=some (xl xt l)/\
 ∃o,(a=some o)/\
 (0<=e/\e<((64:Nat):Int))/\
 ∃m,cellOf f ((o.add 19).add (e.toNat*1))=some (xl xt m)/\
 af xx 16 #[c,e] jp f fun a5 E=>
 (av.ok [((o.add 19).add (e.toNat*1),m),(n.add 18,l),(a4,b.1),(a4.add 1,b.2.1),(a4.add 2,b.2.2.1),(a4.add 3,b.2.2.2.1),(a4.add 4,b.2.2.2.2.1),(a4.add 5,b.2.2.2.2.2.1),(a4.add 6,b.2.2.2.2.2.2.1),(a4.add 7,b.2.2.2.2.2.2.2)] E)/\
 af xx 78 #[a5,b,(qc xt (l+m))] bt E fun ax Q=>
 (av.ok [((o.add 19).add (e.toNat*1),m),(n.add 18,l)] Q)/\
 K4 ax Q))
 (∃Y,(a=some Y)/\
 ∃J:Sl,cellOf f (Y.add 83)=some (J:Value)/\
 af xx 50 #[(.func (.func 16) #[c] #[]),J] bt f fun w p=>
 Br (w !=0)
 (R w p)
 (∃a50,(a=some a50)/\
 ∃N:cJ,aj p (a50.add 9) 0 N/\
 af xx 30 #[c,N] bt p fun u r=>
 Br (u !=0)
 (R u r)
 (∃F,cellOf r Z=some (xl xt F)/\
 af xx 41 #[c,F,(xo none)] gF r fun _ a0=>
 R (xl xt 0) a0)))) (0:Int) q))
 (fun K2=>
 ∃X,(a=some X)/\
 ∃B:Sl,cellOf g (X.add 17)=some (B:Value)/\
 Br ((B.len:Int)==0) (R (xl xt 7) g) (∃x,cellOf g a4=some (xl xt x)/\
 Br (x>=2147483647)
 (R (xl xt 7) g)
 (K2 () g))))
 (fun K1=>
 ∃d:cJ,aj h8 a4 0 d/\
 af xx 34 #[c] FH h8 fun a2 h9=>
 (av.ok [(a4,d.1),(a4.add 1,d.2.1),(a4.add 2,d.2.2.1),(a4.add 3,d.2.2.2.1),(a4.add 4,d.2.2.2.2.1),(a4.add 5,d.2.2.2.2.2.1),(a4.add 6,d.2.2.2.2.2.2.1),(a4.add 7,d.2.2.2.2.2.2.2)] h9)/\
 ∃t:Value,(aF xx (va 131 #[(0,c),(1,d),(2,a2)]) t)/\
 aK xx (qM 131 t) h9 fun ap P=>
 (av.ok [(a4,d.1),(a4.add 1,d.2.1),(a4.add 2,d.2.2.1),(a4.add 3,d.2.2.2.1),(a4.add 4,d.2.2.2.2.1),(a4.add 5,d.2.2.2.2.2.1),(a4.add 6,d.2.2.2.2.2.2.1),(a4.add 7,d.2.2.2.2.2.2.2)] P)/\
 K1 (some ap) P)))
theorem Jf(b:aO)(a:Int)(c:@BP R h b a):ac xx 14 #[b,a] h R:=au ae func14 (an.tn (an.tn (an.tn (an.tn (an.tn (.two (.join [(7,FI)] [(7,8),(23,29)] .n) (an.tn (.two (.join [] [(4,5),(36,47)] .n) (an.tn (an.tn (an.tn (an.tn (.two (an.tn (.inn (.loop [(85,aZ)] [(4,5),(9,11),(85,109)] (an.tn (an.tn (.two (.inn (an.tn (.two (.join [(10,aZ)] [(10,11),(89,105)] .n) .n))) .n)))))) .n))))))))))))) c
def sh(a:aO):Prop:=
 Br (ze a)
 (R (xn none 0 0) h)
 (∃b,(a=some b)/\
 ∃x2:Sl,cellOf h (b.add 6)=some (x2:Value)/\
 af xx 79 #[(.func (.func 16) #[a] #[]),x2] aH h fun c d=>
 R c d)
theorem Dk(a:aO)(b:@sh R h a):ac xx 15 #[a] h R:=au ae func15 .n b
def pN(b:aO)(a:Int):Prop:=
 bf (σ:=Unit) (fun _ c=>
 ∃d,(b=some d)/\
 (0<=a/\a<((64:Nat):Int))/\
 ∃x3:aO,cellOf c ((d.add 10).add (a.toNat*1))=some (.pointer x3)/\
 R x3 c)
 (fun e=>
 Br (ze b) (R (xo none) h) (Br (a<0) (R (xo none) h) (Br (a>=64)
 (R (xo none) h)
 (e () h))))
theorem BQ(b:aO)(a:Int)(c:@pN R h b a):ac xx 16 #[b,a] h R:=au ae func16 (an.tn (.two (.join [] [(4,15)] .n) .n)) c
def si(e:aO)(l:ByteArray):Prop:=
 aK xx (qK 51 true (.tuple #[])) h fun t h1=>
 af xx 63 #[e] bE h1 fun r2 h2=>
 Br r2
 (ag xx (qf 51 t (xr #[(xl xt 0),(xl xt 0),(xl xt 0),(xn none 0 0)])) h2 fun _ h3=>
 ∃n:Tu5,aj h3 t 0 n/\
 R (.tuple #[n,(xl xt 14)]) h3)
 (af xx 65 #[e,l] bt h2 fun Q P=>
 Br (Q<0)
 (ag xx (qf 51 t (xr #[(xl xt 0),(xl xt 0),(xl xt 0),(xn none 0 0)])) P fun _ h5=>
 ∃o:Tu5,aj h5 t 0 o/\
 R (.tuple #[o,(xl xt 5)]) h5)
 (∃Z,(e=some Z)/\
 ∃W:Sl,cellOf P (Z.add 7)=some (W:Value)/\
 ∃a8,(W.ptr=some a8/\0<=Q/\Q<(W.len:Int))/\
 ∃x9:iX,aj P (a8.add (Q.toNat*4)) 0 x9/\
 aK xx (qK 105 true (.tuple #[])) P fun a h6=>
 ag xx (qf 105 a x9) h6 fun _ E=>
 bf (σ:=Addr) (fun s S=>
 af xx 15 #[e] aH S fun q X=>
 aJ (σ:=Int) (fun g K2 d=>
 Br (g<(q.len:Int))
 (∃O,(q.ptr=some O/\0<=g/\g<(q.len:Int))/\
 ∃k,cellOf d (O.add (g.toNat*1))=some (xl xt k)/\
 ∃w,(e=some w)/\
 (0<=k/\k<((64:Nat):Int))/\
 ∃A:aO,cellOf d ((w.add 10).add (k.toNat*1))=some (.pointer A)/\
 ∃a25,(e=some a25)/\
 ∃v:cJ,aj d a25 0 v/\
 af xx 81 #[A,v] aH d fun r y=>
 (av.ok [] y)/\
 aJ (σ:=Int) (fun f K3 p=>
 Br (f<(r.len:Int))
 (∃B,(r.ptr=some B/\0<=f/\f<(r.len:Int))/\
 ∃N:df,aj p (B.add (f.toNat*8)) 0 N/\
 aK xx (qK 139 true (.tuple #[])) p fun G V=>
 ag xx (qf 139 G N) V fun _ i=>
 ∃D,cellOf i G=some (xl xt D)/\
 ∃z,cellOf i (a.add 1)=some (xl xt z)/\
 Br (D==z)
 (∃x,cellOf i (s.add 2)=some (xl xt x)/\
 ag xx (qf 3 (s.add 2) (qc xt (x+1))) i fun _ T=>
 K3 (qc xt (f+1)) T)
 (K3 (qc xt (f+1)) i))
 (K2 (qc xt (g+1)) p)) (0:Int) y)
 (∃L:Tu5,aj d s 0 L/\
 ag xx (qf 51 t L) d fun _ J=>
 ∃j:Tu5,aj J t 0 j/\
 R (.tuple #[j,(xl xt 0)]) J)) (0:Int) X)
 (fun K1=>
 ∃b,cellOf E (a.add 2)=some (xl xt b)/\
 ∃c:Sl,cellOf E (a.add 3)=some (c:Value)/\
 ∃m:Sl,cellOf E (a.add 3)=some (m:Value)/\
 (af xx 80 #[m] aH E fun U h8=>
 (av.ok [(a.add 3,c),(a.add 2,b)] h8)/\
 aK xx (qK 51 true (.tuple #[])) h8 fun M h9=>
 (av.ok [(a.add 3,c),(a.add 2,b)] h9)/\
 ag xx (qf 51 M (xr #[b,(xl xt (c.len:Int)),(xl xt 0),U])) h9 fun _ I=>
 (av.ok [] I)/\
 K1 M I)/\(aK xx (qK 51 true (.tuple #[])) E fun F H=>
 (av.ok [(a.add 3,m),(a.add 3,c),(a.add 2,b)] H)/\
 af xx 80 #[m] aH H fun Y u=>
 (av.ok [(a.add 3,c),(a.add 2,b)] u)/\
 ag xx (qf 51 F (xr #[b,(xl xt (c.len:Int)),(xl xt 0),Y])) u fun _ K=>
 (av.ok [] K)/\
 K1 F K))))
theorem Dl(b:aO)(a:ByteArray)(c:@si R h b a):ac xx 17 #[b,a] h R:=au ae func17 (an.tn (an.tn (an.tn (an.tn (an.tn (.two (.join [(8,(.sc .adr))] [(8,9),(30,39)] .n) (.two (an.tn (.inn (.loop [(42,aZ)] [(10,11),(12,13),(42,73)] (an.tn (an.tn (.two (.inn (an.tn (an.tn (.inn (.loop [(58,aZ)] [(12,13),(58,72)] .n))))) .n)))))) .n))))))) c
def lq(a:Sl)(c:Sl):Prop:=
 Br ((a.len:Int) !=(c.len:Int))
 (R false h)
 (aJ (σ:=Int) (fun b g d=>
 Br (b<(a.len:Int))
 (∃f,(a.ptr=some f/\0<=b/\b<(a.len:Int))/\
 ∃x3,cellOf d (f.add (b.toNat*1))=some (xl xu x3)/\
 ∃a4,(c.ptr=some a4/\0<=b/\b<(c.len:Int))/\
 ∃e,cellOf d (a4.add (b.toNat*1))=some (xl xu e)/\
 Br (x3 !=e)
 (R false d)
 (g (qc xt (b+1)) d))
 (R true d)) (0:Int) h)
theorem rm(b:Sl)(a:Sl)(c:@lq R h b a):ac xx 18 #[b,a] h R:=au ae func18 (an.tn (an.tn (.two (an.tn (.inn (.loop [(13,aZ)] [(4,6),(13,26)] .n))) .n))) c
def mX:Prop:=
 af xx 8 #[] jp h fun d j=>
 az xx (qt 22 1 #[(0,(xl xt 5))]) aH j fun e g=>
 af xx 7 #[(xr #[(xl xt 1),(xl xt 1),(xl xt 1)]),(xl xt 0),d,e] (.many [FI,aZ]) g fun a h3=>
 Br (a.2==0) (af xx 82 #[a.1,(xl xt 3)] bt h3 fun i b=>
 Br (i==5) (af xx 83 #[a.1,(xl xt 0),(xl xt 5)] bt b fun c f=>
 R (xq (c==4)) f) (R false b)) (R false h3)
theorem uf(a:@mX R h):ac xx 19 #[] h R:=au ae func19 .n a
end
end Go.Qw
