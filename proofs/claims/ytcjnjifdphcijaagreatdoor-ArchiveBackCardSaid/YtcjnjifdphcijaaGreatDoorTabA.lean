/- Lemmas for the proof of the law; no condition. -/
import Derived.Test.YtcjnjifdphcijaaGreatDoorPlA
import Derived.Test.YtcjnjifdphcijaaGreatDoorProg
set_option linter.unusedVariables false
open Go.Proofs.Tryz renaming prog -> xT
open Go.Value renaming agg -> xO, bool -> xN, int -> xJ, pointer -> xL, slice -> xK, string -> xM
open Go.IntKind renaming i64 -> xP, u32 -> xR, u64 -> xS, u8 -> xQ, wrap -> qe
open List renaming replicate -> qg, toArray -> ym
open Nat renaming ble -> xr
open Go.Instr renaming alloc -> yQ, box -> vD, buildSlice -> zO, storeAt -> qH
open Int renaming tdiv -> vm
open Go.Builtin renaming append_ -> zA
open Go.Proofs.Tryz
set_option maxRecDepth 1000000
open Option renaming none -> et
open Go renaming Value -> eR
namespace Go.Qw
open Go.Proofs
instance:Coe Int eR:=⟨λx=>xJ xP x⟩
instance:Coe Sl eR:=⟨λs=>xK s.ptr s.len s.cap⟩
instance:Coe ByteArray eR:=⟨.string⟩
instance:Coe (Option Addr) eR:=⟨.pointer⟩
instance:Coe Addr eR:=⟨λa=>xL (some a)⟩
instance:Coe Bool eR:=⟨.bool⟩
instance:Coe (Int×Int×Int) (List eR):=⟨λx=>[x.1,x.2.1,x.2.2]⟩
instance:Coe (Int×Int×Int) eR:=⟨λx=>xO (ym x)⟩
instance:Coe (Int×ByteArray×Sl×Int×Int×Int×Int×Sl×Sl) (List eR):=⟨λx=>[x.1,x.2.1,x.2.2.1,x.2.2.2.1,x.2.2.2.2.1,x.2.2.2.2.2.1,(xJ xR x.2.2.2.2.2.2.1),x.2.2.2.2.2.2.2.1,x.2.2.2.2.2.2.2.2]⟩
instance:Coe (Int×ByteArray×Sl×Int×Int×Int×Int×Sl×Sl) eR:=⟨λx=>xO (ym x)⟩
instance:Coe (Int×Sl×Sl×Int×Int×Int×Sl×Int) (List eR):=⟨λx=>[x.1,x.2.1,x.2.2.1,x.2.2.2.1,x.2.2.2.2.1,x.2.2.2.2.2.1,x.2.2.2.2.2.2.1,x.2.2.2.2.2.2.2]⟩
instance:Coe (Int×Sl×Sl×Int×Int×Int×Sl×Int) eR:=⟨λx=>xO (ym x)⟩
instance:Coe (Int×Int×Int×Sl) (List eR):=⟨λx=>[x.1,x.2.1,x.2.2.1,x.2.2.2]⟩
instance:Coe (Int×Int×Int×Sl) eR:=⟨λx=>xO (ym x)⟩
instance:Coe (Int×Int×Int×Int×Int×Int×Sl×Sl) (List eR):=⟨λx=>[x.1,x.2.1,x.2.2.1,x.2.2.2.1,x.2.2.2.2.1,x.2.2.2.2.2.1,x.2.2.2.2.2.2.1,x.2.2.2.2.2.2.2]⟩
instance:Coe (Int×Int×Int×Int×Int×Int×Sl×Sl) eR:=⟨λx=>xO (ym x)⟩
instance:Coe (ByteArray×Int×Int×Sl) (List eR):=⟨λx=>[x.1,x.2.1,x.2.2.1,x.2.2.2]⟩
instance:Coe (ByteArray×Int×Int×Sl) eR:=⟨λx=>xO (ym x)⟩
instance:Coe (Int×Int×Int×Int×Int×Int×Int×Sl) (List eR):=⟨λx=>[x.1,x.2.1,x.2.2.1,x.2.2.2.1,x.2.2.2.2.1,x.2.2.2.2.2.1,(xJ xR x.2.2.2.2.2.2.1),x.2.2.2.2.2.2.2]⟩
instance:Coe (Int×Int×Int×Int×Int×Int×Int×Sl) eR:=⟨λx=>xO (ym x)⟩
instance:Coe (Int×Sl) (List eR):=⟨λx=>[x.1,x.2]⟩
instance:Coe (Int×Sl) eR:=⟨λx=>xO (ym x)⟩
instance:Coe (Sl×Sl) (List eR):=⟨λx=>[x.1,x.2]⟩
instance:Coe (Sl×Sl) eR:=⟨λx=>xO (ym x)⟩
instance:Coe (Sl×Sl×Sl) (List eR):=⟨λx=>[x.1,x.2.1,x.2.2]⟩
instance:Coe (Sl×Sl×Sl) eR:=⟨λx=>xO (ym x)⟩
instance:Coe (Int×Int) (List eR):=⟨λx=>[x.1,x.2]⟩
instance:Coe (Int×Int) eR:=⟨λx=>xO (ym x)⟩
instance:Coe (Int×Int×Int×Sl×Sl) (List eR):=⟨λx=>[x.1,x.2.1,x.2.2.1,x.2.2.2.1,x.2.2.2.2]⟩
instance:Coe (Int×Int×Int×Sl×Sl) eR:=⟨λx=>xO (ym x)⟩
abbrev tH(h:Heap)(a:Addr)(k:Int->Prop):Prop:=∃x,cellOf h a=some (xJ xP x)/\k x
abbrev LdK(i:IntKind)(h:Heap)(a:Addr)(k:Int->Prop):Prop:=∃x:Int,cellOf h a=some (.int i x)/\k x
abbrev LdS(h:Heap)(a:Addr)(k:Sl->Prop):Prop:=∃x:Sl,cellOf h a=some (x:eR)/\k x
abbrev uT(s:Sl)(i:Int)(k:Addr->Prop):Prop:=∃a,(s.ptr=some a/\0<=i/\i<((s.len:Nat):Int))/\k a
abbrev Pp:=Int×Int×Int
abbrev Tu2:=ByteArray×Int×Int×Sl
abbrev ajl:Rt:=.one (.agg [(.int .i64),(.int .i64),(.int .i64)])
abbrev Pq:Rt:=.one (.sc .slc)
abbrev lB:Rt:=.one (.sc (.int .i64))
abbrev Jf:Rt:=.one (.sc .bool)
abbrev cM:Ty:=.sc .slc
abbrev aU:Ty:=.sc (.int .i64)
abbrev TR:Ty:=.sc .ptr
abbrev ka:Ty:=.sc .bool
abbrev tyT:Ty:=.sc .str
variable {R:Bd} {h:Heap}
def ajz:ByteArray:=⟨#[0]⟩
def ajs:ByteArray:=⟨#[98]⟩
def aiI:ByteArray:=⟨#[99,97,116,45,55]⟩
def ajt:ByteArray:=⟨#[100]⟩
def Yv:ByteArray:=⟨#[101,49,50,51,52,53,54,55,56,57,48,49]⟩
def aju:ByteArray:=⟨#[97]⟩
def nl:ByteArray:=⟨#[]⟩
abbrev aQ:TI:=⟨.fn,(.sc .fn),1,8,[.nilFunc]⟩
abbrev ti1:TI:=⟨.int .i64,(.sc (.int .i64)),1,8,[(xJ xP 0)]⟩
abbrev ti2:TI:=⟨.int .u8,(.sc (.int .u8)),1,1,[(xJ xQ 0)]⟩
abbrev ti3:TI:=⟨.str,(.sc .str),1,16,[(.string ⟨#[]⟩)]⟩
abbrev ti4:TI:=⟨.int .u64,(.sc (.int .u64)),1,8,[(xJ xS 0)]⟩
abbrev ti5:TI:=⟨.int .i32,(.sc (.int .i32)),1,4,[(.int .i32 0)]⟩
abbrev ti6:TI:=⟨.struct [(0,3),(1,3),(2,3)],(.agg [(.int .i64),(.int .i64),(.int .i64)]),3,24,[(xJ xP 0),(xJ xP 0),(xJ xP 0)]⟩
abbrev ti7:TI:=⟨.mp,(.sc .mp),1,8,[(.map et)]⟩
abbrev ti8:TI:=⟨.other,(.sc .any),1,0,[(.tuple #[(xL et),(xJ xP 0)])]⟩
abbrev ti9:TI:=⟨.other,(.sc .any),1,0,[(.tuple #[(xJ xP 0),(xJ xP 0)])]⟩
abbrev abX:TI:=⟨.other,(.sc .any),1,0,[(.tuple #[(xK et 0 0),(xJ xP 0)])]⟩
abbrev VB:TI:=⟨.other,(.sc .any),1,0,[(.tuple #[(xK et 0 0),(.bool .false)])]⟩
abbrev VC:TI:=⟨.struct [(0,3),(1,34)],(.agg [(.int .i64),.slc]),2,32,[(xJ xP 0),(xK et 0 0)]⟩
abbrev ahu:TI:=⟨.struct [(0,2),(1,3),(2,4),(3,6)],(.agg [(.int .i64),(.int .i64),.bool,(.int .u8)]),4,24,[(xJ xP 0),(xJ xP 0),(.bool .false),(xJ xQ 0)]⟩
abbrev ahv:TI:=⟨.struct [(0,9),(1,12)],(.agg [.str,(.int .u64)]),2,24,[(xM ⟨#[]⟩),(xJ xS 0)]⟩
abbrev ahw:TI:=⟨.struct [(0,17)],(.agg [.ptr]),1,8,[(xL et)]⟩
abbrev ahx:TI:=⟨.struct [(0,3),(1,9),(2,34),(3,3),(4,3),(5,3),(6,35),(7,22),(8,22)],(.agg [(.int .i64),.str,.slc,(.int .i64),(.int .i64),(.int .i64),(.int .u32),.slc,.slc]),9,128,[(xJ xP 0),(xM ⟨#[]⟩),(xK et 0 0),(xJ xP 0),(xJ xP 0),(xJ xP 0),(xJ xR 0),(xK et 0 0),(xK et 0 0)]⟩
abbrev ahy:TI:=⟨.struct [(0,3),(1,3),(2,3),(3,22)],(.agg [(.int .i64),(.int .i64),(.int .i64),.slc]),4,48,[(xJ xP 0),(xJ xP 0),(xJ xP 0),(xK et 0 0)]⟩
abbrev ahz:TI:=⟨.struct [(0,38),(1,34),(2,39),(3,41),(7,3)],(.agg [(.int .i64),.slc,.slc,(.int .i64),(.int .i64),(.int .i64),.slc,(.int .i64)]),8,112,[(xJ xP 0),(xK et 0 0),(xK et 0 0),(xJ xP 0),(xJ xP 0),(xJ xP 0),(xK et 0 0),(xJ xP 0)]⟩
abbrev ahA:TI:=⟨.struct [(0,56),(1,28),(2,58)],(.arr .any),66,528,qg 66 (xL et)⟩
abbrev ahB:TI:=⟨.struct [(0,3),(1,3),(2,25),(5,3),(6,22),(7,83)],(.agg [(.int .i64),(.int .i64),(.int .i64),(.int .i64),(.int .i64),(.int .i64),.slc,.slc]),8,96,[(xJ xP 0),(xJ xP 0),(xJ xP 0),(xJ xP 0),(xJ xP 0),(xJ xP 0),(xK et 0 0),(xK et 0 0)]⟩
abbrev ahC:TI:=⟨.struct [(0,28),(1,85),(9,85),(17,22),(18,3),(19,95),(83,96)],(.arr .any),84,768,[(xL et),(xJ xP 0),(xJ xP 0),(xJ xP 0),(xJ xP 0),(xJ xP 0),(xJ xP 0),(xK et 0 0),(xK et 0 0),(xJ xP 0),(xJ xP 0),(xJ xP 0),(xJ xP 0),(xJ xP 0),(xJ xP 0),(xK et 0 0),(xK et 0 0),(xK et 0 0)]++qg 65 (xJ xP 0)++[(xK et 0 0)]⟩
abbrev ahD:TI:=⟨.struct [(0,28),(1,85),(9,22),(10,3),(11,3),(12,3)],(.agg [.ptr,(.int .i64),(.int .i64),(.int .i64),(.int .i64),(.int .i64),(.int .i64),.slc,.slc,.slc,(.int .i64),(.int .i64),(.int .i64)]),13,152,[(xL et),(xJ xP 0),(xJ xP 0),(xJ xP 0),(xJ xP 0),(xJ xP 0),(xJ xP 0),(xK et 0 0),(xK et 0 0),(xK et 0 0),(xJ xP 0),(xJ xP 0),(xJ xP 0)]⟩
abbrev aec:TI:=⟨.struct [(0,9),(1,3),(2,3),(3,22)],(.agg [.str,(.int .i64),(.int .i64),.slc]),4,56,[(xM ⟨#[]⟩),(xJ xP 0),(xJ xP 0),(xK et 0 0)]⟩
abbrev aed:TI:=⟨.struct [(0,4),(1,4),(2,3),(3,3)],(.agg [.bool,.bool,(.int .i64),(.int .i64)]),4,24,[(.bool .false),(.bool .false),(xJ xP 0),(xJ xP 0)]⟩
abbrev aee:TI:=⟨.struct [(0,85),(8,56),(9,3),(10,58)],(.arr .any),74,624,[(xJ xP 0),(xJ xP 0),(xJ xP 0),(xJ xP 0),(xJ xP 0),(xJ xP 0),(xK et 0 0),(xK et 0 0),(xL et),(xJ xP 0)]++qg 64 (xL et)⟩
abbrev aef:TI:=⟨.struct [(0,3),(1,3),(2,3),(3,25),(6,35),(7,34)],(.agg [(.int .i64),(.int .i64),(.int .i64),(.int .i64),(.int .i64),(.int .i64),(.int .u32),.slc]),8,80,[(xJ xP 0),(xJ xP 0),(xJ xP 0),(xJ xP 0),(xJ xP 0),(xJ xP 0),(xJ xR 0),(xK et 0 0)]⟩
abbrev aeg:TI:=⟨.struct [(0,56),(1,3),(2,53),(3,3),(4,53),(5,4),(6,4)],(.agg [.ptr,(.int .i64),.slc,(.int .i64),.slc,.bool,.bool]),7,80,[(xL et),(xJ xP 0),(xK et 0 0),(xJ xP 0),(xK et 0 0),(.bool .false),(.bool .false)]⟩
abbrev aeh:TI:=⟨.struct [(0,3),(1,3),(2,35),(3,180),(4,181),(5,22)],(.agg [(.int .i64),(.int .i64),(.int .u32),.ptr,.slc,.slc]),6,80,[(xJ xP 0),(xJ xP 0),(xJ xR 0),(xL et),(xK et 0 0),(xK et 0 0)]⟩
abbrev aei:TI:=⟨.struct [(0,25),(3,35),(4,53)],(.agg [(.int .i64),(.int .i64),(.int .i64),(.int .u32),.slc]),5,56,[(xJ xP 0),(xJ xP 0),(xJ xP 0),(xJ xR 0),(xK et 0 0)]⟩
abbrev aej:TI:=⟨.struct [(0,3),(1,261)],(.agg [(.int .i64),(.flt .f64)]),2,16,[(xJ xP 0),(.float Go.FloatKind.f64 0)]⟩
abbrev aek:TI:=⟨.struct [(0,22),(1,34)],(.agg [.slc,.slc]),2,48,[(xK et 0 0),(xK et 0 0)]⟩
abbrev ael:TI:=⟨.struct [(0,278),(1,22),(2,22)],(.agg [.slc,.slc,.slc]),3,72,[(xK et 0 0),(xK et 0 0),(xK et 0 0)]⟩
abbrev aem:TI:=⟨.struct [(0,251),(1,25),(4,53),(5,274),(6,280),(9,53),(10,53)],(.agg [.ptr,(.int .i64),(.int .i64),(.int .i64),.slc,.slc,.slc,.slc,.slc,.slc,.slc]),11,200,[(xL et),(xJ xP 0),(xJ xP 0),(xJ xP 0),(xK et 0 0),(xK et 0 0),(xK et 0 0),(xK et 0 0),(xK et 0 0),(xK et 0 0),(xK et 0 0)]⟩
abbrev aen:TI:=⟨.struct [(0,320),(255,322)],(.arr .any),511,2304,qg 255 (xJ xQ 0)++qg 256 (xJ xP 0)⟩
abbrev aeo:TI:=⟨.struct [(0,257),(1,257),(2,3),(3,3),(4,4)],(.agg [(.cpx .f64),(.cpx .f64),(.int .i64),(.int .i64),.bool]),5,56,[(.complex Go.FloatKind.f64 0 0),(.complex Go.FloatKind.f64 0 0),(xJ xP 0),(xJ xP 0),(.bool .false)]⟩
abbrev aep:TI:=⟨.struct [(0,274),(1,283),(2,53)],(.agg [.slc,.slc,.slc]),3,72,[(xK et 0 0),(xK et 0 0),(xK et 0 0)]⟩
abbrev aeq:TI:=⟨.struct [(0,3),(1,3)],(.agg [(.int .i64),(.int .i64)]),2,16,[(xJ xP 0),(xJ xP 0)]⟩
abbrev aer:TI:=⟨.array 256 4,(.arr .bool),256,256,qg 256 (.bool .false)⟩
abbrev aes:TI:=⟨.struct [(0,231)],(.agg [(.int .u64)]),1,8,[(xJ xS 0)]⟩
abbrev aet:TI:=⟨.struct [(0,251),(1,3),(2,53)],(.agg [.ptr,(.int .i64),.slc]),3,40,[(xL et),(xJ xP 0),(xK et 0 0)]⟩
abbrev aeu:TI:=⟨.struct [(0,3),(1,3),(2,3),(3,34),(4,34)],(.agg [(.int .i64),(.int .i64),(.int .i64),.slc,.slc]),5,72,[(xJ xP 0),(xJ xP 0),(xJ xP 0),(xK et 0 0),(xK et 0 0)]⟩
abbrev aev:TI:=⟨.struct [(0,181),(1,283),(2,283)],(.agg [.slc,.slc,.slc]),3,72,[(xK et 0 0),(xK et 0 0),(xK et 0 0)]⟩
abbrev aew:TI:=⟨.struct [(0,34),(1,4)],(.agg [.slc,.bool]),2,32,[(xK et 0 0),(.bool .false)]⟩
abbrev aex:TI:=⟨.struct [(0,5),(1,5)],(.agg [(.int .u8),(.int .u8)]),2,2,[(xJ xQ 0),(xJ xQ 0)]⟩
abbrev aey:TI:=⟨.struct [(0,17),(1,17),(2,17),(3,9)],(.agg [.ptr,.ptr,.ptr,.str]),4,40,[(xL et),(xL et),(xL et),(xM ⟨#[]⟩)]⟩
abbrev aez:TI:=⟨.struct [(0,439)],(.agg []),0,0,[]⟩
abbrev aeA:TI:=⟨.struct [(0,12),(1,12),(2,35),(3,442),(4,5),(5,5),(6,443),(7,444),(8,297),(9,445),(10,446)],(.agg [(.int .u64),(.int .u64),(.int .u32),(.int .u8),(.int .u8),(.int .u8),(.int .u8),.fn,.ptr,(.int .i32),(.int .i32)]),11,48,[(xJ xS 0),(xJ xS 0),(xJ xR 0),(xJ xQ 0),(xJ xQ 0),(xJ xQ 0),(xJ xQ 0),.nilFunc,(xL et),(.int .i32 0),(.int .i32 0)]⟩
noncomputable def TS:kL:=[⟨.other,(.sc .any),1,0,[(.tuple #[])]⟩,aQ,ti1,ti1,⟨.bool,(.sc .bool),1,1,[(.bool .false)]⟩,ti2,ti2,ahu,ahu,ti3,ti3,ti3,ti4,ahv,ahv,⟨.ptr 438,(.sc .ptr),1,8,[(xL et)]⟩,⟨.ptr 441,(.sc .ptr),1,8,[(xL et)]⟩,⟨.ptr 448,(.sc .ptr),1,8,[(xL et)]⟩,ahw,ahw,⟨.other,(.sc .any),1,16,[.nilIface]⟩,ti5,⟨.slice 3,(.sc .slc),1,24,[(xK et 0 0)]⟩,⟨.ptr 60,(.sc .ptr),1,8,[(xL et)]⟩,ti6,ti6,⟨.other,(.sc .any),1,0,[(.tuple #[(xL et),(.agg #[(xJ xP 0),(xJ xP 0),(xJ xP 0)])])]⟩,aQ,⟨.ptr 127,(.sc .ptr),1,8,[(xL et)]⟩,aQ,ti7,aQ,⟨.slice 37,(.sc .slc),1,24,[(xK et 0 0)]⟩,aQ,⟨.slice 5,(.sc .slc),1,24,[(xK et 0 0)]⟩,⟨.int .u32,(.sc (.int .u32)),1,4,[(xJ xR 0)]⟩,ahx,ahx,ti1,⟨.slice 9,(.sc .slc),1,24,[(xK et 0 0)]⟩,ahy,ahy,ahz,ahz,aQ,aQ,aQ,aQ,aQ,⟨.other,(.sc .any),1,0,[(.tuple #[(.agg #[(xJ xP 0),(xJ xP 0),(xJ xP 0)]),(xJ xP 0),(xK et 0 0)])]⟩,aQ,ti8,aQ,⟨.slice 34,(.sc .slc),1,24,[(xK et 0 0)]⟩,aQ,aQ,⟨.ptr 118,(.sc .ptr),1,8,[(xL et)]⟩,⟨.ptr 155,(.sc .ptr),1,8,[(xL et)]⟩,⟨.array 64 57,(.arr .ptr),64,512,qg 64 (xL et)⟩,ahA,ahA,aQ,aQ,aQ,aQ,ti9,aQ,aQ,aQ,aQ,aQ,ti8,aQ,aQ,aQ,aQ,abX,aQ,aQ,aQ,⟨.other,(.sc .any),1,0,[(.tuple #[(.agg #[(xJ xP 0),(xJ xP 0),(xJ xP 0),(xK et 0 0)]),(xJ xP 0)])]⟩,aQ,aQ,⟨.slice 111,(.sc .slc),1,24,[(xK et 0 0)]⟩,ahB,ahB,aQ,aQ,aQ,aQ,aQ,aQ,aQ,aQ,⟨.ptr 98,(.sc .ptr),1,8,[(xL et)]⟩,⟨.array 64 3,(.arr (.int .i64)),64,512,qg 64 (xJ xP 0)⟩,⟨.slice 134,(.sc .slc),1,24,[(xK et 0 0)]⟩,ahC,ahC,aQ,aQ,aQ,aQ,aQ,aQ,aQ,⟨.ptr 108,(.sc .ptr),1,8,[(xL et)]⟩,ahD,ahD,aQ,aec,aec,aQ,⟨.other,(.sc .any),1,0,[(.tuple #[(xJ xP 0),(xK et 0 0),(.bool .false)])]⟩,aQ,aQ,aQ,aed,aed,aQ,aQ,⟨.slice 57,(.sc .slc),1,24,[(xK et 0 0)]⟩,VB,aQ,aQ,aQ,aee,aee,aQ,aQ,VB,aQ,aQ,VC,VC,aQ,aQ,aQ,aQ,aQ,⟨.slice 205,(.sc .slc),1,24,[(xK et 0 0)]⟩,aQ,aQ,aQ,VB,aQ,aQ,aQ,aQ,aQ,⟨.slice 153,(.sc .slc),1,24,[(xK et 0 0)]⟩,aQ,aef,aef,aeg,aeg,aQ,aQ,ti4,aQ,aQ,aQ,aQ,aQ,aQ,aQ,aQ,aQ,aQ,aQ,aQ,aQ,aQ,aQ,aQ,aQ,⟨.ptr 183,(.sc .ptr),1,8,[(xL et)]⟩,ti8,aQ,aQ,⟨.ptr 256,(.sc .ptr),1,8,[(xL et)]⟩,⟨.slice 22,(.sc .slc),1,24,[(xK et 0 0)]⟩,aeh,aeh,aQ,aQ,⟨.other,(.sc .any),1,0,[(.tuple #[(.agg #[(xJ xP 0),(xJ xP 0),(xJ xP 0),(xJ xP 0),(xJ xP 0),(xJ xP 0),(xK et 0 0),(xK et 0 0)]),(.bool .false)])]⟩,aQ,aQ,aQ,⟨.other,(.sc .any),1,0,[(.tuple #[(xJ xP 0),(.bool .false)])]⟩,aQ,aQ,aQ,ti8,aQ,aQ,aQ,aQ,aQ,aQ,aQ,aQ,aQ,VC,VC,aQ,aQ,aQ,aQ,aQ,abX,aQ,aQ,aQ,⟨.other,(.sc .any),1,0,[(.tuple #[(.agg #[(xJ xP 0),(xJ xP 0),(xJ xP 0),(xJ xP 0),(xJ xP 0),(xJ xP 0),(xJ xR 0),(xK et 0 0)]),(.bool .false)])]⟩,aQ,aQ,aQ,aQ,aQ,aQ,aQ,ti1,ti9,aQ,aQ,aQ,aQ,aQ,aQ,ti4,aQ,aQ,aQ,aQ,ti7,ti6,ti6,aQ,aQ,aQ,aQ,⟨.other,(.sc .any),1,0,[(.tuple #[(xK et 0 0),(.bool .false),(xJ xP 0)])]⟩,aQ,aQ,aQ,⟨.slice 85,(.sc .slc),1,24,[(xK et 0 0)]⟩,aQ,aQ,aQ,⟨.ptr 325,(.sc .ptr),1,8,[(xL et)]⟩,aQ,aQ,aQ,aei,aei,⟨.cpx,(.sc (.cpx .f64)),1,16,[(.complex Go.FloatKind.f64 0 0)]⟩,aQ,⟨.slice 264,(.sc .slc),1,24,[(xK et 0 0)]⟩,⟨.array 64 4,(.arr .bool),64,64,qg 64 (.bool .false)⟩,⟨.flt,(.sc (.flt .f64)),1,8,[(.float Go.FloatKind.f64 0)]⟩,aQ,aej,aej,aQ,aQ,aQ,aQ,aQ,aQ,aQ,aQ,aQ,⟨.slice 276,(.sc .slc),1,24,[(xK et 0 0)]⟩,aek,aek,⟨.ptr 282,(.sc .ptr),1,8,[(xL et)]⟩,⟨.slice 349,(.sc .slc),1,24,[(xK et 0 0)]⟩,ael,ael,aem,aem,⟨.slice 4,(.sc .slc),1,24,[(xK et 0 0)]⟩,⟨.other,(.sc .any),1,0,[(.tuple #[(xK et 0 0),(xK et 0 0),(xK et 0 0),(xJ xP 0)])]⟩,aQ,aQ,⟨.other,(.sc .any),1,0,[(.tuple #[(xK et 0 0),(xK et 0 0)])]⟩,aQ,aQ,aQ,⟨.ptr 361,(.sc .ptr),1,8,[(xL et)]⟩,aQ,aQ,aQ,aQ,aQ,⟨.ptr 5,(.sc .ptr),1,8,[(xL et)]⟩,aQ,aQ,ti4,aQ,aQ,aQ,⟨.ptr 3,(.sc .ptr),1,8,[(xL et)]⟩,aQ,aQ,abX,aQ,⟨.ptr 368,(.sc .ptr),1,8,[(xL et)]⟩,aQ,aQ,⟨.slice 53,(.sc .slc),1,24,[(xK et 0 0)]⟩,aQ,aQ,aQ,aQ,aQ,aQ,aQ,⟨.array 255 5,(.arr (.int .u8)),255,255,qg 255 (xJ xQ 0)⟩,aQ,⟨.array 256 3,(.arr (.int .i64)),256,2048,qg 256 (xJ xP 0)⟩,aQ,aen,aen,aQ,⟨.ptr 330,(.sc .ptr),1,8,[(xL et)]⟩,aQ,aeo,aeo,aQ,aQ,aQ,aQ,aQ,aQ,aQ,aQ,aQ,aQ,⟨.ptr 343,(.sc .ptr),1,8,[(xL et)]⟩,aep,aep,aQ,⟨.other,(.sc .any),1,0,[(.tuple #[(.agg #[(xK et 0 0),(xK et 0 0),(xK et 0 0)]),(.bool .false)])]⟩,aQ,aQ,aeq,aeq,aQ,aQ,aQ,aer,aer,⟨.other,(.sc .any),1,0,[(.tuple #[(.agg (qg 256 (.bool .false)).toArray),(.bool .false)])]⟩,aQ,aQ,⟨.ptr 354,(.sc .ptr),1,8,[(xL et)]⟩,aQ,aes,aes,aQ,aQ,⟨.ptr 300,(.sc .ptr),1,8,[(xL et)]⟩,ti9,aQ,aet,aet,aQ,aQ,aQ,aQ,aQ,aQ,⟨.slice 377,(.sc .slc),1,24,[(xK et 0 0)]⟩,aeu,aeu,⟨.other,(.sc .any),1,0,[(.tuple #[(.agg #[(xJ xP 0),(xJ xP 0),(xJ xP 0),(xK et 0 0),(xK et 0 0)]),(.bool .false)])]⟩,aQ,ti7,VB,aQ,aQ,aQ,aQ,aQ,aQ,aQ,aQ,aQ,aQ,aQ,aQ,aQ,aQ,aQ,aQ,aQ,aQ,aQ,⟨.ptr 403,(.sc .ptr),1,8,[(xL et)]⟩,aev,aev,aQ,⟨.other,(.sc .any),1,0,[(.tuple #[(.agg #[(xJ xP 0),(xJ xP 0)]),(.bool .false)])]⟩,aQ,aQ,⟨.other,(.sc .any),1,0,[(.tuple #[(.int .i32 0),(xJ xP 0)])]⟩,aQ,aQ,aQ,aQ,aQ,aQ,aQ,aQ,aQ,aQ,aQ,aQ,aQ,aQ,aQ,aQ,⟨.ptr 427,(.sc .ptr),1,8,[(xL et)]⟩,aew,aew,aQ,aQ,aQ,aQ,⟨.array 256 5,(.arr (.int .u8)),256,256,qg 256 (xJ xQ 0)⟩,aex,aex,⟨.array 16 434,(.arr (.int .u8)),32,32,qg 32 (xJ xQ 0)⟩,aQ,aey,aey,⟨.array 0 16,(.arr .ptr),0,0,[]⟩,aez,aez,ti2,ti2,aQ,ti5,ti5,aeA,aeA,⟨.other,(.sc .any),1,8,[(xL et)]⟩]
noncomputable def abY:List (TypeId×List Ty):=[(0,[]),(26,[(.sc .ptr),(.agg [(.int .i64),(.int .i64),(.int .i64)])]),(49,[(.agg [(.int .i64),(.int .i64),(.int .i64)]),(.sc (.int .i64)),(.sc .slc)]),(51,[(.sc .ptr),(.sc (.int .i64))]),(65,[(.sc (.int .i64)),(.sc (.int .i64))]),(71,[(.sc .ptr),(.sc (.int .i64))]),(76,[(.sc .slc),(.sc (.int .i64))]),(80,[(.agg [(.int .i64),(.int .i64),(.int .i64),.slc]),(.sc (.int .i64))]),(113,[(.sc (.int .i64)),(.sc .slc),(.sc .bool)]),(122,[(.sc .slc),(.sc .bool)]),(130,[(.sc .slc),(.sc .bool)]),(144,[(.sc .slc),(.sc .bool)]),(177,[(.sc .ptr),(.sc (.int .i64))]),(186,[(.agg [(.int .i64),(.int .i64),(.int .i64),(.int .i64),(.int .i64),(.int .i64),.slc,.slc]),(.sc .bool)]),(190,[(.sc (.int .i64)),(.sc .bool)]),(194,[(.sc .ptr),(.sc (.int .i64))]),(211,[(.sc .slc),(.sc (.int .i64))]),(215,[(.agg [(.int .i64),(.int .i64),(.int .i64),(.int .i64),(.int .i64),(.int .i64),(.int .u32),.slc]),(.sc .bool)]),(224,[(.sc (.int .i64)),(.sc (.int .i64))]),(243,[(.sc .slc),(.sc .bool),(.sc (.int .i64))]),(284,[(.sc .slc),(.sc .slc),(.sc .slc),(.sc (.int .i64))]),(287,[(.sc .slc),(.sc .slc)]),(307,[(.sc .slc),(.sc (.int .i64))]),(345,[(.agg [.slc,.slc,.slc]),(.sc .bool)]),(355,[(.arr .bool),(.sc .bool)]),(365,[(.sc (.int .i64)),(.sc (.int .i64))]),(378,[(.agg [(.int .i64),(.int .i64),(.int .i64),.slc,.slc]),(.sc .bool)]),(381,[(.sc .slc),(.sc .bool)]),(405,[(.agg [(.int .i64),(.int .i64)]),(.sc .bool)]),(408,[(.sc (.int .i32)),(.sc (.int .i64))])]
noncomputable def C:Ctx:={P:=xT,T:=TS,tup:=abY,fns:=[false,false]++qg 363 true++qg 21 false++[true]}
theorem aiJ:(List.range C.T.length).map (kL.seen C.P)=C.T.map kL.told:=js
theorem afu:C.P.follows .mixedOrders=true:=js
theorem aiK:(C.P.funcs.toList.map λf=>!(f.name== "runtime.NumGoroutine")&&f.body.isSome)=C.fns:=js
theorem ae:C.Ok:={TS:=aiJ,mixed:=afu,fns:=aiK}
abbrev Me:=ai xT
abbrev Ca:=oy xT
abbrev Ra:=pB xT
abbrev Rr:=bx xT
abbrev Ru{α:Type}:=au (α:=α) xT
theorem tie{f:FuncId}{b:Func}(c:Tryz.prog.funcs[f]?=some b)(a:cN){args:aT}{R:Bd}{h:Heap}{Q:Prop}(d:Q) (g:xr args.length b.ntmps=true:=by kernel_rfl) (e:Xu C b 300 a args R h=Q:=by kernel_rfl):ai xT f args.toArray h R:=agr ae c a d g e
theorem CP:C.P=xT:=rfl
theorem CU:C.tup=abY:=rfl
noncomputable def tbF(t:Nat):TI:=Rk.nF Rk.UE TS t
theorem ts{f:FuncId}{b:Func}(d:Tryz.prog.funcs[f]?=some b){args:aT}{R:Bd}{h:Heap}{Q:Prop}{c:Code}{rs:List ResultVar}(g:Q)(a:cN:=.n)(S:List (Nat×Rk.Sd):=[]) (i:b.body=some c:=by exact rfl) (l:b.results=rs.toArray:=by exact rfl) (k:Rk.bg C tbF S R 100000 (.ex c a (.top rs) (Rk.UQ 0 args)) h=Q:=by dsimp only[cN.tn,cN.lp,cN.jn,Rk.ags,Rk.UC,Rk.Hl,Rk.NC,Rk.agt,Rk.fp,Rk.ID,Rk.ND,Rk.IE,Rk.UD,Rk.agu,Rk.abf,Rk.Hm,Rk.nF,Rk.NZ,Rk.Oa,Rk.sw,Rk.abg,Rk.UE,Rk.agv,Rk.UF,Rk.IF,Rk.agw,Rk.agx,Rk.agy,Rk.agz,Rk.adC,Rk.agA,Rk.adD,Rk.agB,Rk.agC,Rk.agD,Rk.agE,Rk.agF,Rk.agG,Rk.agH,Rk.Ob,Rk.agI,Rk.UG,Rk.agJ,Rk.adE,Rk.agK,Rk.agL,Rk.Tu,Rk.adF,Rk.Xv,Rk.UH,Rk.agM,Rk.adG,Rk.UI,Rk.Xw,Rk.Xx,Rk.abh,Rk.UJ,Rk.abi,Rk.UK,Rk.adH,Rk.adI,Rk.adJ,Rk.adK,Rk.Oc,Rk.Od,Rk.Xy,Rk.adL,Rk.adM,Rk.IG,Rk.UL,Rk.adN,Rk.IH,Rk.abj,Rk.Kv,Rk.Oe,Rk.Kw,Rk.II,Rk.abk,Rk.Kx,Rk.IJ,Rk.IK,Rk.abl,Rk.abm,Rk.adO,Rk.abn,Rk.UM,Rk.Of,Rk.NE,Rk.Hn,Rk.adP,Rk.Ky,Rk.oH,Rk.UN,Rk.abo,Rk.UO,Rk.UP,Rk.bg,Rk.UQ,Rk.aix,Rk.aiy,Rk.aiz,Rk.agN,Rk.agO,undef,Nat.reduceAdd,Nat.reduceBEq,Nat.reduceSub,Nat.reduceMul,tbF,CP,CU,abY,Sc.den,Sc.enc,Ty.den,Ty.enc,Rt.den,Rt.enc,AZ,nX,NB,Uv,dF.den,TS]) (j:xr args.length b.ntmps=true:=by kernel_rfl) (e:Xu C b 300 a args R h=Q:=by kernel_rfl):ai xT f args.toArray h R:=Tt ae d (Nat.le_of_ble_eq_true j) (cast e.symm g)
theorem uU(j:Pp)(b:Sl)(d:Int)(c:Bool)(W:Ra (vD 25 j) h λU O=>Am (σ:=Sl) (λw r=>R w r) (λK1=>gX (σ:=Sl×Int) (λa N t=>Am (σ:=Unit) (λ_ h3=>Am (σ:=Sl) (λu o=>∃l:Pp,bj o U 0 l/\uT b a.2 λf=>tH o (f.add (a.2.toNat*1)) λe=>((5:Int)≠0)/\uT b (qe xP (a.2+1)) λH=>tH o (H.add ((qe xP (a.2+1)).toNat*1)) λz=>uT b (qe xP (a.2+2)) λs=>tH o (s.add ((qe xP (a.2+2)).toNat*1)) λA=>Ca 18 #[l,(qe xP (vm e 5)),z,A] (.one (.agg [(.int .i64),.str,.slc,(.int .i64),(.int .i64),(.int .i64),(.int .u32),.slc,.slc])) o λI k=>(bR.ok [(f.add (a.2.toNat*1),e)] k)/\Rr (zO 32 1 #[(0,I)]) Pq k λG i=>(bR.ok [(f.add (a.2.toNat*1),e)] i)/\Rr (zA #[32,32] 32 #[u,G]) Pq i λv m=>(bR.ok [(f.add (a.2.toNat*1),e)] m)/\N (v,qe xP (a.2+3)) m) (λQ=>Am (σ:=Bool) (λV g=>Br V (uT b a.2 λq=>tH g (q.add (a.2.toNat*1)) λp=>((5:Int)≠0)/\uT b (qe xP (a.2+1)) λE=>tH g (E.add ((qe xP (a.2+1)).toNat*1)) λy=>uT b (qe xP (a.2+2)) λF=>tH g (F.add ((qe xP (a.2+2)).toNat*1)) λD=>Ca 17 #[(qe xP (vm p 5)),y,D] (.one (.agg [(.int .i64),.str,.slc,(.int .i64),(.int .i64),(.int .i64),(.int .u32),.slc,.slc])) g λB L=>(bR.ok [(q.add (a.2.toNat*1),p)] L)/\Rr (zO 32 1 #[(0,B)]) Pq L λJ M=>(bR.ok [(q.add (a.2.toNat*1),p)] M)/\Rr (zA #[32,32] 32 #[a.1,J]) Pq M λx h8=>(bR.ok [(q.add (a.2.toNat*1),p)] h8)/\N (x,qe xP (a.2+3)) h8) (Q a.1 g)) (λK=>Br c (uT b a.2 λa4=>tH h3 (a4.add (a.2.toNat*1)) λP=>Ca 7 #[P,(xJ xP 5)] lB h3 λS T=>K (S==4) T) (K false h3)))) (λX=>Br ((qe xP (a.2+2))<(b.len:Int)) (Br ((a.1.len:Int)<d) (X () t) (K1 a.1 t)) (K1 a.1 t))) ((⟨et,0,0⟩:Sl),(0:Int)) O)):Me 8 #[j,b,d,c] h R:=tie func8 (cN.tn (cN.tn (.two (.join [(9,cM)] [(9,72)] (cN.tn (.inn (.loop [(9,cM),(10,aU)] [(9,72)] (.two (.join [] [(11,22)] .n) (.two (.inn (.two (.join [(9,cM)] [(9,10),(24,52)] (.two (.join [(32,ka)] [(24,33)] .n) .n)) .n)) .n)))))) .n))) W
theorem ud(b:Sl)(K:Ra (yQ 25 true (.tuple #[])) h λv w=>Ca 10 #[b,(xJ xP 0)] lB w λI y=>Ca 10 #[b,(xJ xP 1)] lB y λB h3=>Ca 10 #[b,(xJ xP 2)] lB h3 λH z=>Ca 28 #[I,B,H] ajl z λG x=>Ra (yQ 25 true (.tuple #[])) x λd D=>Ru (qH 25 d G) D λ_ F=>gX (σ:=Sl×Int) (λj K1 h8=>Ca 10 #[b,(xJ xP 4)] lB h8 λA J=>Ca 7 #[A,(xJ xP 4)] lB J λE f=>Br (j.2<(qe xP (2+E))) (Ca 10 #[b,(qe xP (5+j.2))] lB f λo l=>Ca 7 #[o,(xJ xP 50)] lB l λs t=>Rr (zO 22 1 #[(0,(qe xP (8+s)))]) Pq t λm k=>Rr (zA #[22,22] 22 #[j.1,m]) Pq k λp r=>K1 (p,qe xP (j.2+1)) r) (∃a:Pp,bj f d 0 a/\Ca 10 #[b,(xJ xP 3)] lB f λq i=>(bR.ok [(d,a.1),(d.add 1,a.2.1),(d.add 2,a.2.2)] i)/\Ca 7 #[q,(xJ xP 7)] lB i λu g=>(bR.ok [(d,a.1),(d.add 1,a.2.1),(d.add 2,a.2.2)] g)/\Ru (qH 25 v a) g λ_ e=>(bR.ok [] e)/\∃c:Pp,bj e v 0 c/\R (.tuple #[c,u,j.1]) e)) ((⟨et,0,0⟩:Sl),(0:Int)) F):Me 14 #[b] h R:=tie func14 (cN.tn (cN.tn (cN.tn (cN.tn (.two (cN.tn (.inn (.loop [(7,cM),(8,aU)] [(7,9),(16,35)] .n))) .n))))) K
theorem Ai(z:Pp)(A:Int)(a:Int)(c:Int)(hm:Ra (vD 25 z) h λs h1=>Ra (yQ 37 true (.tuple #[])) h1 λb h2=>Ca 7 #[A,(xJ xP 26)] lB h2 λg h3=>Br (g<8) (((5:Int)≠0)/\tH h3 s λH=>tH h3 (s.add 2) λG=>Ca 31 #[a] (.one tyT) h3 λr6 h4=>(bR.ok [(s.add 2,G),(s,H)] h4)/\Ca 7 #[(qe xP (vm a 5)),(qe xP ((qe xP ((qe xP (3*H))*G))+2))] lB h4 λr7 h5=>(bR.ok [(s.add 2,G),(s,H)] h5)/\Ca 32 #[r7,c] Pq h5 λr8 h6=>(bR.ok [(s.add 2,G),(s,H)] h6)/\Ru (qH 37 b (xO #[(xJ xP 1),r6,r8,(xJ xP 0),(xJ xP 0),(xJ xP 0),(xJ xR 0),(xK et 0 0),(xK et 0 0)])) h6 λ_ V=>(bR.ok [] V)/\∃r:Int×ByteArray×Sl×Int×Int×Int×Int×Sl×Sl,bj V b 0 r/\R r V) (Br (g<11) (Ca 31 #[a] (.one tyT) h3 λU h8=>Ru (qH 37 b (xO #[(xJ xP 2),U,(xK et 0 0),(xJ xP 0),(xJ xP 0),(xJ xP 0),(xJ xR 0),(xK et 0 0),(xK et 0 0)])) h8 λ_ h9=>∃o:Int×ByteArray×Sl×Int×Int×Int×Int×Sl×Sl,bj h9 b 0 o/\R o h9) (Br (g<13) (Ca 31 #[a] (.one tyT) h3 λao Z=>Ru (qH 37 b (xO #[(xJ xP 3),ao,(xK et 0 0),(xJ xP 0),(xJ xP 0),(xJ xP 0),(xJ xR 0),(xK et 0 0),(xK et 0 0)])) Z λ_ v=>∃j:Int×ByteArray×Sl×Int×Int×Int×Int×Sl×Sl,bj v b 0 j/\R j v) (Br (g==13) (Ru (qH 37 b (xO #[(xJ xP 4),nl,(xK et 0 0),(xJ xP 0),(xJ xP 0),(xJ xP 0),(xJ xR 0),(xK et 0 0),(xK et 0 0)])) h3 λ_ D=>∃i:Int×ByteArray×Sl×Int×Int×Int×Int×Sl×Sl,bj D b 0 i/\R i D) (Br (g==14) (Ca 31 #[a] (.one tyT) h3 λah K=>Ru (qH 37 b (xO #[(xJ xP 5),ah,(xK et 0 0),(xJ xP 0),(xJ xP 0),(xJ xP 0),(xJ xR 0),(xK et 0 0),(xK et 0 0)])) K λ_ B=>∃f:Int×ByteArray×Sl×Int×Int×Int×Int×Sl×Sl,bj B b 0 f/\R f B) (Br (g==15) (Ca 7 #[a,(xJ xP 9)] lB h3 λJ Q=>Ca 7 #[c,(xJ xP 60)] lB Q λT L=>Ru (qH 37 b (xO #[(xJ xP 6),nl,(xK et 0 0),J,(qe xP (6+T)),(xJ xP 0),(xJ xR 0),(xK et 0 0),(xK et 0 0)])) L λ_ x=>∃e:Int×ByteArray×Sl×Int×Int×Int×Int×Sl×Sl,bj x b 0 e/\R e x) (Br (g==16) (Ca 7 #[a,(xJ xP 8)] lB h3 λad ay=>Ru (qH 37 b (xO #[(xJ xP 7),nl,(xK et 0 0),ad,(xJ xP 0),(xJ xP 0),(xJ xR 0),(xK et 0 0),(xK et 0 0)])) ay λ_ E=>∃d:Int×ByteArray×Sl×Int×Int×Int×Int×Sl×Sl,bj E b 0 d/\R d E) (Br (g==17) (Ca 7 #[a,(xJ xP 8)] lB h3 λP S=>Ca 7 #[c,(xJ xP 60)] lB S λY N=>Ru (qH 37 b (xO #[(xJ xP 8),nl,(xK et 0 0),P,(qe xP (6+Y)),(xJ xP 0),(xJ xR 0),(xK et 0 0),(xK et 0 0)])) N λ_ y=>∃l:Int×ByteArray×Sl×Int×Int×Int×Int×Sl×Sl,bj y b 0 l/\R l y) (Br (g==18) (Ca 7 #[a,(xJ xP 8)] lB h3 λa3 ab=>Ru (qH 37 b (xO #[(xJ xP 9),nl,(xK et 0 0),a3,(xJ xP 0),(xJ xP 0),(xJ xR 0),(xK et 0 0),(xK et 0 0)])) ab λ_ w=>∃k:Int×ByteArray×Sl×Int×Int×Int×Int×Sl×Sl,bj w b 0 k/\R k w) (Br (g<22) (Ca 7 #[a,(xJ xP 3)] lB h3 λa0 ar=>Ca 7 #[c,(xJ xP 20)] lB ar λI O=>Ru (qH 37 b (xO #[(xJ xP 10),nl,(xK et 0 0),(xJ xP 0),a0,I,(xJ xR 0),(xK et 0 0),(xK et 0 0)])) O λ_ t=>∃q:Int×ByteArray×Sl×Int×Int×Int×Int×Sl×Sl,bj t b 0 q/\R q t) (Br (g==22) (Ca 7 #[a,(xJ xP 9)] lB h3 λa4 W=>Ca 7 #[c,(xJ xP 70)] lB W λa5 al=>Ru (qH 37 b (xO #[(xJ xP 10),nl,(xK et 0 0),(xJ xP 0),(qe xP (a4-1)),(qe xP (a5-1)),(xJ xR 0),(xK et 0 0),(xK et 0 0)])) al λ_ F=>∃m:Int×ByteArray×Sl×Int×Int×Int×Int×Sl×Sl,bj F b 0 m/\R m F) (Ca 7 #[a,(xJ xP 7)] lB h3 λa6 ap=>((7:Int)≠0)/\Ca 7 #[(qe xP (vm a 7)),(xJ xP 40)] lB ap λax X=>Ca 7 #[c,(xJ xP 61)] lB X λM am=>Ru (qH 37 b (xO #[(xJ xP 11),nl,(xK et 0 0),a6,ax,M,(xJ xR (qe xR ((qe xR ((qe xR c)*2654435761))+(qe xR a)))),(xK et 0 0),(xK et 0 0)])) am λ_ u=>∃p:Int×ByteArray×Sl×Int×Int×Int×Int×Sl×Sl,bj u b 0 p/\R p u)))))))))))):Me 18 #[z,A,a,c] h R:=tie func18 .n hm
theorem uV(d:Int)(c:Int)(b:Int)(k:Ra (yQ 25 true (.tuple #[])) h λe g=>Ca 7 #[d,(xJ xP 6)] lB g λl o=>Ca 7 #[c,(xJ xP 3)] lB o λm h3=>Ca 7 #[b,(xJ xP 9)] lB h3 λj i=>Ru (qH 25 e (xO #[(qe xP (1+l)),(qe xP (1+m)),(qe xP (1+j))])) i λ_ f=>∃a:Pp,bj f e 0 a/\R a f):Me 28 #[d,c,b] h R:=tie func28 .n k
theorem rp(a:bD)(d:Br (Option.isNone a) (R true h) (Ca 37 #[a] Jf h λc b=>R c b)):Me 84 #[a] h R:=tie func84 .n d
theorem np(a:Sl)(b:Int)(e:gX (σ:=Int) (λc K1 d=>Br (c<(a.len:Int)) (uT a c λf=>tH d (f.add (c.toNat*1)) λx3=>Br (b==x3) (R c d) (K1 (qe xP (c+1)) d)) (R (xJ xP (-1:Int)) d)) (0:Int) h):Me 96 #[a,b] h R:=tie func96 (cN.tn (.two (cN.tn (.inn (.loop [(8,aU)] [(4,6),(8,19)] .n))) .n)) e
theorem iY(b:Sl)(a:Kz)(g:gX (σ:=Int) (λc K1 d=>Br (c<(b.len:Int)) (uT b c λi=>tH d (i.add (c.toNat*1)) λx3=>uB C a.1 (a.2.1.toList++[(xJ xP x3)]++a.2.2.toList) Jf d λf e=>Br f (R c e) (K1 (qe xP (c+1)) e)) (R (xJ xP (-1:Int)) d)) (0:Int) h):Me 102 #[b,(.func (.func a.1) a.2.1 a.2.2)] h R:=tie func102 (cN.tn (.two (cN.tn (.inn (.loop [(8,aU)] [(4,6),(8,19)] .n))) .n)) g
theorem BP(a:Pp)(d:Ra (vD 25 a) h λc b=>tH b c λx2=>tH b (c.add 2) λx3=>R (qe xP (x2*x3)) b):Me 131 #[a] h R:=tie func131 .n d
theorem iH(b:Sl)(a:Kz)(g:gX (σ:=Int) (λc K1 d=>Br (c<(b.len:Int)) (uT b c λi=>∃x3:Tu2,bj d (i.add (c.toNat*4)) 0 x3/\uB C a.1 (a.2.1.toList++[(xO #[x3.1,x3.2.1,x3.2.2.1,x3.2.2.2])]++a.2.2.toList) Jf d λf e=>Br f (R c e) (K1 (qe xP (c+1)) e)) (R (xJ xP (-1:Int)) d)) (0:Int) h):Me 142 #[b,(.func (.func a.1) a.2.1 a.2.2)] h R:=tie func142 (cN.tn (.two (cN.tn (.inn (.loop [(8,aU)] [(4,6),(8,19)] .n))) .n)) g
theorem KT(b:Tu2)(a:Addr)(d:Ra (vD 111 b) h λe c=>tH c (e.add 1) λx2=>tH c (a.add 1) λx3=>R (xN (x2==x3)) c):Me 176 #[b,a] h R:=tie func176 .n d
theorem BQ(a:Sl)(d:gX (σ:=Int) (λc K1 b=>Br (c<(a.len:Int)) (uT a c λe=>tH b (e.add (c.toNat*1)) λx3=>Br (x3 !=0) (R x3 b) (K1 (qe xP (c+1)) b)) (R (xJ xP 0) b)) (0:Int) h):Me 202 #[a] h R:=tie func202 (cN.tn (cN.tn (.two (cN.tn (.inn (.loop [(8,aU)] [(2,3),(5,6),(8,17)] .n))) .n))) d
theorem HM(b:Sl)(a:Addr)(e:LdS h a λd=>Ca 121 #[b,d] Jf h λf c=>R f c):Me 210 #[b,a] h R:=tie func210 .n e
theorem lP(b:Sl)(a:Kz)(g:gX (σ:=Int) (λc K1 d=>Br (c<(b.len:Int)) (uT b c λi=>∃x3:Int×Sl,bj d (i.add (c.toNat*2)) 0 x3/\uB C a.1 (a.2.1.toList++[(xO #[x3.1,x3.2])]++a.2.2.toList) Jf d λf e=>Br f (R c e) (K1 (qe xP (c+1)) e)) (R (xJ xP (-1:Int)) d)) (0:Int) h):Me 211 #[b,(.func (.func a.1) a.2.1 a.2.2)] h R:=tie func211 (cN.tn (.two (cN.tn (.inn (.loop [(8,aU)] [(4,6),(8,19)] .n))) .n)) g
end Go.Qw
