/- Lemmas for the proof of the law; no condition. -/
import Derived.Test.YtodpiocopjpjpaaGreatDoorPlA
import Derived.Test.YtodpiocopjpjpaaGreatDoorProg
set_option linter.unusedVariables false
open Go.Proofs.Tryz renaming prog -> kg
open Go.Value renaming agg -> xZ, bool -> xY, int -> xU, pointer -> xW, slice -> xV, string -> xX
open Go.IntKind renaming i64 -> ka, u32 -> ke, u64 -> kf, u8 -> kb, wrap -> qd
open List renaming replicate -> qf, toArray -> yg
open Nat renaming ble -> xB
open Go.Instr renaming alloc -> yR, box -> vU, buildSlice -> zE, storeAt -> qF
open Int renaming tdiv -> yp
open Go.Builtin renaming append_ -> zo
open Go.Proofs.Tryz
set_option maxRecDepth 1000000
open Option renaming none -> eH
open Go renaming Value -> fz
namespace Go.Qw
open Go.Proofs
instance:Coe Int fz:=⟨λx=>xU ka x⟩
instance:Coe Sl fz:=⟨λs=>xV s.ptr s.len s.cap⟩
instance:Coe ByteArray fz:=⟨.string⟩
instance:Coe (Option Addr) fz:=⟨.pointer⟩
instance:Coe Addr fz:=⟨λa=>xW (some a)⟩
instance:Coe Bool fz:=⟨.bool⟩
instance:Coe (Int×Int×Int) (List fz):=⟨λx=>[x.1,x.2.1,x.2.2]⟩
instance:Coe (Int×Int×Int) fz:=⟨λx=>xZ (yg x)⟩
instance:Coe (Int×ByteArray×Sl×Int×Int×Int×Int×Sl×Sl) (List fz):=⟨λx=>[x.1,x.2.1,x.2.2.1,x.2.2.2.1,x.2.2.2.2.1,x.2.2.2.2.2.1,(xU ke x.2.2.2.2.2.2.1),x.2.2.2.2.2.2.2.1,x.2.2.2.2.2.2.2.2]⟩
instance:Coe (Int×ByteArray×Sl×Int×Int×Int×Int×Sl×Sl) fz:=⟨λx=>xZ (yg x)⟩
instance:Coe (Int×Sl×Sl×Int×Int×Int×Sl×Int) (List fz):=⟨λx=>[x.1,x.2.1,x.2.2.1,x.2.2.2.1,x.2.2.2.2.1,x.2.2.2.2.2.1,x.2.2.2.2.2.2.1,x.2.2.2.2.2.2.2]⟩
instance:Coe (Int×Sl×Sl×Int×Int×Int×Sl×Int) fz:=⟨λx=>xZ (yg x)⟩
instance:Coe (ByteArray×Int×Int×Sl) (List fz):=⟨λx=>[x.1,x.2.1,x.2.2.1,x.2.2.2]⟩
instance:Coe (ByteArray×Int×Int×Sl) fz:=⟨λx=>xZ (yg x)⟩
instance:Coe (Int×Int×Int×Int×Int×Int×Sl×Sl) (List fz):=⟨λx=>[x.1,x.2.1,x.2.2.1,x.2.2.2.1,x.2.2.2.2.1,x.2.2.2.2.2.1,x.2.2.2.2.2.2.1,x.2.2.2.2.2.2.2]⟩
instance:Coe (Int×Int×Int×Int×Int×Int×Sl×Sl) fz:=⟨λx=>xZ (yg x)⟩
instance:Coe (Int×Int×Int×Sl) (List fz):=⟨λx=>[x.1,x.2.1,x.2.2.1,x.2.2.2]⟩
instance:Coe (Int×Int×Int×Sl) fz:=⟨λx=>xZ (yg x)⟩
instance:Coe (Int×Sl) (List fz):=⟨λx=>[x.1,x.2]⟩
instance:Coe (Int×Sl) fz:=⟨λx=>xZ (yg x)⟩
instance:Coe (Int×Int×Int×Int×Int×Int×Int×Sl) (List fz):=⟨λx=>[x.1,x.2.1,x.2.2.1,x.2.2.2.1,x.2.2.2.2.1,x.2.2.2.2.2.1,(xU ke x.2.2.2.2.2.2.1),x.2.2.2.2.2.2.2]⟩
instance:Coe (Int×Int×Int×Int×Int×Int×Int×Sl) fz:=⟨λx=>xZ (yg x)⟩
instance:Coe (Sl×Sl) (List fz):=⟨λx=>[x.1,x.2]⟩
instance:Coe (Sl×Sl) fz:=⟨λx=>xZ (yg x)⟩
instance:Coe (Sl×Sl×Sl) (List fz):=⟨λx=>[x.1,x.2.1,x.2.2]⟩
instance:Coe (Sl×Sl×Sl) fz:=⟨λx=>xZ (yg x)⟩
instance:Coe (Int×Int) (List fz):=⟨λx=>[x.1,x.2]⟩
instance:Coe (Int×Int) fz:=⟨λx=>xZ (yg x)⟩
instance:Coe (Int×Int×Int×Sl×Sl) (List fz):=⟨λx=>[x.1,x.2.1,x.2.2.1,x.2.2.2.1,x.2.2.2.2]⟩
instance:Coe (Int×Int×Int×Sl×Sl) fz:=⟨λx=>xZ (yg x)⟩
abbrev ul(h:Heap)(a:Addr)(k:Int->Prop):Prop:=∃x,cellOf h a=some (xU ka x)/\k x
abbrev LdK(i:IntKind)(h:Heap)(a:Addr)(k:Int->Prop):Prop:=∃x:Int,cellOf h a=some (.int i x)/\k x
abbrev LdS(h:Heap)(a:Addr)(k:Sl->Prop):Prop:=∃x:Sl,cellOf h a=some (x:fz)/\k x
abbrev Ae(s:Sl)(i:Int)(k:Addr->Prop):Prop:=∃a,(s.ptr=some a/\0<=i/\i<((s.len:Nat):Int))/\k a
abbrev PA:=Int×Int×Int
abbrev Tu2:=ByteArray×Int×Int×Sl
abbrev ajy:Rt:=.one (.agg [(.int .i64),(.int .i64),(.int .i64)])
abbrev Mt:Rt:=.one (.sc .slc)
abbrev lF:Rt:=.one (.sc (.int .i64))
abbrev Mu:Rt:=.one (.sc .bool)
abbrev cE:Ty:=.sc .slc
abbrev aR:Ty:=.sc (.int .i64)
abbrev Mw:Ty:=.sc .ptr
abbrev lj:Ty:=.sc .bool
abbrev tyT:Ty:=.sc .str
variable {R:tJ} {h:Heap}
def ajQ:ByteArray:=⟨#[0]⟩
def ajK:ByteArray:=⟨#[98]⟩
def aiU:ByteArray:=⟨#[99,97,116,45,55]⟩
def ajL:ByteArray:=⟨#[100]⟩
def YG:ByteArray:=⟨#[101,49,50,51,52,53,54,55,56,57,48,49]⟩
def ajM:ByteArray:=⟨#[97]⟩
def YH:ByteArray:=⟨#[97,98,99]⟩
def ri:ByteArray:=⟨#[]⟩
abbrev aQ:TI:=⟨.fn,(.sc .fn),1,8,[.nilFunc]⟩
abbrev ti1:TI:=⟨.int .i64,(.sc (.int .i64)),1,8,[(xU ka 0)]⟩
abbrev ti2:TI:=⟨.int .u8,(.sc (.int .u8)),1,1,[(xU kb 0)]⟩
abbrev ti3:TI:=⟨.str,(.sc .str),1,16,[(.string ⟨#[]⟩)]⟩
abbrev ti4:TI:=⟨.int .u64,(.sc (.int .u64)),1,8,[(xU kf 0)]⟩
abbrev ti5:TI:=⟨.int .i32,(.sc (.int .i32)),1,4,[(.int .i32 0)]⟩
abbrev ti6:TI:=⟨.struct [(0,3),(1,3),(2,3)],(.agg [(.int .i64),(.int .i64),(.int .i64)]),3,24,[(xU ka 0),(xU ka 0),(xU ka 0)]⟩
abbrev ti7:TI:=⟨.mp,(.sc .mp),1,8,[(.map eH)]⟩
abbrev ti8:TI:=⟨.other,(.sc .any),1,0,[(.tuple #[(xV eH 0 0),(.bool .false)])]⟩
abbrev ti9:TI:=⟨.other,(.sc .any),1,0,[(.tuple #[(xW eH),(xU ka 0)])]⟩
abbrev acg:TI:=⟨.other,(.sc .any),1,0,[(.tuple #[(xU ka 0),(xU ka 0)])]⟩
abbrev ach:TI:=⟨.other,(.sc .any),1,0,[(.tuple #[(xV eH 0 0),(xU ka 0)])]⟩
abbrev VP:TI:=⟨.struct [(0,3),(1,34)],(.agg [(.int .i64),.slc]),2,32,[(xU ka 0),(xV eH 0 0)]⟩
abbrev VQ:TI:=⟨.struct [(0,241)],(.agg [(.int .u64)]),1,8,[(xU kf 0)]⟩
abbrev ahz:TI:=⟨.struct [(0,2),(1,3),(2,4),(3,6)],(.agg [(.int .i64),(.int .i64),.bool,(.int .u8)]),4,24,[(xU ka 0),(xU ka 0),(.bool .false),(xU kb 0)]⟩
abbrev ahA:TI:=⟨.struct [(0,9),(1,12)],(.agg [.str,(.int .u64)]),2,24,[(xX ⟨#[]⟩),(xU kf 0)]⟩
abbrev ahB:TI:=⟨.struct [(0,17)],(.agg [.ptr]),1,8,[(xW eH)]⟩
abbrev ahC:TI:=⟨.struct [(0,3),(1,9),(2,34),(3,3),(4,3),(5,3),(6,35),(7,22),(8,22)],(.agg [(.int .i64),.str,.slc,(.int .i64),(.int .i64),(.int .i64),(.int .u32),.slc,.slc]),9,128,[(xU ka 0),(xX ⟨#[]⟩),(xV eH 0 0),(xU ka 0),(xU ka 0),(xU ka 0),(xU ke 0),(xV eH 0 0),(xV eH 0 0)]⟩
abbrev ahD:TI:=⟨.struct [(0,3),(1,3),(2,3),(3,22)],(.agg [(.int .i64),(.int .i64),(.int .i64),.slc]),4,48,[(xU ka 0),(xU ka 0),(xU ka 0),(xV eH 0 0)]⟩
abbrev ahE:TI:=⟨.struct [(0,39),(1,34),(2,40),(3,42),(7,3)],(.agg [(.int .i64),.slc,.slc,(.int .i64),(.int .i64),(.int .i64),.slc,(.int .i64)]),8,112,[(xU ka 0),(xV eH 0 0),(xV eH 0 0),(xU ka 0),(xU ka 0),(xU ka 0),(xV eH 0 0),(xU ka 0)]⟩
abbrev ahF:TI:=⟨.struct [(0,3),(1,3),(2,25),(5,3),(6,22),(7,46)],(.agg [(.int .i64),(.int .i64),(.int .i64),(.int .i64),(.int .i64),(.int .i64),.slc,.slc]),8,96,[(xU ka 0),(xU ka 0),(xU ka 0),(xU ka 0),(xU ka 0),(xU ka 0),(xV eH 0 0),(xV eH 0 0)]⟩
abbrev ahG:TI:=⟨.struct [(0,9),(1,3),(2,3),(3,22)],(.agg [.str,(.int .i64),(.int .i64),.slc]),4,56,[(xX ⟨#[]⟩),(xU ka 0),(xU ka 0),(xV eH 0 0)]⟩
abbrev ahH:TI:=⟨.struct [(0,60),(1,29),(2,62)],(.arr .any),66,528,qf 66 (xW eH)⟩
abbrev ahI:TI:=⟨.struct [(0,48),(8,60),(9,3),(10,62)],(.arr .any),74,624,[(xU ka 0),(xU ka 0),(xU ka 0),(xU ka 0),(xU ka 0),(xU ka 0),(xV eH 0 0),(xV eH 0 0),(xW eH),(xU ka 0)]++qf 64 (xW eH)⟩
abbrev aep:TI:=⟨.struct [(0,29),(1,48),(9,48),(17,22),(18,3),(19,106),(83,107)],(.arr .any),84,768,[(xW eH),(xU ka 0),(xU ka 0),(xU ka 0),(xU ka 0),(xU ka 0),(xU ka 0),(xV eH 0 0),(xV eH 0 0),(xU ka 0),(xU ka 0),(xU ka 0),(xU ka 0),(xU ka 0),(xU ka 0),(xV eH 0 0),(xV eH 0 0),(xV eH 0 0)]++qf 65 (xU ka 0)++[(xV eH 0 0)]⟩
abbrev aeq:TI:=⟨.struct [(0,29),(1,48),(9,22),(10,3),(11,3),(12,3)],(.agg [.ptr,(.int .i64),(.int .i64),(.int .i64),(.int .i64),(.int .i64),(.int .i64),.slc,.slc,.slc,(.int .i64),(.int .i64),(.int .i64)]),13,152,[(xW eH),(xU ka 0),(xU ka 0),(xU ka 0),(xU ka 0),(xU ka 0),(xU ka 0),(xV eH 0 0),(xV eH 0 0),(xV eH 0 0),(xU ka 0),(xU ka 0),(xU ka 0)]⟩
abbrev aer:TI:=⟨.struct [(0,4),(1,4),(2,3),(3,3)],(.agg [.bool,.bool,(.int .i64),(.int .i64)]),4,24,[(.bool .false),(.bool .false),(xU ka 0),(xU ka 0)]⟩
abbrev aes:TI:=⟨.struct [(0,3),(1,3),(2,3),(3,25),(6,35),(7,34)],(.agg [(.int .i64),(.int .i64),(.int .i64),(.int .i64),(.int .i64),(.int .i64),(.int .u32),.slc]),8,80,[(xU ka 0),(xU ka 0),(xU ka 0),(xU ka 0),(xU ka 0),(xU ka 0),(xU ke 0),(xV eH 0 0)]⟩
abbrev aet:TI:=⟨.struct [(0,60),(1,3),(2,111),(3,3),(4,111),(5,4),(6,4)],(.agg [.ptr,(.int .i64),.slc,(.int .i64),.slc,.bool,.bool]),7,80,[(xW eH),(xU ka 0),(xV eH 0 0),(xU ka 0),(xV eH 0 0),(.bool .false),(.bool .false)]⟩
abbrev aeu:TI:=⟨.struct [(0,3),(1,3),(2,35),(3,190),(4,79),(5,22)],(.agg [(.int .i64),(.int .i64),(.int .u32),.ptr,.slc,.slc]),6,80,[(xU ka 0),(xU ka 0),(xU ke 0),(xW eH),(xV eH 0 0),(xV eH 0 0)]⟩
abbrev aev:TI:=⟨.struct [(0,25),(3,35),(4,111)],(.agg [(.int .i64),(.int .i64),(.int .i64),(.int .u32),.slc]),5,56,[(xU ka 0),(xU ka 0),(xU ka 0),(xU ke 0),(xV eH 0 0)]⟩
abbrev aew:TI:=⟨.struct [(0,3),(1,267)],(.agg [(.int .i64),(.flt .f64)]),2,16,[(xU ka 0),(.float Go.FloatKind.f64 0)]⟩
abbrev aex:TI:=⟨.struct [(0,22),(1,34)],(.agg [.slc,.slc]),2,48,[(xV eH 0 0),(xV eH 0 0)]⟩
abbrev aey:TI:=⟨.struct [(0,281),(1,22),(2,22)],(.agg [.slc,.slc,.slc]),3,72,[(xV eH 0 0),(xV eH 0 0),(xV eH 0 0)]⟩
abbrev aez:TI:=⟨.struct [(0,258),(1,25),(4,111),(5,277),(6,283),(9,111),(10,111)],(.agg [.ptr,(.int .i64),(.int .i64),(.int .i64),.slc,.slc,.slc,.slc,.slc,.slc,.slc]),11,200,[(xW eH),(xU ka 0),(xU ka 0),(xU ka 0),(xV eH 0 0),(xV eH 0 0),(xV eH 0 0),(xV eH 0 0),(xV eH 0 0),(xV eH 0 0),(xV eH 0 0)]⟩
abbrev aeA:TI:=⟨.struct [(0,325),(255,327)],(.arr .any),511,2304,qf 255 (xU kb 0)++qf 256 (xU ka 0)⟩
abbrev aeB:TI:=⟨.struct [(0,263),(1,263),(2,3),(3,3),(4,4)],(.agg [(.cpx .f64),(.cpx .f64),(.int .i64),(.int .i64),.bool]),5,56,[(.complex Go.FloatKind.f64 0 0),(.complex Go.FloatKind.f64 0 0),(xU ka 0),(xU ka 0),(.bool .false)]⟩
abbrev aeC:TI:=⟨.struct [(0,277),(1,286),(2,111)],(.agg [.slc,.slc,.slc]),3,72,[(xV eH 0 0),(xV eH 0 0),(xV eH 0 0)]⟩
abbrev aeD:TI:=⟨.struct [(0,3),(1,3)],(.agg [(.int .i64),(.int .i64)]),2,16,[(xU ka 0),(xU ka 0)]⟩
abbrev aeE:TI:=⟨.array 256 4,(.arr .bool),256,256,qf 256 (.bool .false)⟩
abbrev aeF:TI:=⟨.struct [(0,258),(1,3),(2,111)],(.agg [.ptr,(.int .i64),.slc]),3,40,[(xW eH),(xU ka 0),(xV eH 0 0)]⟩
abbrev aeG:TI:=⟨.struct [(0,3),(1,3),(2,3),(3,34),(4,34)],(.agg [(.int .i64),(.int .i64),(.int .i64),.slc,.slc]),5,72,[(xU ka 0),(xU ka 0),(xU ka 0),(xV eH 0 0),(xV eH 0 0)]⟩
abbrev aeH:TI:=⟨.struct [(0,79),(1,286),(2,286)],(.agg [.slc,.slc,.slc]),3,72,[(xV eH 0 0),(xV eH 0 0),(xV eH 0 0)]⟩
abbrev aeI:TI:=⟨.struct [(0,34),(1,4)],(.agg [.slc,.bool]),2,32,[(xV eH 0 0),(.bool .false)]⟩
abbrev aeJ:TI:=⟨.struct [(0,5),(1,5)],(.agg [(.int .u8),(.int .u8)]),2,2,[(xU kb 0),(xU kb 0)]⟩
abbrev aeK:TI:=⟨.struct [(0,17),(1,17),(2,17),(3,9)],(.agg [.ptr,.ptr,.ptr,.str]),4,40,[(xW eH),(xW eH),(xW eH),(xX ⟨#[]⟩)]⟩
abbrev aeL:TI:=⟨.struct [(0,446)],(.agg []),0,0,[]⟩
abbrev aeM:TI:=⟨.struct [(0,12),(1,12),(2,35),(3,449),(4,5),(5,5),(6,450),(7,451),(8,300),(9,452),(10,453)],(.agg [(.int .u64),(.int .u64),(.int .u32),(.int .u8),(.int .u8),(.int .u8),(.int .u8),.fn,.ptr,(.int .i32),(.int .i32)]),11,48,[(xU kf 0),(xU kf 0),(xU ke 0),(xU kb 0),(xU kb 0),(xU kb 0),(xU kb 0),.nilFunc,(xW eH),(.int .i32 0),(.int .i32 0)]⟩
noncomputable def Ue:kT:=[⟨.other,(.sc .any),1,0,[(.tuple #[])]⟩,aQ,ti1,ti1,⟨.bool,(.sc .bool),1,1,[(.bool .false)]⟩,ti2,ti2,ahz,ahz,ti3,ti3,ti3,ti4,ahA,ahA,⟨.ptr 445,(.sc .ptr),1,8,[(xW eH)]⟩,⟨.ptr 448,(.sc .ptr),1,8,[(xW eH)]⟩,⟨.ptr 455,(.sc .ptr),1,8,[(xW eH)]⟩,ahB,ahB,⟨.other,(.sc .any),1,16,[.nilIface]⟩,ti5,⟨.slice 3,(.sc .slc),1,24,[(xV eH 0 0)]⟩,⟨.ptr 64,(.sc .ptr),1,8,[(xW eH)]⟩,ti6,ti6,⟨.other,(.sc .any),1,0,[(.tuple #[(xW eH),(.agg #[(xU ka 0),(xU ka 0),(xU ka 0)])])]⟩,aQ,aQ,⟨.ptr 75,(.sc .ptr),1,8,[(xW eH)]⟩,aQ,ti7,⟨.slice 37,(.sc .slc),1,24,[(xV eH 0 0)]⟩,aQ,⟨.slice 5,(.sc .slc),1,24,[(xV eH 0 0)]⟩,⟨.int .u32,(.sc (.int .u32)),1,4,[(xU ke 0)]⟩,ahC,ahC,ti8,ti1,⟨.slice 9,(.sc .slc),1,24,[(xV eH 0 0)]⟩,ahD,ahD,ahE,ahE,aQ,⟨.slice 51,(.sc .slc),1,24,[(xV eH 0 0)]⟩,ahF,ahF,aQ,ahG,ahG,aQ,aQ,aQ,aQ,⟨.other,(.sc .any),1,0,[(.tuple #[(.agg #[(xU ka 0),(xU ka 0),(xU ka 0)]),(xU ka 0),(xV eH 0 0)])]⟩,aQ,ti9,aQ,⟨.ptr 126,(.sc .ptr),1,8,[(xW eH)]⟩,⟨.ptr 168,(.sc .ptr),1,8,[(xW eH)]⟩,⟨.array 64 61,(.arr .ptr),64,512,qf 64 (xW eH)⟩,ahH,ahH,aQ,aQ,aQ,aQ,acg,aQ,aQ,aQ,aQ,ahI,ahI,aQ,aQ,aQ,⟨.slice 22,(.sc .slc),1,24,[(xV eH 0 0)]⟩,aQ,aQ,aQ,aQ,aQ,aQ,ti9,aQ,aQ,aQ,aQ,ach,aQ,aQ,aQ,⟨.other,(.sc .any),1,0,[(.tuple #[(.agg #[(xU ka 0),(xU ka 0),(xU ka 0),(xV eH 0 0)]),(xU ka 0)])]⟩,aQ,aQ,aQ,aQ,aQ,aQ,aQ,aQ,aQ,⟨.ptr 109,(.sc .ptr),1,8,[(xW eH)]⟩,⟨.array 64 3,(.arr (.int .i64)),64,512,qf 64 (xU ka 0)⟩,⟨.slice 153,(.sc .slc),1,24,[(xV eH 0 0)]⟩,aep,aep,aQ,⟨.slice 34,(.sc .slc),1,24,[(xV eH 0 0)]⟩,aQ,aQ,aQ,aQ,⟨.ptr 118,(.sc .ptr),1,8,[(xW eH)]⟩,aeq,aeq,aQ,aQ,⟨.other,(.sc .any),1,0,[(.tuple #[(xU ka 0),(xV eH 0 0),(.bool .false)])]⟩,aQ,aQ,aQ,aer,aer,aQ,aQ,⟨.slice 61,(.sc .slc),1,24,[(xV eH 0 0)]⟩,aQ,aQ,aQ,aQ,aQ,aQ,aQ,⟨.slice 140,(.sc .slc),1,24,[(xV eH 0 0)]⟩,aQ,VP,VP,aQ,aQ,aQ,ti8,aQ,aQ,aQ,aQ,ti8,aQ,aQ,VP,VP,aQ,aQ,aQ,aQ,aQ,aQ,aQ,aQ,aQ,⟨.slice 166,(.sc .slc),1,24,[(xV eH 0 0)]⟩,aQ,aes,aes,aet,aet,aQ,aQ,ti4,aQ,aQ,aQ,aQ,aQ,aQ,aQ,aQ,aQ,aQ,aQ,aQ,aQ,aQ,⟨.ptr 192,(.sc .ptr),1,8,[(xW eH)]⟩,ti9,aQ,aQ,⟨.ptr 262,(.sc .ptr),1,8,[(xW eH)]⟩,aeu,aeu,aQ,aQ,⟨.other,(.sc .any),1,0,[(.tuple #[(.agg #[(xU ka 0),(xU ka 0),(xU ka 0),(xU ka 0),(xU ka 0),(xU ka 0),(xV eH 0 0),(xV eH 0 0)]),(.bool .false)])]⟩,aQ,aQ,aQ,aQ,aQ,aQ,aQ,aQ,aQ,aQ,aQ,⟨.other,(.sc .any),1,0,[(.tuple #[(xU ka 0),(.bool .false)])]⟩,aQ,aQ,ti9,aQ,aQ,aQ,aQ,aQ,aQ,aQ,aQ,aQ,aQ,aQ,ach,aQ,aQ,⟨.other,(.sc .any),1,0,[(.tuple #[(.agg #[(xU ka 0),(xU ka 0),(xU ka 0),(xU ka 0),(xU ka 0),(xU ka 0),(xU ke 0),(xV eH 0 0)]),(.bool .false)])]⟩,aQ,aQ,aQ,aQ,aQ,aQ,aQ,ti1,acg,aQ,aQ,aQ,aQ,aQ,aQ,ti4,aQ,ti7,ti6,ti6,aQ,aQ,⟨.other,(.sc .any),1,0,[(.tuple #[(xV eH 0 0),(.bool .false),(xU ka 0)])]⟩,aQ,aQ,aQ,⟨.slice 48,(.sc .slc),1,24,[(xV eH 0 0)]⟩,aQ,aQ,aQ,aQ,aQ,⟨.ptr 330,(.sc .ptr),1,8,[(xW eH)]⟩,aQ,aQ,aev,aev,⟨.cpx,(.sc (.cpx .f64)),1,16,[(.complex Go.FloatKind.f64 0 0)]⟩,aQ,⟨.slice 270,(.sc .slc),1,24,[(xV eH 0 0)]⟩,⟨.array 64 4,(.arr .bool),64,64,qf 64 (.bool .false)⟩,⟨.flt,(.sc (.flt .f64)),1,8,[(.float Go.FloatKind.f64 0)]⟩,aQ,aew,aew,aQ,aQ,aQ,aQ,aQ,aQ,⟨.slice 279,(.sc .slc),1,24,[(xV eH 0 0)]⟩,aex,aex,⟨.ptr 285,(.sc .ptr),1,8,[(xW eH)]⟩,⟨.slice 352,(.sc .slc),1,24,[(xV eH 0 0)]⟩,aey,aey,aez,aez,⟨.slice 4,(.sc .slc),1,24,[(xV eH 0 0)]⟩,⟨.other,(.sc .any),1,0,[(.tuple #[(xV eH 0 0),(xV eH 0 0),(xV eH 0 0),(xU ka 0)])]⟩,aQ,aQ,⟨.other,(.sc .any),1,0,[(.tuple #[(xV eH 0 0),(xV eH 0 0)])]⟩,aQ,aQ,aQ,⟨.ptr 364,(.sc .ptr),1,8,[(xW eH)]⟩,aQ,aQ,aQ,aQ,aQ,⟨.ptr 5,(.sc .ptr),1,8,[(xW eH)]⟩,aQ,aQ,ti4,aQ,aQ,aQ,⟨.ptr 3,(.sc .ptr),1,8,[(xW eH)]⟩,aQ,aQ,ach,aQ,⟨.ptr 371,(.sc .ptr),1,8,[(xW eH)]⟩,aQ,⟨.slice 111,(.sc .slc),1,24,[(xV eH 0 0)]⟩,aQ,aQ,aQ,aQ,aQ,aQ,aQ,aQ,aQ,aQ,⟨.array 255 5,(.arr (.int .u8)),255,255,qf 255 (xU kb 0)⟩,aQ,⟨.array 256 3,(.arr (.int .i64)),256,2048,qf 256 (xU ka 0)⟩,aQ,aeA,aeA,⟨.ptr 334,(.sc .ptr),1,8,[(xW eH)]⟩,aQ,aeB,aeB,aQ,aQ,aQ,aQ,aQ,aQ,aQ,aQ,aQ,⟨.ptr 346,(.sc .ptr),1,8,[(xW eH)]⟩,aeC,aeC,aQ,⟨.other,(.sc .any),1,0,[(.tuple #[(.agg #[(xV eH 0 0),(xV eH 0 0),(xV eH 0 0)]),(.bool .false)])]⟩,aQ,aQ,aeD,aeD,aQ,aQ,aQ,aeE,aeE,⟨.other,(.sc .any),1,0,[(.tuple #[(.agg (qf 256 (.bool .false)).toArray),(.bool .false)])]⟩,aQ,aQ,⟨.ptr 357,(.sc .ptr),1,8,[(xW eH)]⟩,aQ,VQ,VQ,aQ,aQ,⟨.ptr 303,(.sc .ptr),1,8,[(xW eH)]⟩,acg,aQ,aeF,aeF,aQ,aQ,aQ,aQ,aQ,⟨.slice 379,(.sc .slc),1,24,[(xV eH 0 0)]⟩,aeG,aeG,⟨.other,(.sc .any),1,0,[(.tuple #[(.agg #[(xU ka 0),(xU ka 0),(xU ka 0),(xV eH 0 0),(xV eH 0 0)]),(.bool .false)])]⟩,aQ,ti7,ti8,aQ,aQ,aQ,aQ,⟨.ptr 390,(.sc .ptr),1,8,[(xW eH)]⟩,VQ,VQ,aQ,aQ,aQ,aQ,aQ,aQ,aQ,aQ,aQ,aQ,aQ,aQ,aQ,aQ,aQ,aQ,⟨.ptr 409,(.sc .ptr),1,8,[(xW eH)]⟩,aeH,aeH,aQ,⟨.other,(.sc .any),1,0,[(.tuple #[(.agg #[(xU ka 0),(xU ka 0)]),(.bool .false)])]⟩,aQ,aQ,⟨.other,(.sc .any),1,0,[(.tuple #[(.int .i32 0),(xU ka 0)])]⟩,aQ,aQ,aQ,aQ,aQ,aQ,aQ,aQ,aQ,aQ,⟨.int .u16,(.sc (.int .u16)),1,2,[(.int .u16 0)]⟩,aQ,aQ,aQ,aQ,aQ,aQ,⟨.ptr 434,(.sc .ptr),1,8,[(xW eH)]⟩,aeI,aeI,aQ,aQ,aQ,aQ,⟨.array 256 5,(.arr (.int .u8)),256,256,qf 256 (xU kb 0)⟩,aeJ,aeJ,⟨.array 16 441,(.arr (.int .u8)),32,32,qf 32 (xU kb 0)⟩,aQ,aeK,aeK,⟨.array 0 16,(.arr .ptr),0,0,[]⟩,aeL,aeL,ti2,ti2,aQ,ti5,ti5,aeM,aeM,⟨.other,(.sc .any),1,8,[(xW eH)]⟩]
noncomputable def aci:List (TypeId×List Ty):=[(0,[]),(26,[(.sc .ptr),(.agg [(.int .i64),(.int .i64),(.int .i64)])]),(38,[(.sc .slc),(.sc .bool)]),(56,[(.agg [(.int .i64),(.int .i64),(.int .i64)]),(.sc (.int .i64)),(.sc .slc)]),(58,[(.sc .ptr),(.sc (.int .i64))]),(69,[(.sc (.int .i64)),(.sc (.int .i64))]),(86,[(.sc .ptr),(.sc (.int .i64))]),(91,[(.sc .slc),(.sc (.int .i64))]),(95,[(.agg [(.int .i64),(.int .i64),(.int .i64),.slc]),(.sc (.int .i64))]),(121,[(.sc (.int .i64)),(.sc .slc),(.sc .bool)]),(144,[(.sc .slc),(.sc .bool)]),(149,[(.sc .slc),(.sc .bool)]),(187,[(.sc .ptr),(.sc (.int .i64))]),(195,[(.agg [(.int .i64),(.int .i64),(.int .i64),(.int .i64),(.int .i64),(.int .i64),.slc,.slc]),(.sc .bool)]),(207,[(.sc (.int .i64)),(.sc .bool)]),(210,[(.sc .ptr),(.sc (.int .i64))]),(222,[(.sc .slc),(.sc (.int .i64))]),(225,[(.agg [(.int .i64),(.int .i64),(.int .i64),(.int .i64),(.int .i64),(.int .i64),(.int .u32),.slc]),(.sc .bool)]),(234,[(.sc (.int .i64)),(.sc (.int .i64))]),(248,[(.sc .slc),(.sc .bool),(.sc (.int .i64))]),(287,[(.sc .slc),(.sc .slc),(.sc .slc),(.sc (.int .i64))]),(290,[(.sc .slc),(.sc .slc)]),(310,[(.sc .slc),(.sc (.int .i64))]),(348,[(.agg [.slc,.slc,.slc]),(.sc .bool)]),(358,[(.arr .bool),(.sc .bool)]),(368,[(.sc (.int .i64)),(.sc (.int .i64))]),(380,[(.agg [(.int .i64),(.int .i64),(.int .i64),.slc,.slc]),(.sc .bool)]),(383,[(.sc .slc),(.sc .bool)]),(411,[(.agg [(.int .i64),(.int .i64)]),(.sc .bool)]),(414,[(.sc (.int .i32)),(.sc (.int .i64))])]
noncomputable def C:Ctx:={P:=kg,T:=Ue,tup:=aci,fns:=[false,false]++qf 385 true++qf 21 false++[true]}
theorem aiV:(List.range C.T.length).map (kT.seen C.P)=C.T.map kT.told:=j6
theorem afz:C.P.follows .mixedOrders=true:=j6
theorem aiW:(C.P.funcs.toList.map λf=>!(f.name== "runtime.NumGoroutine")&&f.body.isSome)=C.fns:=j6
theorem ag:C.Ok:={Ue:=aiV,mixed:=afz,fns:=aiW}
abbrev Me:=ai kg
abbrev Ca:=pH kg
abbrev Ra:=un kg
abbrev Rr:=bI kg
abbrev Ru{α:Type}:=aj (α:=α) kg
theorem tie{f:FuncId}{b:Func}(d:Tryz.prog.funcs[f]?=some b)(a:cO){args:aW}{R:tJ}{h:Heap}{Q:Prop}(c:Q) (g:xB args.length b.ntmps=true:=by kernel_rfl) (e:XH C b 300 a args R h=Q:=by kernel_rfl):ai kg f args.toArray h R:=agu ag d a c g e
theorem CP:C.P=kg:=rfl
theorem CU:C.tup=aci:=rfl
noncomputable def tbF(t:Nat):TI:=Rk.nP Rk.UO Ue t
theorem ts{f:FuncId}{b:Func}(i:Tryz.prog.funcs[f]?=some b){args:aW}{R:tJ}{h:Heap}{Q:Prop}{c:Code}{rs:List ResultVar}(g:Q)(a:cO:=.n)(S:List (Nat×Rk.Sd):=[]) (j:b.body=some c:=by exact rfl) (k:b.results=rs.toArray:=by exact rfl) (d:Rk.bn C tbF S R 100000 (.ex c a (.top rs) (Rk.Va 0 args)) h=Q:=by dsimp only[cO.tn,cO.lp,cO.jn,Rk.agv,Rk.UM,Rk.Hw,Rk.NS,Rk.agw,Rk.fw,Rk.IQ,Rk.NT,Rk.IR,Rk.UN,Rk.agx,Rk.abo,Rk.Hx,Rk.nP,Rk.Ou,Rk.Ov,Rk.sG,Rk.abp,Rk.UO,Rk.agy,Rk.UP,Rk.IS,Rk.agz,Rk.agA,Rk.agB,Rk.agC,Rk.adN,Rk.agD,Rk.adO,Rk.agE,Rk.agF,Rk.agG,Rk.agH,Rk.agI,Rk.agJ,Rk.agK,Rk.Ow,Rk.agL,Rk.UQ,Rk.agM,Rk.adP,Rk.agN,Rk.agO,Rk.TJ,Rk.adQ,Rk.XI,Rk.UR,Rk.agP,Rk.adR,Rk.US,Rk.XJ,Rk.XK,Rk.abq,Rk.UT,Rk.abr,Rk.UU,Rk.adS,Rk.adT,Rk.adU,Rk.adV,Rk.Ox,Rk.Oy,Rk.XL,Rk.adW,Rk.adX,Rk.IT,Rk.UV,Rk.adY,Rk.IU,Rk.abs,Rk.KH,Rk.Oz,Rk.KI,Rk.IV,Rk.abt,Rk.KJ,Rk.IW,Rk.IX,Rk.abu,Rk.abv,Rk.adZ,Rk.abw,Rk.UW,Rk.OA,Rk.NU,Rk.Hy,Rk.aea,Rk.KK,Rk.oQ,Rk.UX,Rk.abx,Rk.UY,Rk.UZ,Rk.bn,Rk.Va,Rk.aiJ,Rk.aiK,Rk.aiL,Rk.agQ,Rk.agR,undef,Nat.reduceAdd,Nat.reduceBEq,Nat.reduceSub,Nat.reduceMul,tbF,CP,CU,aci,Sc.den,Sc.enc,Ty.den,Ty.enc,Rt.den,Rt.enc,Bw,oN,NR,UE,dN.den,Ue]) (l:xB args.length b.ntmps=true:=by kernel_rfl) (e:XH C b 300 a args R h=Q:=by kernel_rfl):ai kg f args.toArray h R:=TH ag i (Nat.le_of_ble_eq_true l) (cast e.symm g)
theorem Af(j:PA)(b:Sl)(d:Int)(c:Bool)(U:Ra (vU 25 j) h λV Y=>AL (σ:=Sl) (λr E=>R r E) (λM=>iu (σ:=Sl×Int) (λa N s=>AL (σ:=Unit) (λ_ h3=>AL (σ:=Sl) (λx k=>∃m:PA,bt k V 0 m/\Ae b a.2 λe=>ul k (e.add (a.2.toNat*1)) λf=>((5:Int)≠0)/\Ae b (qd ka (a.2+1)) λF=>ul k (F.add ((qd ka (a.2+1)).toNat*1)) λu=>Ae b (qd ka (a.2+2)) λI=>ul k (I.add ((qd ka (a.2+2)).toNat*1)) λz=>Ca 16 #[m,(qd ka (yp f 5)),u,z] (.one (.agg [(.int .i64),.str,.slc,(.int .i64),(.int .i64),(.int .i64),(.int .u32),.slc,.slc])) k λw g=>(bQ.ok [(e.add (a.2.toNat*1),f)] g)/\Rr (zE 32 1 #[(0,w)]) Mt g λG o=>(bQ.ok [(e.add (a.2.toNat*1),f)] o)/\Rr (zo #[32,32] 32 #[x,G]) Mt o λB l=>(bQ.ok [(e.add (a.2.toNat*1),f)] l)/\N (B,qd ka (a.2+3)) l) (λT=>AL (σ:=Bool) (λS i=>Br S (Ae b a.2 λp=>ul i (p.add (a.2.toNat*1)) λq=>((5:Int)≠0)/\Ae b (qd ka (a.2+1)) λt=>ul i (t.add ((qd ka (a.2+1)).toNat*1)) λH=>Ae b (qd ka (a.2+2)) λA=>ul i (A.add ((qd ka (a.2+2)).toNat*1)) λJ=>Ca 15 #[(qd ka (yp q 5)),H,J] (.one (.agg [(.int .i64),.str,.slc,(.int .i64),(.int .i64),(.int .i64),(.int .u32),.slc,.slc])) i λv K=>(bQ.ok [(p.add (a.2.toNat*1),q)] K)/\Rr (zE 32 1 #[(0,v)]) Mt K λy O=>(bQ.ok [(p.add (a.2.toNat*1),q)] O)/\Rr (zo #[32,32] 32 #[a.1,y]) Mt O λD h8=>(bQ.ok [(p.add (a.2.toNat*1),q)] h8)/\N (D,qd ka (a.2+3)) h8) (T a.1 i)) (λL=>Br c (Ae b a.2 λa4=>ul h3 (a4.add (a.2.toNat*1)) λP=>Ca 5 #[P,(xU ka 5)] lF h3 λW Q=>L (W==4) Q) (L false h3)))) (λX=>Br ((qd ka (a.2+2))<(b.len:Int)) (Br ((a.1.len:Int)<d) (X () s) (M a.1 s)) (M a.1 s))) ((⟨eH,0,0⟩:Sl),(0:Int)) Y)):Me 7 #[j,b,d,c] h R:=tie func7 (cO.tn (cO.tn (.two (.join [(9,cE)] [(9,72)] (cO.tn (.inn (.loop [(9,cE),(10,aR)] [(9,72)] (.two (.join [] [(11,22)] .n) (.two (.inn (.two (.join [(9,cE)] [(9,10),(24,52)] (.two (.join [(32,lj)] [(24,33)] .n) .n)) .n)) .n)))))) .n))) U
theorem uE(b:Sl)(A:Ra (yR 25 true (.tuple #[])) h λv G=>Ca 34 #[b,(xU ka 0)] lF G λE z=>Ca 34 #[b,(xU ka 1)] lF z λH h3=>Ca 34 #[b,(xU ka 2)] lF h3 λJ x=>Ca 33 #[E,H,J] ajy x λK w=>Ra (yR 25 true (.tuple #[])) w λd y=>Ru (qF 25 d K) y λ_ L=>iu (σ:=Sl×Int) (λi F h8=>Ca 34 #[b,(xU ka 4)] lF h8 λB I=>Ca 5 #[B,(xU ka 4)] lF I λD e=>Br (i.2<(qd ka (2+D))) (Ca 34 #[b,(qd ka (5+i.2))] lF e λu p=>Ca 5 #[u,(xU ka 50)] lF p λr t=>Rr (zE 22 1 #[(0,(qd ka (8+r)))]) Mt t λo s=>Rr (zo #[22,22] 22 #[i.1,o]) Mt s λk l=>F (k,qd ka (i.2+1)) l) (∃a:PA,bt e d 0 a/\Ca 34 #[b,(xU ka 3)] lF e λq j=>(bQ.ok [(d,a.1),(d.add 1,a.2.1),(d.add 2,a.2.2)] j)/\Ca 5 #[q,(xU ka 7)] lF j λm g=>(bQ.ok [(d,a.1),(d.add 1,a.2.1),(d.add 2,a.2.2)] g)/\Ru (qF 25 v a) g λ_ f=>(bQ.ok [] f)/\∃c:PA,bt f v 0 c/\R (.tuple #[c,m,i.1]) f)) ((⟨eH,0,0⟩:Sl),(0:Int)) L):Me 13 #[b] h R:=tie func13 (cO.tn (cO.tn (cO.tn (cO.tn (.two (cO.tn (.inn (.loop [(7,cE),(8,aR)] [(7,9),(16,35)] .n))) .n))))) A
theorem AI(x:PA)(A:Int)(a:Int)(c:Int)(hm:Ra (vU 25 x) h λr h1=>Ra (yR 37 true (.tuple #[])) h1 λb h2=>Ca 5 #[A,(xU ka 26)] lF h2 λl h3=>Br (l<8) (((5:Int)≠0)/\ul h3 r λH=>ul h3 (r.add 2) λG=>Ca 37 #[a] (.one tyT) h3 λr6 h4=>(bQ.ok [(r.add 2,G),(r,H)] h4)/\Ca 5 #[(qd ka (yp a 5)),(qd ka ((qd ka ((qd ka (3*H))*G))+2))] lF h4 λr7 h5=>(bQ.ok [(r.add 2,G),(r,H)] h5)/\Ca 38 #[r7,c] Mt h5 λr8 h6=>(bQ.ok [(r.add 2,G),(r,H)] h6)/\Ru (qF 37 b (xZ #[(xU ka 1),r6,r8,(xU ka 0),(xU ka 0),(xU ka 0),(xU ke 0),(xV eH 0 0),(xV eH 0 0)])) h6 λ_ h7=>(bQ.ok [] h7)/\∃s:Int×ByteArray×Sl×Int×Int×Int×Int×Sl×Sl,bt h7 b 0 s/\R s h7) (Br (l<11) (Ca 37 #[a] (.one tyT) h3 λa3 h8=>Ru (qF 37 b (xZ #[(xU ka 2),a3,(xV eH 0 0),(xU ka 0),(xU ka 0),(xU ka 0),(xU ke 0),(xV eH 0 0),(xV eH 0 0)])) h8 λ_ h9=>∃q:Int×ByteArray×Sl×Int×Int×Int×Int×Sl×Sl,bt h9 b 0 q/\R q h9) (Br (l<13) (Ca 37 #[a] (.one tyT) h3 λab J=>Ru (qF 37 b (xZ #[(xU ka 3),ab,(xV eH 0 0),(xU ka 0),(xU ka 0),(xU ka 0),(xU ke 0),(xV eH 0 0),(xV eH 0 0)])) J λ_ y=>∃m:Int×ByteArray×Sl×Int×Int×Int×Int×Sl×Sl,bt y b 0 m/\R m y) (Br (l==13) (Ru (qF 37 b (xZ #[(xU ka 4),ri,(xV eH 0 0),(xU ka 0),(xU ka 0),(xU ka 0),(xU ke 0),(xV eH 0 0),(xV eH 0 0)])) h3 λ_ D=>∃g:Int×ByteArray×Sl×Int×Int×Int×Int×Sl×Sl,bt D b 0 g/\R g D) (Br (l==14) (Ca 37 #[a] (.one tyT) h3 λao ar=>Ru (qF 37 b (xZ #[(xU ka 5),ao,(xV eH 0 0),(xU ka 0),(xU ka 0),(xU ka 0),(xU ke 0),(xV eH 0 0),(xV eH 0 0)])) ar λ_ v=>∃o:Int×ByteArray×Sl×Int×Int×Int×Int×Sl×Sl,bt v b 0 o/\R o v) (Br (l==15) (Ca 5 #[a,(xU ka 9)] lF h3 λY T=>Ca 5 #[c,(xU ka 60)] lF T λap N=>Ru (qF 37 b (xZ #[(xU ka 6),ri,(xV eH 0 0),Y,(qd ka (6+ap)),(xU ka 0),(xU ke 0),(xV eH 0 0),(xV eH 0 0)])) N λ_ F=>∃d:Int×ByteArray×Sl×Int×Int×Int×Int×Sl×Sl,bt F b 0 d/\R d F) (Br (l==16) (Ca 5 #[a,(xU ka 8)] lF h3 λam P=>Ru (qF 37 b (xZ #[(xU ka 7),ri,(xV eH 0 0),am,(xU ka 0),(xU ka 0),(xU ke 0),(xV eH 0 0),(xV eH 0 0)])) P λ_ t=>∃f:Int×ByteArray×Sl×Int×Int×Int×Int×Sl×Sl,bt t b 0 f/\R f t) (Br (l==17) (Ca 5 #[a,(xU ka 8)] lF h3 λax Z=>Ca 5 #[c,(xU ka 60)] lF Z λa4 X=>Ru (qF 37 b (xZ #[(xU ka 8),ri,(xV eH 0 0),ax,(qd ka (6+a4)),(xU ka 0),(xU ke 0),(xV eH 0 0),(xV eH 0 0)])) X λ_ z=>∃i:Int×ByteArray×Sl×Int×Int×Int×Int×Sl×Sl,bt z b 0 i/\R i z) (Br (l==18) (Ca 5 #[a,(xU ka 8)] lF h3 λU V=>Ru (qF 37 b (xZ #[(xU ka 9),ri,(xV eH 0 0),U,(xU ka 0),(xU ka 0),(xU ke 0),(xV eH 0 0),(xV eH 0 0)])) V λ_ E=>∃e:Int×ByteArray×Sl×Int×Int×Int×Int×Sl×Sl,bt E b 0 e/\R e E) (Br (l<22) (Ca 5 #[a,(xU ka 3)] lF h3 λO K=>Ca 5 #[c,(xU ka 20)] lF K λW I=>Ru (qF 37 b (xZ #[(xU ka 10),ri,(xV eH 0 0),(xU ka 0),O,W,(xU ke 0),(xV eH 0 0),(xV eH 0 0)])) I λ_ w=>∃p:Int×ByteArray×Sl×Int×Int×Int×Int×Sl×Sl,bt w b 0 p/\R p w) (Br (l==22) (Ca 5 #[a,(xU ka 9)] lF h3 λah al=>Ca 5 #[c,(xU ka 70)] lF al λay Q=>Ru (qF 37 b (xZ #[(xU ka 10),ri,(xV eH 0 0),(xU ka 0),(qd ka (ah-1)),(qd ka (ay-1)),(xU ke 0),(xV eH 0 0),(xV eH 0 0)])) Q λ_ B=>∃j:Int×ByteArray×Sl×Int×Int×Int×Int×Sl×Sl,bt B b 0 j/\R j B) (Ca 5 #[a,(xU ka 7)] lF h3 λa5 L=>((7:Int)≠0)/\Ca 5 #[(qd ka (yp a 7)),(xU ka 40)] lF L λM ad=>Ca 5 #[c,(xU ka 61)] lF ad λS a0=>Ru (qF 37 b (xZ #[(xU ka 11),ri,(xV eH 0 0),a5,M,S,(xU ke (qd ke ((qd ke ((qd ke c)*2654435761))+(qd ke a)))),(xV eH 0 0),(xV eH 0 0)])) a0 λ_ u=>∃k:Int×ByteArray×Sl×Int×Int×Int×Int×Sl×Sl,bt u b 0 k/\R k u)))))))))))):Me 16 #[x,A,a,c] h R:=tie func16 .n hm
theorem Ag(a:Int)(b:Int)(c:Int)(d:R (xU ke (qd ke ((qd ke ((qd ke ((qd ke a)*128))+(qd ke ((qd ke b)*16))))+(qd ke c)))) h):Me 32 #[a,b,c] h R:=tie func32 .n d
theorem Ah(d:Int)(b:Int)(c:Int)(l:Ra (yR 25 true (.tuple #[])) h λf g=>Ca 5 #[d,(xU ka 6)] lF g λk j=>Ca 5 #[b,(xU ka 3)] lF j λm h3=>Ca 5 #[c,(xU ka 9)] lF h3 λo i=>Ru (qF 25 f (xZ #[(qd ka (1+k)),(qd ka (1+m)),(qd ka (1+o))])) i λ_ e=>∃a:PA,bt e f 0 a/\R a e):Me 33 #[d,b,c] h R:=tie func33 .n l
theorem rL(a:bL)(d:Br (Option.isNone a) (R (xV eH 0 0) h) (∃b,(a=some b)/\LdS h (b.add 2) λx2=>Ca 142 #[x2] Mt h λe c=>R e c)):Me 79 #[a] h R:=tie func79 .n d
theorem Ie(b:Sl)(a:Addr)(e:LdS h a λf=>Ca 82 #[b,f] Mu h λd c=>R d c):Me 81 #[b,a] h R:=tie func81 .n e
theorem ny(a:Sl)(b:Int)(f:iu (σ:=Int) (λc g d=>Br (c<(a.len:Int)) (Ae a c λe=>ul d (e.add (c.toNat*1)) λx3=>Br (b==x3) (R c d) (g (qd ka (c+1)) d)) (R (xU ka (-1:Int)) d)) (0:Int) h):Me 108 #[a,b] h R:=tie func108 (cO.tn (.two (cO.tn (.inn (.loop [(8,aR)] [(4,6),(8,19)] .n))) .n)) f
theorem iZ(b:Sl)(a:Hz)(g:iu (σ:=Int) (λc i d=>Br (c<(b.len:Int)) (Ae b c λf=>ul d (f.add (c.toNat*1)) λx3=>tI C a.1 (a.2.1.toList++[(xU ka x3)]++a.2.2.toList) Mu d λj e=>Br j (R c e) (i (qd ka (c+1)) e)) (R (xU ka (-1:Int)) d)) (0:Int) h):Me 112 #[b,(.func (.func a.1) a.2.1 a.2.2)] h R:=tie func112 (cO.tn (.two (cO.tn (.inn (.loop [(8,aR)] [(4,6),(8,19)] .n))) .n)) g
theorem Le(b:Tu2)(a:Addr)(d:Ra (vU 51 b) h λe c=>ul c (e.add 1) λx2=>ul c (a.add 1) λx3=>R (xY (x2==x3)) c):Me 141 #[b,a] h R:=tie func141 .n d
theorem oD(b:Sl)(a:Hz)(g:iu (σ:=Int) (λc i d=>Br (c<(b.len:Int)) (Ae b c λf=>LdS d (f.add (c.toNat*1)) λx3=>tI C a.1 (a.2.1.toList++[(xV x3.ptr x3.len x3.cap)]++a.2.2.toList) Mu d λj e=>Br j (R c e) (i (qd ka (c+1)) e)) (R (xU ka (-1:Int)) d)) (0:Int) h):Me 143 #[b,(.func (.func a.1) a.2.1 a.2.2)] h R:=tie func143 (cO.tn (.two (cO.tn (.inn (.loop [(8,aR)] [(4,6),(8,19)] .n))) .n)) g
theorem Cf(a:PA)(d:Ra (vU 25 a) h λc b=>ul b c λx2=>ul b (c.add 2) λx3=>R (qd ka (x2*x3)) b):Me 148 #[a] h R:=tie func148 .n d
theorem iA(b:Sl)(a:Hz)(g:iu (σ:=Int) (λc i d=>Br (c<(b.len:Int)) (Ae b c λf=>∃x3:Tu2,bt d (f.add (c.toNat*4)) 0 x3/\tI C a.1 (a.2.1.toList++[(xZ #[x3.1,x3.2.1,x3.2.2.1,x3.2.2.2])]++a.2.2.toList) Mu d λj e=>Br j (R c e) (i (qd ka (c+1)) e)) (R (xU ka (-1:Int)) d)) (0:Int) h):Me 159 #[b,(.func (.func a.1) a.2.1 a.2.2)] h R:=tie func159 (cO.tn (.two (cO.tn (.inn (.loop [(8,aR)] [(4,6),(8,19)] .n))) .n)) g
theorem If(a:Int)(b:Ca 137 #[a,(xU ka 0),(xU ka 15)] Mu h λc d=>R (xY (!c)) d):Me 201 #[a] h R:=tie func201 .n b
theorem Cg(a:Sl)(e:iu (σ:=Int) (λc f b=>Br (c<(a.len:Int)) (Ae a c λd=>ul b (d.add (c.toNat*1)) λx3=>Br (x3 !=0) (R x3 b) (f (qd ka (c+1)) b)) (R (xU ka 0) b)) (0:Int) h):Me 215 #[a] h R:=tie func215 (cO.tn (cO.tn (.two (cO.tn (.inn (.loop [(8,aR)] [(2,3),(5,6),(8,17)] .n))) .n))) e
theorem lR(b:Sl)(a:Hz)(g:iu (σ:=Int) (λc i d=>Br (c<(b.len:Int)) (Ae b c λf=>∃x3:Int×Sl,bt d (f.add (c.toNat*2)) 0 x3/\tI C a.1 (a.2.1.toList++[(xZ #[x3.1,x3.2])]++a.2.2.toList) Mu d λj e=>Br j (R c e) (i (qd ka (c+1)) e)) (R (xU ka (-1:Int)) d)) (0:Int) h):Me 222 #[b,(.func (.func a.1) a.2.1 a.2.2)] h R:=tie func222 (cO.tn (.two (cO.tn (.inn (.loop [(8,aR)] [(4,6),(8,19)] .n))) .n)) g
end Go.Qw
