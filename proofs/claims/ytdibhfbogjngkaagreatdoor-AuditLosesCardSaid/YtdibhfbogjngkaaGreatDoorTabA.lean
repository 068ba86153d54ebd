/- Lemmas for the proof of the law; no condition. -/
import Derived.Test.YtdibhfbogjngkaaGreatDoorPlA
import Derived.Test.YtdibhfbogjngkaaGreatDoorProg
set_option linter.unusedVariables false
open Go.Proofs.Tryz renaming prog -> xR
open Go.Value renaming agg -> xM, bool -> xL, int -> xH, pointer -> xJ, slice -> xI, string -> xK
open Go.IntKind renaming bits -> qk, i64 -> xN, u32 -> xP, u64 -> xQ, u8 -> xO, wrap -> qc
open List renaming replicate -> qh, toArray -> yZ
open Option renaming isNone -> qW
open Int renaming fdiv -> qX, tdiv -> wH, tmod -> wB
open Go.Instr renaming alloc -> qK, box -> qO, buildSlice -> qq, storeAt -> qf
open Go.Builtin renaming append_ -> qt
open BitVec renaming ofInt -> qD
open Go.Proofs.Tryz
set_option maxRecDepth 1000000
open Option renaming some -> dB, none -> eH
open Bool renaming true -> eL, false -> eR
open Go renaming Value -> eX
namespace Go.Qw
noncomputable section
open Go Go.Vc Go.Proofs
instance:Coe Int eX:=⟨λx=>xH xN x⟩
instance:Coe Sl eX:=⟨λs=>xI s.ptr s.len s.cap⟩
instance:Coe ByteArray eX:=⟨.string⟩
instance:Coe (Option Addr) eX:=⟨.pointer⟩
instance:Coe Addr eX:=⟨λa=>xJ (dB a)⟩
instance:Coe Bool eX:=⟨.bool⟩
instance:Coe (Int×Int×Int) (List eX):=⟨λx=>[x.1,x.2.1,x.2.2]⟩
instance:Coe (Int×Int×Int) eX:=⟨λx=>xM (yZ x)⟩
instance:Coe (Int×Int×Int×Int×Int×Int×Sl×Sl) (List eX):=⟨λx=>[x.1,x.2.1,x.2.2.1,x.2.2.2.1,x.2.2.2.2.1,x.2.2.2.2.2.1,x.2.2.2.2.2.2.1,x.2.2.2.2.2.2.2]⟩
instance:Coe (Int×Int×Int×Int×Int×Int×Sl×Sl) eX:=⟨λx=>xM (yZ x)⟩
instance:Coe (ByteArray×Int×Int×Sl) (List eX):=⟨λx=>[x.1,x.2.1,x.2.2.1,x.2.2.2]⟩
instance:Coe (ByteArray×Int×Int×Sl) eX:=⟨λx=>xM (yZ x)⟩
instance:Coe (Int×Sl) (List eX):=⟨λx=>[x.1,x.2]⟩
instance:Coe (Int×Sl) eX:=⟨λx=>xM (yZ x)⟩
instance:Coe (Int×ByteArray×Sl×Int×Int×Int×Int×Sl×Sl) (List eX):=⟨λx=>[x.1,x.2.1,x.2.2.1,x.2.2.2.1,x.2.2.2.2.1,x.2.2.2.2.2.1,(xH xP x.2.2.2.2.2.2.1),x.2.2.2.2.2.2.2.1,x.2.2.2.2.2.2.2.2]⟩
instance:Coe (Int×ByteArray×Sl×Int×Int×Int×Int×Sl×Sl) eX:=⟨λx=>xM (yZ x)⟩
instance:Coe (Int×Int×Int×Int×Int×Int×Int×Sl) (List eX):=⟨λx=>[x.1,x.2.1,x.2.2.1,x.2.2.2.1,x.2.2.2.2.1,x.2.2.2.2.2.1,(xH xP x.2.2.2.2.2.2.1),x.2.2.2.2.2.2.2]⟩
instance:Coe (Int×Int×Int×Int×Int×Int×Int×Sl) eX:=⟨λx=>xM (yZ x)⟩
instance:Coe (Sl×Sl) (List eX):=⟨λx=>[x.1,x.2]⟩
instance:Coe (Sl×Sl) eX:=⟨λx=>xM (yZ x)⟩
instance:Coe (Sl×Sl×Sl) (List eX):=⟨λx=>[x.1,x.2.1,x.2.2]⟩
instance:Coe (Sl×Sl×Sl) eX:=⟨λx=>xM (yZ x)⟩
instance:Coe (Int×Int) (List eX):=⟨λx=>[x.1,x.2]⟩
instance:Coe (Int×Int) eX:=⟨λx=>xM (yZ x)⟩
abbrev bf(h:Heap)(a:Addr)(k:Int->Prop):Prop:=∃x,cellOf h a=dB (xH xN x)/\k x
abbrev gF(i:IntKind)(h:Heap)(a:Addr)(k:Int->Prop):Prop:=∃x:Int,cellOf h a=dB (.int i x)/\k x
abbrev bn(h:Heap)(a:Addr)(k:Sl->Prop):Prop:=∃x:Sl,cellOf h a=dB (x:eX)/\k x
abbrev td(h:Heap)(a:Addr)(k:ByteArray->Prop):Prop:=∃x:ByteArray,cellOf h a=dB (xK x)/\k x
abbrev rC(h:Heap)(a:Addr)(k:Bool->Prop):Prop:=∃x:Bool,cellOf h a=dB (xL x)/\k x
abbrev jI(h:Heap)(a:Addr)(k:aT->Prop):Prop:=∃x:aT,cellOf h a=dB (.pointer x)/\k x
abbrev aR(s:Sl)(i:Int)(k:Addr->Prop):Prop:=∃a,(s.ptr=dB a/\0<=i/\i<((s.len:Nat):Int))/\k a
abbrev bJ:=Int×Int×Int
abbrev jn:=ByteArray×Int×Int×Sl
abbrev cW:=Int×Int×Int×Int×Int×Int×Sl×Sl
abbrev eZ:=Int×Int×Int×Int×Int×Int×Int×Sl
abbrev CR:=Int×ByteArray×Sl×Int×Int×Int×Int×Sl×Sl
abbrev Tu5:=Int×Int×Int×Bool×Bool
abbrev Eu:Rt:=.one (.agg [(.int .i64),(.int .i64),(.int .i64),(.int .i64),(.int .i64),(.int .i64),.slc,.slc])
abbrev ahh:Rt:=.one (.agg [(.int .i64),.str,.slc,(.int .i64),(.int .i64),(.int .i64),(.int .u32),.slc,.slc])
abbrev aL:Rt:=.one (.sc .slc)
abbrev bz:Rt:=.one (.sc (.int .i64))
abbrev jo:Rt:=.one (.sc .ptr)
abbrev bK:Rt:=.one (.sc .bool)
abbrev hJ:Rt:=.many []
abbrev ci:Ty:=.sc .slc
abbrev ba:Ty:=.sc (.int .i64)
abbrev LX:Ty:=.sc .ptr
abbrev jp:Ty:=.sc .bool
abbrev LY:Ty:=.sc .str
variable {R:Kr} {h:Heap}
def afQ:ByteArray:=⟨#[97]⟩
def afR:ByteArray:=⟨#[98]⟩
def Yk:ByteArray:=⟨#[99,97,116,45,55]⟩
def afS:ByteArray:=⟨#[100]⟩
def Hd:ByteArray:=⟨#[101,49,50,51,52,53,54,55,56,57,48,49]⟩
def aaD:ByteArray:=⟨#[0]⟩
def nX:ByteArray:=⟨#[]⟩
abbrev aY:TI:=⟨.fn,(.sc .fn),1,8,[.nilFunc]⟩
abbrev ti1:TI:=⟨.int .i64,(.sc (.int .i64)),1,8,[(xH xN 0)]⟩
abbrev ti2:TI:=⟨.int .u8,(.sc (.int .u8)),1,1,[(xH xO 0)]⟩
abbrev ti3:TI:=⟨.str,(.sc .str),1,16,[(.string ⟨#[]⟩)]⟩
abbrev ti4:TI:=⟨.int .u64,(.sc (.int .u64)),1,8,[(xH xQ 0)]⟩
abbrev ti5:TI:=⟨.int .i32,(.sc (.int .i32)),1,4,[(.int .i32 0)]⟩
abbrev ti6:TI:=⟨.other,(.sc .any),1,0,[(.tuple #[(xJ eH),(xH xN 0)])]⟩
abbrev ti7:TI:=⟨.other,(.sc .any),1,0,[(.tuple #[(xH xN 0),(xH xN 0)])]⟩
abbrev ti8:TI:=⟨.other,(.sc .any),1,0,[(.tuple #[(xI eH 0 0),(xH xN 0)])]⟩
abbrev ti9:TI:=⟨.other,(.sc .any),1,0,[(.tuple #[(xI eH 0 0),(.bool .false)])]⟩
abbrev Yl:TI:=⟨.struct [(0,3),(1,34)],(.agg [(.int .i64),.slc]),2,32,[(xH xN 0),(xI eH 0 0)]⟩
abbrev aho:TI:=⟨.struct [(0,2),(1,3),(2,4),(3,6)],(.agg [(.int .i64),(.int .i64),.bool,(.int .u8)]),4,24,[(xH xN 0),(xH xN 0),(.bool .false),(xH xO 0)]⟩
abbrev ahp:TI:=⟨.struct [(0,9),(1,12)],(.agg [.str,(.int .u64)]),2,24,[(xK ⟨#[]⟩),(xH xQ 0)]⟩
abbrev ahq:TI:=⟨.struct [(0,17)],(.agg [.ptr]),1,8,[(xJ eH)]⟩
abbrev ahr:TI:=⟨.struct [(0,3),(1,3),(2,3)],(.agg [(.int .i64),(.int .i64),(.int .i64)]),3,24,[(xH xN 0),(xH xN 0),(xH xN 0)]⟩
abbrev ahs:TI:=⟨.struct [(0,3),(1,3),(2,24),(5,3),(6,22),(7,42)],(.agg [(.int .i64),(.int .i64),(.int .i64),(.int .i64),(.int .i64),(.int .i64),.slc,.slc]),8,96,[(xH xN 0),(xH xN 0),(xH xN 0),(xH xN 0),(xH xN 0),(xH xN 0),(xI eH 0 0),(xI eH 0 0)]⟩
abbrev aht:TI:=⟨.struct [(0,3),(1,3),(2,46)],(.agg [(.int .i64),(.int .i64),(.int .u32)]),3,24,[(xH xN 0),(xH xN 0),(xH xP 0)]⟩
abbrev ahu:TI:=⟨.struct [(0,44),(8,31),(9,3),(10,82)],(.arr .any),74,624,[(xH xN 0),(xH xN 0),(xH xN 0),(xH xN 0),(xH xN 0),(xH xN 0),(xI eH 0 0),(xI eH 0 0),(xJ eH),(xH xN 0)]++qh 64 (xJ eH)⟩
abbrev ahv:TI:=⟨.struct [(0,4),(1,4),(2,3),(3,3)],(.agg [.bool,.bool,(.int .i64),(.int .i64)]),4,24,[(.bool .false),(.bool .false),(xH xN 0),(xH xN 0)]⟩
abbrev ahw:TI:=⟨.struct [(0,9),(1,3),(2,3),(3,22)],(.agg [.str,(.int .i64),(.int .i64),.slc]),4,56,[(xK ⟨#[]⟩),(xH xN 0),(xH xN 0),(xI eH 0 0)]⟩
abbrev ahx:TI:=⟨.struct [(0,27),(1,44),(9,22),(10,3),(11,3),(12,3)],(.agg [.ptr,(.int .i64),(.int .i64),(.int .i64),(.int .i64),(.int .i64),(.int .i64),.slc,.slc,.slc,(.int .i64),(.int .i64),(.int .i64)]),13,152,[(xJ eH),(xH xN 0),(xH xN 0),(xH xN 0),(xH xN 0),(xH xN 0),(xH xN 0),(xI eH 0 0),(xI eH 0 0),(xI eH 0 0),(xH xN 0),(xH xN 0),(xH xN 0)]⟩
abbrev aeH:TI:=⟨.struct [(0,3),(1,9),(2,34),(3,3),(4,3),(5,3),(6,46),(7,22),(8,22)],(.agg [(.int .i64),.str,.slc,(.int .i64),(.int .i64),(.int .i64),(.int .u32),.slc,.slc]),9,128,[(xH xN 0),(xK ⟨#[]⟩),(xI eH 0 0),(xH xN 0),(xH xN 0),(xH xN 0),(xH xP 0),(xI eH 0 0),(xI eH 0 0)]⟩
abbrev aeI:TI:=⟨.struct [(0,31),(1,3),(2,85),(3,3),(4,85),(5,4),(6,4)],(.agg [.ptr,(.int .i64),.slc,(.int .i64),.slc,.bool,.bool]),7,80,[(xJ eH),(xH xN 0),(xI eH 0 0),(xH xN 0),(xI eH 0 0),(.bool .false),(.bool .false)]⟩
abbrev aeJ:TI:=⟨.struct [(0,3),(1,3),(2,3),(3,24),(6,46),(7,34)],(.agg [(.int .i64),(.int .i64),(.int .i64),(.int .i64),(.int .i64),(.int .i64),(.int .u32),.slc]),8,80,[(xH xN 0),(xH xN 0),(xH xN 0),(xH xN 0),(xH xN 0),(xH xN 0),(xH xP 0),(xI eH 0 0)]⟩
abbrev aeK:TI:=⟨.struct [(0,3),(1,3),(2,46),(3,165),(4,51),(5,22)],(.agg [(.int .i64),(.int .i64),(.int .u32),.ptr,.slc,.slc]),6,80,[(xH xN 0),(xH xN 0),(xH xP 0),(xJ eH),(xI eH 0 0),(xI eH 0 0)]⟩
abbrev aeL:TI:=⟨.struct [(0,192),(255,194)],(.arr .any),511,2304,qh 255 (xH xO 0)++qh 256 (xH xN 0)⟩
abbrev aeM:TI:=⟨.struct [(0,119),(1,3),(2,85)],(.agg [.ptr,(.int .i64),.slc]),3,40,[(xJ eH),(xH xN 0),(xI eH 0 0)]⟩
abbrev aeN:TI:=⟨.struct [(0,24),(3,46),(4,85)],(.agg [(.int .i64),(.int .i64),(.int .i64),(.int .u32),.slc]),5,56,[(xH xN 0),(xH xN 0),(xH xN 0),(xH xP 0),(xI eH 0 0)]⟩
abbrev aeO:TI:=⟨.struct [(0,3),(1,239)],(.agg [(.int .i64),(.flt .f64)]),2,16,[(xH xN 0),(.float Go.FloatKind.f64 0)]⟩
abbrev aeP:TI:=⟨.struct [(0,22),(1,34)],(.agg [.slc,.slc]),2,48,[(xI eH 0 0),(xI eH 0 0)]⟩
abbrev aeQ:TI:=⟨.struct [(0,277),(1,22),(2,22)],(.agg [.slc,.slc,.slc]),3,72,[(xI eH 0 0),(xI eH 0 0),(xI eH 0 0)]⟩
abbrev aeR:TI:=⟨.struct [(0,119),(1,24),(4,85),(5,273),(6,279),(9,85),(10,85)],(.agg [.ptr,(.int .i64),(.int .i64),(.int .i64),.slc,.slc,.slc,.slc,.slc,.slc,.slc]),11,200,[(xJ eH),(xH xN 0),(xH xN 0),(xH xN 0),(xI eH 0 0),(xI eH 0 0),(xI eH 0 0),(xI eH 0 0),(xI eH 0 0),(xI eH 0 0),(xI eH 0 0)]⟩
abbrev aeS:TI:=⟨.struct [(0,235),(1,235),(2,3),(3,3),(4,4)],(.agg [(.cpx .f64),(.cpx .f64),(.int .i64),(.int .i64),.bool]),5,56,[(.complex Go.FloatKind.f64 0 0),(.complex Go.FloatKind.f64 0 0),(xH xN 0),(xH xN 0),(.bool .false)]⟩
abbrev aeT:TI:=⟨.struct [(0,273),(1,282),(2,85)],(.agg [.slc,.slc,.slc]),3,72,[(xI eH 0 0),(xI eH 0 0),(xI eH 0 0)]⟩
abbrev aeU:TI:=⟨.struct [(0,3),(1,3)],(.agg [(.int .i64),(.int .i64)]),2,16,[(xH xN 0),(xH xN 0)]⟩
abbrev aeV:TI:=⟨.array 256 4,(.arr .bool),256,256,qh 256 (.bool .false)⟩
abbrev aeW:TI:=⟨.struct [(0,311)],(.agg [(.int .u64)]),1,8,[(xH xQ 0)]⟩
abbrev aeX:TI:=⟨.struct [(0,51),(1,282),(2,282)],(.agg [.slc,.slc,.slc]),3,72,[(xI eH 0 0),(xI eH 0 0),(xI eH 0 0)]⟩
abbrev aeY:TI:=⟨.struct [(0,5),(1,5)],(.agg [(.int .u8),(.int .u8)]),2,2,[(xH xO 0),(xH xO 0)]⟩
abbrev aeZ:TI:=⟨.struct [(0,17),(1,17),(2,17),(3,9)],(.agg [.ptr,.ptr,.ptr,.str]),4,40,[(xJ eH),(xJ eH),(xJ eH),(xK ⟨#[]⟩)]⟩
abbrev afa:TI:=⟨.struct [(0,391)],(.agg []),0,0,[]⟩
abbrev afb:TI:=⟨.struct [(0,12),(1,12),(2,46),(3,394),(4,5),(5,5),(6,395),(7,396),(8,252),(9,397),(10,398)],(.agg [(.int .u64),(.int .u64),(.int .u32),(.int .u8),(.int .u8),(.int .u8),(.int .u8),.fn,.ptr,(.int .i32),(.int .i32)]),11,48,[(xH xQ 0),(xH xQ 0),(xH xP 0),(xH xO 0),(xH xO 0),(xH xO 0),(xH xO 0),.nilFunc,(xJ eH),(.int .i32 0),(.int .i32 0)]⟩
def tbl:kb:=[⟨.other,(.sc .any),1,0,[(.tuple #[])]⟩,aY,ti1,ti1,⟨.bool,(.sc .bool),1,1,[(.bool .false)]⟩,ti2,ti2,aho,aho,ti3,ti3,ti3,ti4,ahp,ahp,⟨.ptr 390,(.sc .ptr),1,8,[(xJ eH)]⟩,⟨.ptr 393,(.sc .ptr),1,8,[(xJ eH)]⟩,⟨.ptr 400,(.sc .ptr),1,8,[(xJ eH)]⟩,ahq,ahq,⟨.other,(.sc .any),1,16,[.nilIface]⟩,ti5,⟨.slice 3,(.sc .slc),1,24,[(xI eH 0 0)]⟩,ahr,ahr,⟨.other,(.sc .any),1,0,[(.tuple #[(.agg #[(xH xN 0),(xH xN 0),(xH xN 0)]),(xH xN 0),(xI eH 0 0)])]⟩,aY,⟨.ptr 84,(.sc .ptr),1,8,[(xJ eH)]⟩,ti1,ti6,aY,⟨.ptr 92,(.sc .ptr),1,8,[(xJ eH)]⟩,aY,aY,⟨.slice 5,(.sc .slc),1,24,[(xI eH 0 0)]⟩,aY,aY,⟨.slice 9,(.sc .slc),1,24,[(xI eH 0 0)]⟩,aY,aY,ti7,aY,⟨.slice 94,(.sc .slc),1,24,[(xI eH 0 0)]⟩,ahs,ahs,aY,⟨.int .u32,(.sc (.int .u32)),1,4,[(xH xP 0)]⟩,aht,aht,⟨.slice 48,(.sc .slc),1,24,[(xI eH 0 0)]⟩,aY,⟨.slice 22,(.sc .slc),1,24,[(xI eH 0 0)]⟩,aY,aY,aY,aY,aY,⟨.other,(.sc .any),1,0,[(.tuple #[(xI eH 0 0),(.bool .false),(xH xN 0)])]⟩,aY,aY,aY,aY,⟨.other,(.sc .any),1,0,[(.tuple #[(.bool .false),(xH xN 0)])]⟩,aY,aY,aY,aY,aY,aY,ti8,aY,aY,aY,aY,⟨.ptr 156,(.sc .ptr),1,8,[(xJ eH)]⟩,aY,aY,aY,aY,ti9,aY,aY,⟨.array 64 74,(.arr .ptr),64,512,qh 64 (xJ eH)⟩,ahu,ahu,⟨.slice 34,(.sc .slc),1,24,[(xI eH 0 0)]⟩,aY,aY,aY,⟨.slice 101,(.sc .slc),1,24,[(xI eH 0 0)]⟩,aY,ahv,ahv,ahw,ahw,aY,aY,ti9,aY,aY,Yl,Yl,aY,aY,aY,aY,aY,⟨.ptr 109,(.sc .ptr),1,8,[(xJ eH)]⟩,ahx,ahx,aY,aY,aY,aY,⟨.slice 117,(.sc .slc),1,24,[(xI eH 0 0)]⟩,aY,Yl,Yl,aY,⟨.ptr 197,(.sc .ptr),1,8,[(xJ eH)]⟩,aY,aY,aY,ti8,aY,⟨.ptr 200,(.sc .ptr),1,8,[(xJ eH)]⟩,aY,aY,aY,⟨.slice 85,(.sc .slc),1,24,[(xI eH 0 0)]⟩,aY,aY,⟨.slice 135,(.sc .slc),1,24,[(xI eH 0 0)]⟩,aY,aeH,aeH,aY,⟨.other,(.sc .any),1,0,[(.tuple #[(xH xN 0),(xI eH 0 0),(.bool .false)])]⟩,aY,aY,aY,aY,aY,aY,aY,aY,aY,aY,aY,aY,ti9,aY,aY,aY,aY,aeI,aeI,aY,aY,aY,aY,aY,⟨.other,(.sc .any),1,0,[(.tuple #[(xH xN 0),(.bool .false)])]⟩,aY,aY,⟨.ptr 234,(.sc .ptr),1,8,[(xJ eH)]⟩,ti6,aY,aY,aeJ,aeJ,aY,aY,aY,aY,aY,aY,aY,aY,aY,aY,aY,⟨.ptr 187,(.sc .ptr),1,8,[(xJ eH)]⟩,ti6,aY,aY,aeK,aeK,aY,⟨.slice 170,(.sc .slc),1,24,[(xI eH 0 0)]⟩,aY,aY,⟨.array 255 5,(.arr (.int .u8)),255,255,qh 255 (xH xO 0)⟩,aY,⟨.array 256 3,(.arr (.int .i64)),256,2048,qh 256 (xH xN 0)⟩,aY,aeL,aeL,aY,aeM,aeM,aY,aY,aY,aY,aY,aY,aY,aY,aY,aY,aY,aY,aY,aY,aY,aY,aY,aY,aY,ti8,aY,aY,aY,aY,aY,aY,aY,aY,ti4,aY,aY,aY,aeN,aeN,⟨.cpx,(.sc (.cpx .f64)),1,16,[(.complex Go.FloatKind.f64 0 0)]⟩,aY,⟨.slice 242,(.sc .slc),1,24,[(xI eH 0 0)]⟩,⟨.array 64 4,(.arr .bool),64,64,qh 64 (.bool .false)⟩,⟨.flt,(.sc (.flt .f64)),1,8,[(.float Go.FloatKind.f64 0)]⟩,aY,aeO,aeO,aY,aY,aY,aY,aY,aY,aY,aY,aY,⟨.ptr 5,(.sc .ptr),1,8,[(xJ eH)]⟩,aY,⟨.other,(.sc .any),1,0,[(.tuple #[(.agg #[(xH xN 0),(xH xN 0),(xH xN 0),(xH xN 0),(xH xN 0),(xH xN 0),(xH xP 0),(xI eH 0 0)]),(.bool .false)])]⟩,aY,aY,aY,aY,aY,aY,aY,aY,aY,aY,aY,aY,aY,aY,aY,aY,aY,aY,⟨.slice 275,(.sc .slc),1,24,[(xI eH 0 0)]⟩,aeP,aeP,⟨.ptr 281,(.sc .ptr),1,8,[(xJ eH)]⟩,⟨.slice 332,(.sc .slc),1,24,[(xI eH 0 0)]⟩,aeQ,aeQ,aeR,aeR,⟨.slice 4,(.sc .slc),1,24,[(xI eH 0 0)]⟩,⟨.other,(.sc .any),1,0,[(.tuple #[(xI eH 0 0),(xI eH 0 0),(xI eH 0 0),(xH xN 0)])]⟩,aY,aY,⟨.other,(.sc .any),1,0,[(.tuple #[(xI eH 0 0),(xI eH 0 0)])]⟩,aY,aY,aY,⟨.ptr 344,(.sc .ptr),1,8,[(xJ eH)]⟩,aY,aY,aY,aY,aY,⟨.ptr 299,(.sc .ptr),1,8,[(xJ eH)]⟩,aY,aeS,aeS,aY,aY,aY,ti1,ti7,aY,aY,aY,aY,aY,aY,ti4,aY,aY,aY,aY,aY,aY,aY,aY,aY,aY,aY,aY,⟨.ptr 326,(.sc .ptr),1,8,[(xJ eH)]⟩,aeT,aeT,aY,⟨.other,(.sc .any),1,0,[(.tuple #[(.agg #[(xI eH 0 0),(xI eH 0 0),(xI eH 0 0)]),(.bool .false)])]⟩,aY,aY,aeU,aeU,aY,aY,aY,aY,aeV,aeV,⟨.other,(.sc .any),1,0,[(.tuple #[(.agg (qh 256 (.bool .false)).toArray),(.bool .false)])]⟩,aY,aY,⟨.ptr 338,(.sc .ptr),1,8,[(xJ eH)]⟩,aeW,aeW,aY,aY,aY,aY,aY,aY,ti4,aY,aY,aY,⟨.ptr 3,(.sc .ptr),1,8,[(xJ eH)]⟩,aY,aY,aY,aY,aY,aY,aY,aY,⟨.ptr 366,(.sc .ptr),1,8,[(xJ eH)]⟩,aeX,aeX,aY,⟨.other,(.sc .any),1,0,[(.tuple #[(.agg #[(xH xN 0),(xH xN 0)]),(.bool .false)])]⟩,aY,aY,⟨.other,(.sc .any),1,0,[(.tuple #[(.int .i32 0),(xH xN 0)])]⟩,aY,aY,aY,aY,⟨.ptr 351,(.sc .ptr),1,8,[(xJ eH)]⟩,ti7,aY,aY,aY,aY,aY,aY,⟨.array 256 5,(.arr (.int .u8)),256,256,qh 256 (xH xO 0)⟩,aeY,aeY,⟨.array 16 386,(.arr (.int .u8)),32,32,qh 32 (xH xO 0)⟩,aY,aeZ,aeZ,⟨.array 0 16,(.arr .ptr),0,0,[]⟩,afa,afa,ti2,ti2,aY,ti5,ti5,afb,afb,⟨.other,(.sc .any),1,8,[(xJ eH)]⟩]
def C:Ctx:={P:=xR,T:=tbl,tup:=[(0,[]),(25,[(.agg [(.int .i64),(.int .i64),(.int .i64)]),(.sc (.int .i64)),(.sc .slc)]),(29,[(.sc .ptr),(.sc (.int .i64))]),(40,[(.sc (.int .i64)),(.sc (.int .i64))]),(57,[(.sc .slc),(.sc .bool),(.sc (.int .i64))]),(62,[(.sc .bool),(.sc (.int .i64))]),(69,[(.sc .slc),(.sc (.int .i64))]),(79,[(.sc .slc),(.sc .bool)]),(97,[(.sc .slc),(.sc .bool)]),(123,[(.sc .slc),(.sc (.int .i64))]),(137,[(.sc (.int .i64)),(.sc .slc),(.sc .bool)]),(150,[(.sc .slc),(.sc .bool)]),(162,[(.sc (.int .i64)),(.sc .bool)]),(166,[(.sc .ptr),(.sc (.int .i64))]),(183,[(.sc .ptr),(.sc (.int .i64))]),(220,[(.sc .slc),(.sc (.int .i64))]),(254,[(.agg [(.int .i64),(.int .i64),(.int .i64),(.int .i64),(.int .i64),(.int .i64),(.int .u32),.slc]),(.sc .bool)]),(283,[(.sc .slc),(.sc .slc),(.sc .slc),(.sc (.int .i64))]),(286,[(.sc .slc),(.sc .slc)]),(304,[(.sc (.int .i64)),(.sc (.int .i64))]),(328,[(.agg [.slc,.slc,.slc]),(.sc .bool)]),(339,[(.arr .bool),(.sc .bool)]),(368,[(.agg [(.int .i64),(.int .i64)]),(.sc .bool)]),(371,[(.sc (.int .i32)),(.sc (.int .i64))]),(377,[(.sc (.int .i64)),(.sc (.int .i64))])],fns:=[eR,eR]++qh 328 eL++qh 22 eR++[eL]}
theorem ais:(List.range C.T.length).map (kb.seen C.P)=C.T.map kb.told:=j1
theorem afT:C.P.follows .mixedOrders=eL:=j1
theorem ait:(C.P.funcs.toList.map λf=>!(f.name== "runtime.NumGoroutine")&&f.body.isSome)=C.fns:=j1
theorem af:C.Ok:={tbl:=ais,mixed:=afT,fns:=ait}
def lj(q:Sl)(l:Sl)(m:Int)(a:Int):Prop:=
 ae xR 24 #[q,l,(xH xN 8)] jo h λb w=>
 Br (qW b)
 (R eR w)
 (ae xR 25 #[b] aL w λs B=>
 ae xR 12 #[m,(xH xN (if(4:Int)<(s.len:Int)then(4:Int)else(s.len:Int)))] bz B λv h3=>
 ae xR 26 #[b,v] (.many [jp,ba]) h3 λA r=>
 Br (A.2 !=0)
 (R eR r)
 (ae xR 13 #[b] aL r λE x=>
 Br (!A.1)
 (ae xR 27 #[] bK x λG D=>
 R G D)
 (aM (σ:=Int) (λe F u=>
 Br (e<v)
 (ae xR 25 #[b] aL u λt h8=>
 (0<=(qc xN (2*e)))/\
 ae xR 12 #[(xH xN (qX a (2^min (qc xN (2*e)).toNat (qk xN)))),(xH xN (t.len:Int))] bz h8 λz y=>
 aR t z λk=>
 bf y (k.add (z.toNat*1)) λo=>
 ae xR 28 #[b,o] bz y λj d=>
 Br (j !=0)
 (R eR d)
 (F (qc xN (e+1)) d))
 (ae xR 30 #[b] aL u λf p=>
 ae xR 29 #[f,E] bK p λn c=>
 Br n (ae xR 27 #[] bK c λg i=>
 R g i) (R eR c))) (0:Int) x)))
theorem pP(d:Sl)(b:Sl)(c:Int)(a:Int)(e:@lj R h d b c a):ac xR 4 #[d,b,c,a] h R:=au af func4 (al.tn (al.tn (al.tn (al.tn (al.tn (al.tn (al.tn (al.tn (al.tn (.two (al.tn (.inn (.loop [(14,ba)] [(8,9),(14,16),(41,61)] .n))) .n)))))))))) e
def nI(b:Sl):Prop:=
 aU xR (qK 24 eL (.tuple #[])) h λu E=>
 ae xR 38 #[b,(xH xN 0)] bz E λx v=>
 ae xR 38 #[b,(xH xN 1)] bz v λA h3=>
 ae xR 38 #[b,(xH xN 2)] bz h3 λJ w=>
 ae xR 37 #[x,A,J] (.one (.agg [(.int .i64),(.int .i64),(.int .i64)])) w λD G=>
 aU xR (qK 24 eL (.tuple #[])) G λd B=>
 ag xR (qf 24 d D) B λ_ z=>
 aM (σ:=Sl×Int) (λi F h8=>
 ae xR 38 #[b,(xH xN 4)] bz h8 λy H=>
 ae xR 12 #[y,(xH xN 4)] bz H λI g=>
 Br (i.2<(qc xN (2+I)))
 (ae xR 38 #[b,(qc xN (5+i.2))] bz g λo t=>
 ae xR 12 #[o,(xH xN 50)] bz t λr n=>
 az xR (qq 22 1 #[(0,(qc xN (8+r)))]) aL n λs m=>
 az xR (qt #[22,22] 22 #[i.1,s]) aL m λe p=>
 F ((⟨e.ptr,e.len,e.cap⟩:Sl),qc xN (i.2+1)) p)
 (∃a:bJ,an g d 0 a/\
 ae xR 38 #[b,(xH xN 3)] bz g λl k=>
 (aA.ok [(d,a.1),(d.add 1,a.2.1),(d.add 2,a.2.2)] k)/\
 ae xR 12 #[l,(xH xN 7)] bz k λq j=>
 (aA.ok [(d,a.1),(d.add 1,a.2.1),(d.add 2,a.2.2)] j)/\
 ag xR (qf 24 u a) j λ_ f=>
 (aA.ok [] f)/\
 ∃c:bJ,an f u 0 c/\
 R (.tuple #[c,q,i.1]) f)) ((⟨eH,0,0⟩:Sl),(0:Int)) z
theorem uM(a:Sl)(b:@nI R h a):ac xR 7 #[a] h R:=au af func7 (al.tn (al.tn (al.tn (al.tn (.two (al.tn (.inn (.loop [(7,ci),(8,ba)] [(7,9),(16,35)] .n))) .n))))) b
def CS(D:bJ)(a:Int)(c:aT)(b:Sl):Prop:=
 aU xR (qO 24 D) h λk P=>
 ae xR 39 #[b] (.many [ci,jp]) P λl y=>
 bi (σ:=Unit) (λ_ J=>
 bi (σ:=aT) (λe O=>
 aM (σ:=Int) (λi Q h8=>
 Br (i<(l.1.len:Int))
 (aR l.1 i λE=>
 bf h8 (E.add (i.toNat*1)) λm=>
 aR b m λq=>
 bf h8 (q.add (m.toNat*1)) λt=>
 ∃w,(e=dB w)/\
 ∃n:cW,an h8 w 0 n/\
 ae xR 42 #[n] aL h8 λA I=>
 (aA.ok [(q.add (m.toNat*1),t)] I)/\
 Br (t<(A.len:Int))
 (R (.tuple #[(xJ eH),(xH xN 7)]) I)
 (Q (qc xN (i+1)) I))
 (aM (σ:=Int) (λj N f=>
 Br (j<(l.1.len:Int))
 (aR l.1 j λF=>
 bf f (F.add (j.toNat*1)) λd=>
 aR b d λa22=>
 bf f (a22.add (d.toNat*1)) λG=>
 ∃p,(e=dB p)/\
 ae xR 43 #[G,c] jo f λB x=>
 (aA.ok [] x)/\
 (0<=d/\d<((64:Nat):Int))/\
 ag xR (qf 74 ((p.add 10).add (d.toNat*1)) B) x λ_ o=>
 (aA.ok [] o)/\
 N (qc xN (j+1)) o)
 (∃u,(e=dB u)/\
 ∃r:cW,an f u 0 r/\
 ae xR 45 #[r,l.1] aL f λH z=>
 ae xR 44 #[(.func (.func 35) #[e] #[]),H] bz z λv s=>
 Br (v !=0)
 (R (.tuple #[(xJ eH),v]) s)
 (R (.tuple #[e,(xH xN 0)]) s))) (0:Int) h8)) (0:Int) O)
 (λS=>
 ∃g:bJ,an J k 0 g/\
 ae xR 41 #[c] bz J λU M=>
 (aA.ok [(k,g.1),(k.add 1,g.2.1),(k.add 2,g.2.2)] M)/\
 ∃K:eX,(aH xR (Instr.build 84 #[(0,(xM #[(xH xN 1),(xH xN 0),g.1,g.2.1,g.2.2,a,l.1,(xI eH 0 0)])),(1,c),(2,U)]) K)/\
 aU xR (qO 84 K) M λa9 L=>
 (aA.ok [(k,g.1),(k.add 1,g.2.1),(k.add 2,g.2.2)] L)/\
 S (dB a9) L))
 (λT=>
 Br (!l.2) (R (.tuple #[(xJ eH),(xH xN 1)]) y) (∃x3:bJ,an y k 0 x3/\
 ae xR 40 #[x3] bK y λV h3=>
 Br (!V) (R (.tuple #[(xJ eH),(xH xN 1)]) h3) (Br (a<0) (R (.tuple #[(xJ eH),(xH xN 1)]) h3) (Br (a>16) (R (.tuple #[(xJ eH),(xH xN 1)]) h3) (Br (qW c)
 (R (.tuple #[(xJ eH),(xH xN 1)]) h3)
 (T () h3))))))
theorem KK(d:bJ)(a:Int)(c:aT)(b:Sl)(e:@CS R h d a c b):ac xR 8 #[d,a,c,b] h R:=au af func8 (al.tn (al.tn (.two (.join [] [(8,10),(23,42)] .n) (.two (.join [(12,LX)] [(12,13),(42,51)] .n) (.two (al.tn (.inn (.loop [(53,ba)] [(8,10),(14,15),(53,69)] .n))) (.two (al.tn (.inn (.loop [(71,ba)] [(16,17),(71,87)] .n))) .n)))))) e
def JG:Prop:=
 aU xR (qO 92 (xM #[eR,eR,(xH xN 0),(xH xN 0)])) h λa b=>
 R a b
theorem QP(a:@JG R h):ac xR 9 #[] h R:=au af func9 .n a
def ur(a:aT)(e:ByteArray)(k:Sl):Prop:=
 ae xR 46 #[a,e,k] bz h λr1 Y=>
 Br (r1 !=0)
 (R r1 Y)
 (∃a2,(a=dB a2)/\
 bf Y (a2.add 1) λx3=>
 aU xR (qK 94 eL (.tuple #[])) Y λa4 h2=>
 ag xR (qf 94 a4 (xM #[e,x3,(xH xN (k.len:Int)),(xI eH 0 0)])) h2 λ_ h3=>
 bi (σ:=Sl×Bool) (λA h6=>
 Br (!A.2)
 (R (xH xN 8) h6)
 (ag xR (qf 22 (a4.add 3) A.1) h6 λ_ h7=>
 ∃z:jn,an h7 a4 0 z/\
 ae xR 49 #[a,z,k] (.many [ci,jp]) h7 λF h8=>
 aU xR (qK 89 eL (.tuple #[])) h8 λj h9=>
 ag xR (qf 89 j F.1) h9 λ_ g=>
 Br (!F.2)
 (R (xH xN 8) g)
 (bi (σ:=Addr×Sl) (λf P=>
 ∃L:cW,an P f.1 0 L/\
 ae xR 42 #[L] aL P λab Q=>
 aU xR (qK 3 eL (.tuple #[])) Q λo ad=>
 ag xR (qf 3 o (xH xN (ab.len:Int))) ad λ_ U=>
 ae xR 52 #[a,f.2,(.func (.func 51) #[] #[o,j])] bK U λX G=>
 Br (!X)
 (R (xH xN 7) G)
 (ae xR 53 #[a,f.2,(.func (.func 51) #[] #[o,j])] bz G λM r=>
 Br (M !=0)
 (R M r)
 (bn r j λW=>
 ae xR 44 #[(.func (.func 35) #[a] #[]),W] bz r λH m=>
 Br (H !=0)
 (R H m)
 (∃v:cW,an m f.1 0 v/\
 ae xR 54 #[a,v,f.2] bz m λV Z=>
 R V Z))))
 (λK2=>
 ∃c,(a=dB c)/\
 ∃b:cW,an g c 0 b/\
 ∃d:jn,an g a4 0 d/\
 (ae xR 50 #[b,d] Eu g λt q=>
 (aA.ok [] q)/\
 (ae xR 25 #[a] aL q λl w=>
 (aA.ok [] w)/\
 aU xR (qK 44 eL (.tuple #[])) w λE u=>
 (aA.ok [] u)/\
 ag xR (qf 44 E t) u λ_ y=>
 (aA.ok [] y)/\
 K2 (E,(⟨l.ptr,l.len,l.cap⟩:Sl)) y)/\(aU xR (qK 44 eL (.tuple #[])) q λa22 N=>
 (aA.ok [] N)/\
 ae xR 25 #[a] aL N λp J=>
 (aA.ok [] J)/\
 ag xR (qf 44 a22 t) J λ_ B=>
 (aA.ok [] B)/\
 K2 (a22,(⟨p.ptr,p.len,p.cap⟩:Sl)) B))/\(aU xR (qK 44 eL (.tuple #[])) g λx O=>
 (aA.ok [(a4,d.1),(a4.add 1,d.2.1),(a4.add 2,d.2.2.1),(a4.add 3,d.2.2.2),(c,b.1),(c.add 1,b.2.1),(c.add 2,b.2.2.1),(c.add 3,b.2.2.2.1),(c.add 4,b.2.2.2.2.1),(c.add 5,b.2.2.2.2.2.1),(c.add 6,b.2.2.2.2.2.2.1),(c.add 7,b.2.2.2.2.2.2.2)] O)/\
 ae xR 50 #[b,d] Eu O λS I=>
 (aA.ok [] I)/\
 ae xR 25 #[a] aL I λn s=>
 (aA.ok [] s)/\
 ag xR (qf 44 x S) s λ_ D=>
 (aA.ok [] D)/\
 K2 (x,(⟨n.ptr,n.len,n.cap⟩:Sl)) D)))))
 (λK1=>
 ∃a5,(a=dB a5)/\
 ∃K:bJ,an h3 (a5.add 2) 0 K/\
 bf h3 (a4.add 1) λx7=>
 ∃a8,(a=dB a8)/\
 ∃x9:bJ,an h3 (a8.add 2) 0 x9/\
 ae xR 48 #[x9,(xH xN (k.len:Int))] bz h3 λT h4=>
 (aA.ok [(a4.add 1,x7),(a5.add 2,K.1),((a5.add 2).add 1,K.2.1),((a5.add 2).add 2,K.2.2)] h4)/\
 ae xR 47 #[K,x7,T] (.many [ci,jp]) h4 λi h5=>
 (aA.ok [] h5)/\
 K1 ((⟨i.1.ptr,i.1.len,i.1.cap⟩:Sl),i.2) h5))
theorem FW(b:aT)(a:ByteArray)(c:Sl)(d:@ur R h b a c):ac xR 10 #[b,a,c] h R:=au af func10 (al.tn (al.tn (al.tn (.two (.join [(9,ci),(10,jp)] [(9,11),(34,53)] .n) (al.tn (al.tn (al.tn (al.tn (.two (.join [(12,(.sc .adr)),(13,ci)] [(12,14),(66,74)] .n) .n))))))))) d
def oV(c:Int)(b:Int):Prop:=
 aM (σ:=Sl×Int) (λa f d=>
 Br (a.2<c)
 (((7:Int)≠0)/\
 (0<=(wB a.2 7))/\
 az xR (qq 34 1 #[(0,(xH xO (qc xO (qc xN ((qX b (2^min (wB a.2 7).toNat (qk xN)))+(qc xN (a.2*(qc xN ((qD (qk xN) b|||(qD (qk xN) (1:Int))).toNat:Nat)))))))))]) aL d λg e=>
 az xR (qt #[34,34] 34 #[a.1,g]) aL e λv3 h3=>
 f ((⟨v3.ptr,v3.len,v3.cap⟩:Sl),qc xN (a.2+1)) h3)
 (R a.1 d)) ((⟨eH,0,0⟩:Sl),(0:Int)) h
theorem AW(a:Int)(b:Int)(c:@oV R h a b):ac xR 11 #[a,b] h R:=au af func11 (al.tn (al.tn (.two (al.tn (.inn (.loop [(5,ci),(6,ba)] [(5,25)] .n))) .n))) c
def nJ(b:Int)(a:Int):Prop:=
 (a≠0)/\
 bi (σ:=Int) (λe d=>
 R e d)
 (λc=>
 Br ((wB b a)<0)
 (c (qc xN ((wB b a)+a)) h)
 (c (wB b a) h))
theorem uN(a:Int)(b:Int)(c:@nJ R h a b):ac xR 12 #[a,b] h R:=au af func12 (al.tn (al.tn (.two (.join [(0,ba)] [(0,1),(8,13)] .n) .n))) c
def mT(c:aT):Prop:=
 ae xR 55 #[c] bK h λo e=>
 Br o
 (R (xI eH 0 0) e)
 (∃k,(c=dB k)/\
 bn e (k.add 7) λx3=>
 aM (σ:=Sl×Int) (λb p d=>
 Br (b.2<(x3.len:Int))
 (aR x3 b.2 λa5=>
 ∃j:jn,an d (a5.add (b.2.toNat*4)) 0 j/\
 aU xR (qK 94 eL (.tuple #[])) d λi h3=>
 ag xR (qf 94 i j) h3 λ_ g=>
 td g i λm=>
 ae xR 56 #[m] (.one LY) g λr q=>
 az xR (qq 37 1 #[(0,r)]) aL q λf n=>
 az xR (qt #[37,37] 37 #[b.1,f]) aL n λa l=>
 p ((⟨a.ptr,a.len,a.cap⟩:Sl),qc xN (b.2+1)) l)
 (R b.1 d)) ((⟨eH,0,0⟩:Sl),(0:Int)) e)
theorem pQ(a:aT)(b:@mT R h a):ac xR 13 #[a] h R:=au af func13 (al.tn (al.tn (al.tn (.two (al.tn (.inn (.loop [(3,ci),(14,ba)] [(3,4),(5,6),(14,25)] .n))) .n)))) b
def kG(c:aT):Prop:=
 aU xR (qK 44 eL (.tuple #[])) h λd e=>
 Br (qW c)
 (ag xR (qf 44 d (xM #[(xH xN 0),(xH xN 0),(xH xN 0),(xH xN 0),(xH xN 0),(xH xN 0),(xI eH 0 0),(xI eH 0 0)])) e λ_ f=>
 ∃a:cW,an f d 0 a/\
 R a f)
 (∃a3,(c=dB a3)/\
 ∃g:cW,an e a3 0 g/\
 ae xR 61 #[g] Eu e λj h3=>
 ag xR (qf 44 d j) h3 λ_ i=>
 ∃b:cW,an i d 0 b/\
 R b i)
theorem mU(a:aT)(b:@kG R h a):ac xR 16 #[a] h R:=au af func16 .n b
def rD(d:aT)(a:Int)(b:Int):Prop:=
 ae xR 25 #[d] aL h λu z=>
 aM (σ:=Sl×Int) (λg D k=>
 Br (g.2<(u.len:Int))
 (aR u g.2 λa3=>
 bf k (a3.add (g.2.toNat*1)) λB=>
 az xR (qq 22 1 #[(0,B)]) aL k λv5 h3=>
 ∃w,(d=dB w)/\
 ∃v:cW,an h3 w 0 v/\
 ae xR 63 #[(.func (.func 35) #[d] #[]),v5,v,a,b] aL h3 λs x=>
 aM (σ:=Sl×Int) (λf A p=>
 Br (f.2<(s.len:Int))
 (aR s f.2 λl=>
 ∃j:Int×Sl,an p (l.add (f.2.toNat*2)) 0 j/\
 aU xR (qK 117 eL (.tuple #[])) p λi y=>
 ag xR (qf 117 i j) y λ_ t=>
 bf t i λn=>
 az xR (qq 22 1 #[(0,n)]) aL t λm h8=>
 az xR (qt #[22,22] 22 #[f.1,m]) aL h8 λc E=>
 A ((⟨c.ptr,c.len,c.cap⟩:Sl),qc xN (f.2+1)) E)
 (az xR (qq 51 1 #[(0,f.1)]) aL p λo q=>
 az xR (qt #[51,51] 51 #[g.1,o]) aL q λe r=>
 D ((⟨e.ptr,e.len,e.cap⟩:Sl),qc xN (g.2+1)) r)) ((⟨eH,0,0⟩:Sl),(0:Int)) x)
 (R g.1 k)) ((⟨eH,0,0⟩:Sl),(0:Int)) z
theorem CT(c:aT)(a:Int)(b:Int)(d:@rD R h c a b):ac xR 18 #[c,a,b] h R:=au af func18 (al.tn (al.tn (.two (al.tn (.inn (.loop [(7,ci),(16,ba)] [(7,8),(9,11),(12,13),(16,47)] (al.tn (al.tn (.two (.inn (al.tn (al.tn (.two (al.tn (.inn (.loop [(10,ci),(32,ba)] [(10,11),(12,13),(32,42)] .n))) .n)))) .n)))))) .n))) d
def Fm(d:bJ)(a:Int)(b:Sl):Prop:=
 aU xR (qO 24 d) h λc g=>
 ∃x2:bJ,an g c 0 x2/\
 ae xR 65 #[] jo g λj e=>
 (aA.ok [(c,x2.1),(c.add 1,x2.2.1),(c.add 2,x2.2.2)] e)/\
 ae xR 66 #[x2,(xH xP a),b] aL e λk h3=>
 (aA.ok [] h3)/\
 ae xR 64 #[j,k] bz h3 λi f=>
 (aA.ok [] f)/\
 R i f
theorem LZ(c:bJ)(a:Int)(b:Sl)(d:@Fm R h c a b):ac xR 20 #[c,(xH xP a),b] h R:=au af func20 .n d
def Ma(c:bJ):Prop:=
 aU xR (qO 24 c) h λb d=>
 ∃x2:bJ,an d b 0 x2/\
 ae xR 40 #[x2] bK d λf a=>
 Br (!f)
 (R (xH xN 0) a)
 (bf a b λe=>
 bf a (b.add 1) λg=>
 R (qc xN (e+g)) a)
theorem Tl(a:bJ)(b:@Ma R h a):ac xR 21 #[a] h R:=au af func21 .n b
def Fo(n:bJ)(c:Int)(a:Sl)(r:Int):Prop:=
 aU xR (qO 24 n) h λk z=>
 ∃x2:bJ,an z k 0 x2/\
 ae xR 40 #[x2] bK z λE u=>
 Br (!E)
 (R (.tuple #[(xI eH 0 0),eR,(xH xN 1)]) u)
 (ae xR 68 #[(xH xN (a.len:Int)),r] (.many [ci,ba]) u λl h3=>
 Br (l.2 !=0)
 (R (.tuple #[(xI eH 0 0),eR,l.2]) h3)
 (∃x:bJ,an h3 k 0 x/\
 ae xR 21 #[x] bz h3 λA B=>
 ae xR 65 #[] jo B λH I=>
 ae xR 69 #[H,A] jo I λw y=>
 ∃v:bJ,an y k 0 v/\
 ae xR 70 #[v] aL y λg D=>
 aM (σ:=Int) (λb G h8=>
 Br (b<(g.len:Int))
 (aR g b λq=>
 bn h8 (q.add (b.toNat*1)) λp=>
 ae xR 71 #[w,p] bK h8 λ_ J=>
 G (qc xN (b+1)) J)
 (∃j:bJ,an h8 k 0 j/\
 ae xR 72 #[j,(xH xP c),a] aL h8 λo t=>
 aM (σ:=Int) (λd F e=>
 Br (d<(l.1.len:Int))
 (aR l.1 d λs=>
 bn e (s.add (d.toNat*1)) λi=>
 ae xR 73 #[w,o,i,A] bK e λm f=>
 Br (!m)
 (R (.tuple #[i,eL,(xH xN 0)]) f)
 (F (qc xN (d+1)) f))
 (R (.tuple #[(xI eH 0 0),eR,(xH xN 0)]) e)) (0:Int) t)) (0:Int) D))
theorem Mb(d:bJ)(b:Int)(a:Sl)(c:Int)(e:@Fo R h d b a c):ac xR 23 #[d,(xH xP b),a,c] h R:=au af func23 (al.tn (al.tn (al.tn (al.tn (al.tn (al.tn (.two (al.tn (.inn (.loop [(40,ba)] [(15,16),(40,48)] .n))) (al.tn (.two (al.tn (.inn (.loop [(54,ba)] [(8,11),(18,19),(54,66)] .n))) .n))))))))) e
def nY(V:Sl)(F:Sl)(g:Int):Prop:=
 ae xR 7 #[V] (.many [(.agg [(.int .i64),(.int .i64),(.int .i64)]),ba,ci]) h λl h1=>
 aU xR (qK 24 eL (.tuple #[])) h1 λn h2=>
 ag xR (qf 24 n l.1) h2 λ_ h3=>
 aM (σ:=Int) (λm K1 u=>
 Br (m<(l.2.2.len:Int))
 (aR l.2.2 m λa4=>
 bf u (a4.add (m.toNat*1)) λx5=>
 aR l.2.2 m λa6=>
 ag xR (qf 3 (a6.add (m.toNat*1)) (qc xN (60+x5))) u λ_ h5=>
 K1 (qc xN (m+1)) h5)
 (bi (σ:=aT×Int) (λd h8=>
 bi (σ:=Unit) (λ_ Y=>
 ∃t:bJ,an Y n 0 t/\
 ae xR 74 #[t,F,g,eR] aL Y λo U=>
 aM (σ:=Int) (λc i k=>
 Br (c<(o.len:Int))
 (aR o c λK=>
 ∃q:CR,an k (K.add (c.toNat*9)) 0 q/\
 aU xR (qK 135 eL (.tuple #[])) k λb A=>
 ag xR (qf 135 b q) A λ_ a=>
 bf a b λe=>
 Br (e==1)
 (td a (b.add 1) λE=>
 bn a (b.add 2) λS=>
 ae xR 10 #[d.1,E,S] bz a λ_ D=>
 i (qc xN (c+1)) D)
 (Br (e==3)
 (td a (b.add 1) λI=>
 ae xR 75 #[d.1,I] bz a λ_ P=>
 i (qc xN (c+1)) P)
 (Br (e==11)
 (bf a (b.add 3) λx=>
 ae xR 35 #[d.1,x] jo a λp s=>
 bf s (b.add 4) λv=>
 ae xR 77 #[p,v] aL s λy J=>
 ae xR 76 #[y] (.many [ba,ci,jp]) J λO f=>
 Br O.2.2
 (bf f (b.add 4) λQ=>
 bf f (b.add 5) λN=>
 gF .u32 f (b.add 6) λz=>
 ae xR 78 #[p,Q,N,(xH xP z)] bK f λ_ L=>
 i (qc xN (c+1)) L)
 (i (qc xN (c+1)) f))
 (Br (e==6)
 (bf a (b.add 3) λG=>
 bf a (b.add 4) λH=>
 ae xR 79 #[d.1,G,(qc xN (H+40))] bz a λ_ w=>
 i (qc xN (c+1)) w)
 (Br (e==9)
 (ae xR 25 #[d.1] aL a λB j=>
 Br ((B.len:Int)>1)
 (bf j (b.add 3) λM=>
 ae xR 28 #[d.1,M] bz j λ_ T=>
 i (qc xN (c+1)) T)
 (i (qc xN (c+1)) j))
 (i (qc xN (c+1)) a))))))
 (R d.1 k)) (0:Int) U)
 (λK3=>
 Br (d.2 !=0) (R (xJ eH) h8) (Br (qW d.1)
 (R (xJ eH) h8)
 (K3 () h8))))
 (λK2=>
 ∃r:bJ,an u n 0 r/\
 ae xR 9 #[] jo u λr8 X=>
 (aA.ok [(n,r.1),(n.add 1,r.2.1),(n.add 2,r.2.2)] X)/\
 ae xR 8 #[r,l.2.1,r8,l.2.2] (.many [LX,ba]) X λZ W=>
 (aA.ok [] W)/\
 K2 (Z.1,Z.2) W))) (0:Int) h3
theorem Ak(b:Sl)(c:Sl)(a:Int)(d:@nY R h b c a):ac xR 24 #[b,c,a] h R:=au af func24 (al.tn (al.tn (.two (al.tn (.inn (.loop [(27,ba)] [(10,11),(27,39)] .n))) (.two (.join [(11,LX),(12,ba)] [(11,13),(39,47)] .n) (.two (.join [] [(6,7),(47,53)] .n) (.two (al.tn (.inn (.loop [(58,ba)] [(14,19),(58,122)] .n))) .n)))))) d
def te(a:aT):Prop:=
 Br (qW a)
 (R (xI eH 0 0) h)
 (∃b,(a=dB b)/\
 bn h (b.add 6) λx2=>
 ae xR 80 #[(.func (.func 35) #[a] #[]),x2] aL h λd c=>
 R d c)
theorem Ev(a:aT)(b:@te R h a):ac xR 25 #[a] h R:=au af func25 .n b
def Fp(f:aT)(e:Int):Prop:=
 ae xR 81 #[f] bK h λN I=>
 Br N
 (R (.tuple #[eR,(xH xN 14)]) I)
 (ae xR 25 #[f] aL I λG E=>
 bi (σ:=Unit) (λ_ T=>
 ae xR 16 #[f] Eu T λV M=>
 aU xR (qK 44 eL (.tuple #[])) M λg L=>
 ag xR (qf 44 g V) L λ_ h8=>
 bn h8 (g.add 7) λH=>
 aM (σ:=Int) (λs O D=>
 Br (s<(H.len:Int))
 (aR H s λu=>
 ∃q:jn,an D (u.add (s.toNat*4)) 0 q/\
 aU xR (qK 94 eL (.tuple #[])) D λd B=>
 ag xR (qf 94 d q) B λ_ r=>
 bn r (d.add 3) λo=>
 aM (σ:=Int) (λc K b=>
 Br (c<(o.len:Int))
 (aR o c λz=>
 bf b (z.add (c.toNat*1)) λA=>
 bi (σ:=Bool×Int) (λn i=>
 Br n.1 (R (.tuple #[eR,(xH xN 0)]) i) (Br (n.2 !=0)
 (R (.tuple #[eR,(xH xN 0)]) i)
 (K (qc xN (c+1)) i)))
 (λQ=>
 ∃a:bJ,an b (g.add 2) 0 a/\
 bf b (d.add 1) λw=>
 bf b (d.add 1) λm=>
 ae xR 62 #[w,c,A] (.one (.sc (.int .u32))) b λv j=>
 (aA.ok [(d.add 1,m),(g.add 2,a.1),((g.add 2).add 1,a.2.1),((g.add 2).add 2,a.2.2)] j)/\
 ae xR 18 #[f,m,c] aL j λt l=>
 (aA.ok [(g.add 2,a.1),((g.add 2).add 1,a.2.1),((g.add 2).add 2,a.2.2)] l)/\
 ae xR 23 #[a,(xH xP v),t,e] (.many [ci,jp,ba]) l λk p=>
 (aA.ok [] p)/\
 Q (k.2.1,k.2.2) p))
 (O (qc xN (s+1)) b)) (0:Int) r)
 (ae xR 82 #[f,e] bK D λx y=>
 R (.tuple #[x,(xH xN 0)]) y)) (0:Int) h8)
 (λS=>
 bi (σ:=Bool) (λP h3=>
 Br P
 (R (.tuple #[eR,(xH xN 1)]) h3)
 (ae xR 58 #[(xH xN (G.len:Int)),e] bz h3 λU F=>
 Br (U>4096)
 (R (.tuple #[eR,(xH xN 13)]) F)
 (S () F)))
 (λJ=>
 Br (e<0) (J eL E) (J (decide (e>=(G.len:Int))) E))))
theorem Mc(a:aT)(b:Int)(c:@Fp R h a b):ac xR 26 #[a,b] h R:=au af func26 (al.tn (al.tn (al.tn (.two (.join [] [(4,6),(20,33)] (.inn (.two (.join [(20,jp)] [(20,28)] .n) .n))) (al.tn (.two (al.tn (.inn (.loop [(38,ba)] [(4,6),(9,15),(38,75)] (al.tn (al.tn (.two (.inn (al.tn (al.tn (.inn (.loop [(45,ba)] [(4,6),(10,15),(45,74)] (al.tn (al.tn (.two (.inn (al.tn (.two (.join [(13,jp),(14,ba)] [(12,15),(50,68)] .n) .n))) .n)))))))) .n)))))) .n)))))) c
def nK:Prop:=
 ae xR 9 #[] jo h λe g=>
 az xR (qq 22 1 #[(0,(xH xN 5))]) aL g λj d=>
 ae xR 8 #[(xM #[(xH xN 1),(xH xN 1),(xH xN 1)]),(xH xN 0),e,j] (.many [LX,ba]) d λb h3=>
 ae xR 26 #[b.1,(xH xN 0)] (.many [jp,ba]) h3 λc a=>
 Br (b.2==0) (Br (c.2==0) (Br c.1 (ae xR 30 #[b.1] aL a λf i=>
 R (xL ((f.len:Int)==0)) i) (R eR a)) (R eR a)) (R eR a)
theorem uO(a:@nK R h):ac xR 27 #[] h R:=au af func27 .n a
def Al(b:aT)(a:Int):Prop:=
 ae xR 83 #[b] bK h λe c=>
 Br e
 (R (xH xN 14) c)
 (ae xR 25 #[b] aL c λi d=>
 ae xR 84 #[i,a] bK d λj h3=>
 Br (!j)
 (R (xH xN 5) h3)
 (ae xR 35 #[b,a] jo h3 λk f=>
 ae xR 85 #[k] hJ f λ_ g=>
 R (xH xN 0) g))
theorem CU(b:aT)(a:Int)(c:@Al R h b a):ac xR 28 #[b,a] h R:=au af func28 .n c
def lm(a:Sl)(d:Sl):Prop:=
 Br ((a.len:Int) !=(d.len:Int))
 (R eR h)
 (aM (σ:=Int) (λb e c=>
 Br (b<(a.len:Int))
 (aR a b λf=>
 td c (f.add (b.toNat*1)) λx3=>
 aR d b λa4=>
 td c (a4.add (b.toNat*1)) λg=>
 Br (!(x3.toList==g.toList))
 (R eR c)
 (e (qc xN (b+1)) c))
 (R eL c)) (0:Int) h)
theorem pR(a:Sl)(b:Sl)(c:@lm R h a b):ac xR 29 #[a,b] h R:=au af func29 (al.tn (al.tn (.two (al.tn (.inn (.loop [(13,ba)] [(4,6),(13,26)] .n))) .n))) c
def ue(c:aT):Prop:=
 aU xR (qO 27 c) h λb d=>
 jI d b λx2=>
 ae xR 81 #[x2] bK d λi a=>
 Br i
 (R (xI eH 0 0) a)
 (jI a b λf=>
 ae xR 13 #[f] aL a λe h3=>
 ae xR 86 #[e,(.func (.func 87) #[] #[b])] aL h3 λj g=>
 R j g)
theorem BH(a:aT)(b:@ue R h a):ac xR 30 #[a] h R:=au af func30 .n b
def ut(c:aT)(g:ByteArray):Prop:=
 ae xR 55 #[c] bK h λS M=>
 Br S
 (R (.tuple #[(xI eH 0 0),(xH xN 14)]) M)
 (ae xR 91 #[c,g] bz M λy I=>
 Br (y<0)
 (R (.tuple #[(xI eH 0 0),(xH xN 5)]) I)
 (ae xR 92 #[c] bK I λQ h3=>
 Br (!Q)
 (R (.tuple #[(xI eH 0 0),(xH xN 11)]) h3)
 (∃a4,(c=dB a4)/\
 bn h3 (a4.add 7) λP=>
 aR P y λW=>
 ∃L:jn,an h3 (W.add (y.toNat*4)) 0 L/\
 aU xR (qK 94 eL (.tuple #[])) h3 λm O=>
 ag xR (qf 94 m L) O λ_ N=>
 bn N (m.add 3) λJ=>
 aM (σ:=Sl×Int) (λd V l=>
 Br (d.2<(J.len:Int))
 (aR J d.2 λx=>
 bf l (x.add (d.2.toNat*1)) λH=>
 bi (σ:=Sl) (λD G=>
 bi (σ:=Sl×Int) (λp n=>
 Br (p.2 !=0)
 (R (.tuple #[(xI eH 0 0),(xH xN 11)]) n)
 (az xR (qq 85 1 #[(0,p.1)]) aL n λv25 v=>
 az xR (qt #[85,85] 85 #[d.1,v25]) aL v λk A=>
 V ((⟨k.ptr,k.len,k.cap⟩:Sl),qc xN (d.2+1)) A))
 (λT=>
 ∃f,(c=dB f)/\
 ∃e:bJ,an G (f.add 2) 0 e/\
 bf G (m.add 1) λw=>
 ae xR 62 #[w,d.2,H] (.one (.sc (.int .u32))) G λz s=>
 (aA.ok [(f.add 2,e.1),((f.add 2).add 1,e.2.1),((f.add 2).add 2,e.2.2)] s)/\
 ae xR 93 #[e,(xH xP z),D] (.many [ci,ba]) s λi u=>
 (aA.ok [] u)/\
 T ((⟨i.1.ptr,i.1.len,i.1.cap⟩:Sl),i.2) u))
 (λU=>
 ∃a,(c=dB a)/\
 ∃b:cW,an l a 0 b/\
 bf l (m.add 1) λo=>
 ae xR 25 #[c] aL l λB K=>
 (aA.ok [(m.add 1,o),(a,b.1),(a.add 1,b.2.1),(a.add 2,b.2.2.1),(a.add 3,b.2.2.2.1),(a.add 4,b.2.2.2.2.1),(a.add 5,b.2.2.2.2.2.1),(a.add 6,b.2.2.2.2.2.2.1),(a.add 7,b.2.2.2.2.2.2.2)] K)/\
 ae xR 63 #[(.func (.func 35) #[c] #[]),B,b,o,d.2] aL K λj h8=>
 (aA.ok [] h8)/\
 U (⟨j.ptr,j.len,j.cap⟩:Sl) h8))
 (∃t,(c=dB t)/\
 ∃q:bJ,an l (t.add 2) 0 q/\
 bf l (m.add 2) λF=>
 ae xR 94 #[q,d.1,F] (.many [ci,jp]) l λE r=>
 (aA.ok [] r)/\
 R (.tuple #[E.1,(xH xN 0)]) r)) ((⟨eH,0,0⟩:Sl),(0:Int)) N)))
theorem FX(b:aT)(a:ByteArray)(c:@ut R h b a):ac xR 32 #[b,a] h R:=au af func32 (al.tn (al.tn (al.tn (al.tn (al.tn (al.tn (al.tn (.two (al.tn (.inn (.loop [(8,ci),(37,ba)] [(4,6),(8,14),(37,76)] (al.tn (al.tn (.two (.inn (al.tn (.two (.join [(11,ci)] [(11,12),(42,54)] .n) (.two (.join [(12,ci),(13,ba)] [(12,14),(54,69)] .n) .n)))) .n)))))) .n)))))))) c
def He(d:aT)(f:cW):Prop:=
 aU xR (qO 44 f) h λj k=>
 ∃x2:cW,an k j 0 x2/\
 ae xR 95 #[x2] bK k λp g=>
 Br (!p)
 (R eR g)
 (ae xR 96 #[d] aL g λt h3=>
 ∃i:cW,an h3 j 0 i/\
 ae xR 42 #[i] aL h3 λl n=>
 aM (σ:=Int) (λb r e=>
 Br (b<(l.len:Int))
 (aR l b λs=>
 bn e (s.add (b.toNat*1)) λm=>
 aU xR (qK 34 eL (.tuple #[])) e λa q=>
 ag xR (qf 34 a m) q λ_ o=>
 ae xR 97 #[t,(.func (.func 98) #[] #[a])] bK o λc h8=>
 Br (!c)
 (R eR h8)
 (r (qc xN (b+1)) h8))
 (R eL e)) (0:Int) n)
theorem Ow(a:aT)(b:cW)(c:@He R h a b):ac xR 34 #[a,b] h R:=au af func34 (al.tn (al.tn (al.tn (.two (al.tn (.inn (.loop [(16,ba)] [(4,5),(7,8),(16,25)] .n))) .n)))) c
def rE(b:aT)(a:Int):Prop:=
 bi (σ:=Unit) (λ_ d=>
 ∃c,(b=dB c)/\
 (0<=a/\a<((64:Nat):Int))/\
 jI d ((c.add 10).add (a.toNat*1)) λx3=>
 R x3 d)
 (λe=>
 Br (qW b) (R (xJ eH) h) (Br (a<0) (R (xJ eH) h) (Br (a>=64)
 (R (xJ eH) h)
 (e () h))))
theorem CV(b:aT)(a:Int)(c:@rE R h b a):ac xR 35 #[b,a] h R:=au af func35 (al.tn (.two (.join [] [(4,15)] .n) .n)) c
def nZ(c:Int)(d:Int)(b:Int):Prop:=
 aU xR (qK 24 eL (.tuple #[])) h λe j=>
 ae xR 12 #[c,(xH xN 6)] bz j λk g=>
 ae xR 12 #[d,(xH xN 3)] bz g λl h3=>
 ae xR 12 #[b,(xH xN 9)] bz h3 λm i=>
 ag xR (qf 24 e (xM #[(qc xN (1+k)),(qc xN (1+l)),(qc xN (1+m))])) i λ_ f=>
 ∃a:bJ,an f e 0 a/\
 R a f
theorem Am(a:Int)(c:Int)(b:Int)(d:@nZ R h a c b):ac xR 37 #[a,c,b] h R:=au af func37 .n d
def pS(b:Sl)(a:Int):Prop:=
 Br (a<(b.len:Int))
 (aR b a λc=>
 bf h (c.add (a.toNat*1)) λx2=>
 R x2 h)
 (R (xH xN 0) h)
theorem Cn(a:Sl)(b:Int)(c:@pS R h a b):ac xR 38 #[a,b] h R:=au af func38 .n c
def CW(a:Sl):Prop:=
 aM (σ:=Sl×Int) (λb f c=>
 Br (b.2<(a.len:Int))
 (aR a b.2 λi=>
 bf c (i.add (b.2.toNat*1)) λx3=>
 bi (σ:=Unit) (λ_ e=>
 Br (x3>0)
 (az xR (qq 22 1 #[(0,b.2)]) aL e λv5 h3=>
 az xR (qt #[22,22] 22 #[b.1,v5]) aL h3 λd j=>
 f ((⟨d.ptr,d.len,d.cap⟩:Sl),qc xN (b.2+1)) j)
 (f ((⟨b.1.ptr,b.1.len,b.1.cap⟩:Sl),qc xN (b.2+1)) e))
 (λg=>
 Br (x3<0) (R (.tuple #[(xI eH 0 0),eR]) c) (Br (x3>512)
 (R (.tuple #[(xI eH 0 0),eR]) c)
 (g () c))))
 (Br ((a.len:Int)<=64) (R (.tuple #[b.1,(decide ((b.1.len:Int)>0))]) c) (R (.tuple #[b.1,eR]) c))) ((⟨eH,0,0⟩:Sl),(0:Int)) h
theorem KL(a:Sl)(b:@CW R h a):ac xR 39 #[a] h R:=au af func39 (al.tn (al.tn (.two (al.tn (.inn (.loop [(4,ci),(9,ba)] [(2,7),(9,27)] (al.tn (al.tn (.two (.inn (al.tn (.two (.join [] [(2,4),(14,20)] .n) .n))) .n)))))) .n))) b
def PS(c:bJ):Prop:=
 aU xR (qO 24 c) h λb a=>
 bf a b λx2=>
 Br (x2>=1) (bf a b λx3=>
 Br (x3<=16) (bf a (b.add 1) λe=>
 Br (e>=1) (bf a (b.add 1) λf=>
 Br (f<=4) (bf a (b.add 2) λg=>
 Br (g>=1) (bf a (b.add 2) λd=>
 R (decide (d<=24)) a) (R eR a)) (R eR a)) (R eR a)) (R eR a)) (R eR a)
theorem VA(a:bJ)(b:@PS R h a):ac xR 40 #[a] h R:=au af func40 .n b
def tf(a:aT):Prop:=
 Br (qW a)
 (R (xH xN 0) h)
 (∃b,(a=dB b)/\
 bf h (b.add 3) λx2=>
 R x2 h)
theorem Ew(a:aT)(b:@tf R h a):ac xR 41 #[a] h R:=au af func41 .n b
def Hg(c:cW):Prop:=
 aU xR (qO 44 c) h λg i=>
 ∃x2:cW,an i g 0 x2/\
 ae xR 100 #[x2] aL i λb k=>
 ((48:Int)≠0)/\
 aM (σ:=Sl×Int) (λa l h3=>
 Br (decide (a.2<(qc xN (wH (qc xN ((qc xN ((b.len:Int)+48))-1)) 48))))
 (bf h3 g λn=>
 (0<=(qc xN (a.2*48))/\(qc xN (a.2*48))<=(if(qc xN ((qc xN (a.2+1))*48))<(b.len:Int)then qc xN ((qc xN (a.2+1))*48)else(b.len:Int))/\(if(qc xN ((qc xN (a.2+1))*48))<(b.len:Int)then qc xN ((qc xN (a.2+1))*48)else(b.len:Int))<=(b.cap:Int))/\
 ae xR 101 #[n,a.2,(qc xN (wH (qc xN ((qc xN ((b.len:Int)+48))-1)) 48)),(.slice (if b.cap=(qc xN (a.2*48)).toNat then b.ptr else b.ptr.map (·.add ((qc xN (a.2*48)).toNat*1))) ((if(qc xN ((qc xN (a.2+1))*48))<(b.len:Int)then qc xN ((qc xN (a.2+1))*48)else(b.len:Int)).toNat-(qc xN (a.2*48)).toNat) (b.cap-(qc xN (a.2*48)).toNat))] aL h3 λo f=>
 (aA.ok [] f)/\
 az xR (qq 85 1 #[(0,o)]) aL f λm j=>
 (aA.ok [] j)/\
 az xR (qt #[85,85] 85 #[a.1,m]) aL j λd e=>
 (aA.ok [] e)/\
 l ((⟨d.ptr,d.len,d.cap⟩:Sl),qc xN (a.2+1)) e)
 (R a.1 h3)) ((⟨eH,0,0⟩:Sl),(0:Int)) k
theorem Ox(a:cW)(b:@Hg R h a):ac xR 42 #[a] h R:=au af func42 (al.tn (al.tn (al.tn (al.tn (.two (al.tn (.inn (.loop [(5,ci),(16,ba)] [(5,8),(16,39)] .n))) .n))))) b
def JH(a:Int)(b:aT):Prop:=
 bi (σ:=Unit) (λ_ f=>
 aU xR (qO 156 (xM #[b,a,(xI eH 0 0),(xH xN 0),(xI eH 0 0),eR,eR])) f λe c=>
 R e c)
 (λd=>
 Br (a<1) (R (xJ eH) h) (Br (a>512) (R (xJ eH) h) (Br (qW b)
 (R (xJ eH) h)
 (d () h))))
theorem QQ(a:Int)(b:aT)(c:@JH R h a b):ac xR 43 #[a,b] h R:=au af func43 (al.tn (.two (.join [] [(4,15)] .n) .n)) c
def PT(a:cI)(d:Sl):Prop:=
 aM (σ:=Sl×Int) (λc v f=>
 Br (c.2<(d.len:Int))
 (aR d c.2 λw=>
 ∃x3:Int×Sl,an f (w.add (c.2.toNat*2)) 0 x3/\
 aU xR (qK 101 eL (.tuple #[])) f λa4 q=>
 ag xR (qf 101 a4 x3) q λ_ h3=>
 bi (σ:=Unit) (λ_ m=>
 bf m a4 λi=>
 az xR (qq 22 1 #[(0,i)]) aL m λg h8=>
 az xR (qt #[22,22] 22 #[c.1,g]) aL h8 λb y=>
 v ((⟨b.ptr,b.len,b.cap⟩:Sl),qc xN (c.2+1)) y)
 (λu=>
 bi (σ:=Int) (λk n=>
 Br (k !=0)
 (R k n)
 (u () n))
 (λt=>
 bf h3 a4 λr=>
 bn h3 (a4.add 1) λo=>
 ia C a.1 (a.2.1.toList++[(xH xN r)]++a.2.2.toList) jo h3 λx l=>
 (aA.ok [(a4.add 1,o)] l)/\
 ae xR 102 #[x,o] bz l λs p=>
 (aA.ok [] p)/\
 t s p)))
 (ae xR 103 #[(.func (.func a.1) a.2.1 a.2.2),c.1] bz f λe j=>
 R e j)) ((⟨eH,0,0⟩:Sl),(0:Int)) h
theorem VB(a:cI)(b:Sl)(c:@PT R h a b):ac xR 44 #[(.func (.func a.1) a.2.1 a.2.2),b] h R:=au af func44 (al.tn (al.tn (.two (al.tn (.inn (.loop [(5,ci),(11,ba)] [(4,6),(7,9),(11,31)] (al.tn (al.tn (.two (.inn (al.tn (.two (.join [] [(4,5),(8,9),(15,25)] (.two (.join [(8,ba)] [(8,9),(15,22)] .n) .n)) .n))) .n)))))) .n))) c
def JI(e:cW)(a:Sl):Prop:=
 aU xR (qO 44 e) h λn j=>
 ∃x2:cW,an j n 0 x2/\
 ae xR 42 #[x2] aL j λi k=>
 aM (σ:=Sl×Int) (λc q h3=>
 Br (c.2<(a.len:Int))
 (aR a c.2 λa5=>
 bf h3 (a5.add (c.2.toNat*1)) λo=>
 aM (σ:=Sl×Int) (λb p f=>
 Br (b.2<(i.len:Int))
 (aR i b.2 λs=>
 bn f (s.add (b.2.toNat*1)) λl=>
 az xR (qq 89 1 #[(0,(xM #[o,l]))]) aL f λg r=>
 az xR (qt #[89,89] 89 #[b.1,g]) aL r λd m=>
 p ((⟨d.ptr,d.len,d.cap⟩:Sl),qc xN (b.2+1)) m)
 (q ((⟨b.1.ptr,b.1.len,b.1.cap⟩:Sl),qc xN (c.2+1)) f)) ((⟨c.1.ptr,c.1.len,c.1.cap⟩:Sl),(0:Int)) h3)
 (R c.1 h3)) ((⟨eH,0,0⟩:Sl),(0:Int)) k
theorem QR(b:cW)(a:Sl)(c:@JI R h b a):ac xR 45 #[b,a] h R:=au af func45 (al.tn (al.tn (al.tn (.two (al.tn (.inn (.loop [(6,ci),(15,ba)] [(6,7),(8,9),(10,11),(15,33)] (al.tn (al.tn (.two (.inn (al.tn (al.tn (.inn (.loop [(6,ci),(21,ba)] [(6,7),(10,11),(21,32)] .n))))) .n)))))) .n)))) c
def oW(a:aT)(b:ByteArray)(k:Sl):Prop:=
 ae xR 55 #[a] bK h λv n=>
 Br v
 (R (xH xN 14) n)
 (ae xR 104 #[b] bK n λs l=>
 Br (!s)
 (R (xH xN 3) l)
 (ae xR 91 #[a,b] bz l λu h3=>
 Br (u>=0)
 (R (xH xN 4) h3)
 (bi (σ:=Bool) (λj m=>
 Br j
 (R (xH xN 6) m)
 (ae xR 25 #[a] aL m λf c=>
 Br ((f.len:Int)==0) (R (xH xN 7) c) (∃e,(a=dB e)/\
 bf c (e.add 1) λg=>
 Br (g>16777215) (R (xH xN 7) c) (∃d,(a=dB d)/\
 bf c d λi=>
 Br (i>=2147483647)
 (R (xH xN 7) c)
 (R (xH xN 0) c)))))
 (λo=>
 ∃a4,(a=dB a4)/\
 bf h3 (a4.add 2) λt=>
 ∃p,(a=dB p)/\
 bf h3 ((p.add 2).add 2) λw=>
 Br (decide ((k.len:Int)>(qc xN ((qc xN (t*w))*8)))) (o eL h3) (∃q,(a=dB q)/\
 bn h3 (q.add 7) λr=>
 o (decide ((r.len:Int)>=12)) h3)))))
theorem AX(b:aT)(a:ByteArray)(c:Sl)(d:@oW R h b a c):ac xR 46 #[b,a,c] h R:=au af func46 (al.tn (.two (.inn (al.tn (al.tn (al.tn (al.tn (al.tn (al.tn (.two (.join [(19,jp)] [(19,46)] .n) .n)))))))) .n)) d
def Fq(f:bJ)(a:Int)(b:Int):Prop:=
 aU xR (qO 24 f) h λk l=>
 aM (σ:=Sl×Int) (λc i d=>
 Br (c.2<b)
 (∃x3:bJ,an d k 0 x3/\
 ae xR 105 #[x3,a,c.2] (.many [ba,jp]) d λg h3=>
 Br (!g.2)
 (R (.tuple #[(xI eH 0 0),eR]) h3)
 (az xR (qq 22 1 #[(0,g.1)]) aL h3 λv5 j=>
 az xR (qt #[22,22] 22 #[c.1,v5]) aL j λe m=>
 i ((⟨e.ptr,e.len,e.cap⟩:Sl),qc xN (c.2+1)) m))
 (R (.tuple #[c.1,eL]) d)) ((⟨eH,0,0⟩:Sl),(0:Int)) l
theorem Md(c:bJ)(a:Int)(b:Int)(d:@Fq R h c a b):ac xR 47 #[c,a,b] h R:=au af func47 (al.tn (al.tn (.two (al.tn (.inn (.loop [(8,ci),(13,ba)] [(6,12),(13,30)] .n))) .n))) d
def Fs(c:bJ)(a:Int):Prop:=
 aU xR (qO 24 c) h λd e=>
 bi (σ:=Unit) (λ_ h3=>
 ∃f:bJ,an h3 d 0 f/\
 ae xR 106 #[f] bz h3 λg j=>
 (g≠0)/\
 R (qc xN ((qc xN (wH (qc xN (a-1)) g))+1)) j)
 (λi=>
 ∃x2:bJ,an e d 0 x2/\
 ae xR 40 #[x2] bK e λk b=>
 Br (!k) (R (xH xN 0) b) (Br (a<=0)
 (R (xH xN 0) b)
 (i () b)))
theorem Me(a:bJ)(b:Int)(c:@Fs R h a b):ac xR 48 #[a,b] h R:=au af func48 (al.tn (.two (.join [] [(4,12)] .n) .n)) c
end
end Go.Qw
