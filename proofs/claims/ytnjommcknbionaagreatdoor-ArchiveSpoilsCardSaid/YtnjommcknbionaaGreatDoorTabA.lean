/- Lemmas for the proof of the law; no condition. -/
import Derived.Test.YtnjommcknbionaaGreatDoorPlA
import Derived.Test.YtnjommcknbionaaGreatDoorProg
set_option linter.unusedVariables false
open Go.Proofs.Tryz renaming prog -> vV
open Go.Value renaming agg -> vQ, bool -> vP, int -> vL, pointer -> vN, slice -> vM, string -> vO
open Go.IntKind renaming bits -> qf, i64 -> vR, u32 -> vT, u64 -> vU, u8 -> vS, wrap -> qc
open List renaming replicate -> qi, toArray -> wO
open Go.Instr renaming alloc -> qJ, box -> qI, build -> yC, buildSlice -> qu, storeAt -> qe
open Go.Builtin renaming append_ -> qx
open BitVec renaming ofInt -> qq
open Int renaming tdiv -> wQ, tmod -> zQ
open Option renaming isNone -> qS
open Go.Proofs.Tryz
set_option maxRecDepth 1000000
namespace Go.Qw
noncomputable section
open Go Go.Vc Go.Proofs
instance:Coe Int Value:=⟨fun x=>vL vR x⟩
instance:Coe Sl Value:=⟨fun s=>vM s.ptr s.len s.cap⟩
instance:Coe ByteArray Value:=⟨.string⟩
instance:Coe (Option Addr) Value:=⟨.pointer⟩
instance:Coe Addr Value:=⟨fun a=>vN (some a)⟩
instance:Coe Bool Value:=⟨.bool⟩
instance:Coe (Int×Int×Int) (List Value):=⟨fun x=>[x.1,x.2.1,x.2.2]⟩
instance:Coe (Int×Int×Int) Value:=⟨fun x=>vQ (wO x)⟩
instance:Coe (Int×Sl×Sl×Int×Int×Int×Sl×Int) (List Value):=⟨fun x=>[x.1,x.2.1,x.2.2.1,x.2.2.2.1,x.2.2.2.2.1,x.2.2.2.2.2.1,x.2.2.2.2.2.2.1,x.2.2.2.2.2.2.2]⟩
instance:Coe (Int×Sl×Sl×Int×Int×Int×Sl×Int) Value:=⟨fun x=>vQ (wO x)⟩
instance:Coe (Int×Int×Int×Int×Int×Int×Int×Sl) (List Value):=⟨fun x=>[x.1,x.2.1,x.2.2.1,x.2.2.2.1,x.2.2.2.2.1,x.2.2.2.2.2.1,(vL vT x.2.2.2.2.2.2.1),x.2.2.2.2.2.2.2]⟩
instance:Coe (Int×Int×Int×Int×Int×Int×Int×Sl) Value:=⟨fun x=>vQ (wO x)⟩
instance:Coe (Int×ByteArray×Sl×Int×Int×Int×Int×Sl×Sl) (List Value):=⟨fun x=>[x.1,x.2.1,x.2.2.1,x.2.2.2.1,x.2.2.2.2.1,x.2.2.2.2.2.1,(vL vT x.2.2.2.2.2.2.1),x.2.2.2.2.2.2.2.1,x.2.2.2.2.2.2.2.2]⟩
instance:Coe (Int×ByteArray×Sl×Int×Int×Int×Int×Sl×Sl) Value:=⟨fun x=>vQ (wO x)⟩
instance:Coe (Int×Int×Int×Int×Int×Int×Sl×Sl) (List Value):=⟨fun x=>[x.1,x.2.1,x.2.2.1,x.2.2.2.1,x.2.2.2.2.1,x.2.2.2.2.2.1,x.2.2.2.2.2.2.1,x.2.2.2.2.2.2.2]⟩
instance:Coe (Int×Int×Int×Int×Int×Int×Sl×Sl) Value:=⟨fun x=>vQ (wO x)⟩
instance:Coe (Int×Int×Int×Sl) (List Value):=⟨fun x=>[x.1,x.2.1,x.2.2.1,x.2.2.2]⟩
instance:Coe (Int×Int×Int×Sl) Value:=⟨fun x=>vQ (wO x)⟩
instance:Coe (ByteArray×Int×Int×Sl) (List Value):=⟨fun x=>[x.1,x.2.1,x.2.2.1,x.2.2.2]⟩
instance:Coe (ByteArray×Int×Int×Sl) Value:=⟨fun x=>vQ (wO x)⟩
instance:Coe (Int×Sl) (List Value):=⟨fun x=>[x.1,x.2]⟩
instance:Coe (Int×Sl) Value:=⟨fun x=>vQ (wO x)⟩
instance:Coe (Sl×Sl) (List Value):=⟨fun x=>[x.1,x.2]⟩
instance:Coe (Sl×Sl) Value:=⟨fun x=>vQ (wO x)⟩
instance:Coe (Sl×Sl×Sl) (List Value):=⟨fun x=>[x.1,x.2.1,x.2.2]⟩
instance:Coe (Sl×Sl×Sl) Value:=⟨fun x=>vQ (wO x)⟩
instance:Coe (Int×Int) (List Value):=⟨fun x=>[x.1,x.2]⟩
instance:Coe (Int×Int) Value:=⟨fun x=>vQ (wO x)⟩
instance:Coe (Int×Int×Int×Sl×Sl) (List Value):=⟨fun x=>[x.1,x.2.1,x.2.2.1,x.2.2.2.1,x.2.2.2.2]⟩
instance:Coe (Int×Int×Int×Sl×Sl) Value:=⟨fun x=>vQ (wO x)⟩
abbrev db:=Int×Int×Int×Int×Int×Int×Sl×Sl
abbrev bL:=Int×Int×Int
abbrev gD:=ByteArray×Int×Int×Sl
abbrev cH:=Int×Int×Int×Int×Int×Int×Int×Sl
abbrev SS:=Int×Int×Int×Sl
abbrev WM:=Int×Int×Int×Bool×Bool
abbrev MZ:Rt:=.one (.agg [(.int .i64),(.int .i64),(.int .i64),(.int .i64),(.int .i64),(.int .i64),.slc,.slc])
abbrev WK:Rt:=.one (.agg [(.int .i64),(.int .i64),(.int .i64)])
abbrev aN:Rt:=.one (.sc .slc)
abbrev bo:Rt:=.one (.sc (.int .i64))
abbrev kb:Rt:=.one (.sc .ptr)
abbrev bU:Rt:=.one (.sc .bool)
abbrev iG:Rt:=.many []
abbrev dv:Ty:=.sc .slc
abbrev be:Ty:=.sc (.int .i64)
abbrev Pk:Ty:=.sc .ptr
abbrev kc:Ty:=.sc .bool
abbrev Vm:Ty:=.sc .str
variable {R:wt} {h:Heap}
def jD:ByteArray:=⟨#[105,116]⟩
def xA:ByteArray:=⟨#[]⟩
abbrev aD:TI:=⟨.fn,(.sc .fn),1,8,[.nilFunc]⟩
abbrev SU:TI:=⟨.int .i64,(.sc (.int .i64)),1,8,[(vL vR 0)]⟩
abbrev SV:TI:=⟨.int .u8,(.sc (.int .u8)),1,1,[(vL vS 0)]⟩
abbrev Vn:TI:=⟨.str,(.sc .str),1,16,[(.string ⟨#[]⟩)]⟩
abbrev SX:TI:=⟨.int .u64,(.sc (.int .u64)),1,8,[(vL vU 0)]⟩
abbrev Vo:TI:=⟨.int .i32,(.sc (.int .i32)),1,4,[(.int .i32 0)]⟩
abbrev SY:TI:=⟨.struct [(0,3),(1,3),(2,3)],(.agg [(.int .i64),(.int .i64),(.int .i64)]),3,24,[(vL vR 0),(vL vR 0),(vL vR 0)]⟩
abbrev SZ:TI:=⟨.other,(.sc .any),1,0,[(.tuple #[(vN none),(vL vR 0)])]⟩
abbrev Vp:TI:=⟨.other,(.sc .any),1,0,[(.tuple #[(vL vR 0),(vL vR 0)])]⟩
abbrev Ta:TI:=⟨.other,(.sc .any),1,0,[(.tuple #[(vM none 0 0),(.bool .false)])]⟩
abbrev RC:TI:=⟨.other,(.sc .any),1,0,[(.tuple #[(vM none 0 0),(vL vR 0)])]⟩
abbrev Na:TI:=⟨.struct [(0,3),(1,31)],(.agg [(.int .i64),.slc]),2,32,[(vL vR 0),(vM none 0 0)]⟩
abbrev Vq:TI:=⟨.struct [(0,2),(1,3),(2,4),(3,6)],(.agg [(.int .i64),(.int .i64),.bool,(.int .u8)]),4,24,[(vL vR 0),(vL vR 0),(.bool .false),(vL vS 0)]⟩
abbrev Vr:TI:=⟨.struct [(0,9),(1,12)],(.agg [.str,(.int .u64)]),2,24,[(vO ⟨#[]⟩),(vL vU 0)]⟩
abbrev Vs:TI:=⟨.struct [(0,17)],(.agg [.ptr]),1,8,[(vN none)]⟩
abbrev Vt:TI:=⟨.struct [(0,3),(1,3),(2,3),(3,22)],(.agg [(.int .i64),(.int .i64),(.int .i64),.slc]),4,48,[(vL vR 0),(vL vR 0),(vL vR 0),(vM none 0 0)]⟩
abbrev Vu:TI:=⟨.struct [(0,28),(1,31),(2,32),(3,34),(7,3)],(.agg [(.int .i64),.slc,.slc,(.int .i64),(.int .i64),(.int .i64),.slc,(.int .i64)]),8,112,[(vL vR 0),(vM none 0 0),(vM none 0 0),(vL vR 0),(vL vR 0),(vL vR 0),(vM none 0 0),(vL vR 0)]⟩
abbrev Vv:TI:=⟨.struct [(0,3),(1,9),(2,31),(3,3),(4,3),(5,3),(6,40),(7,22),(8,22)],(.agg [(.int .i64),.str,.slc,(.int .i64),(.int .i64),(.int .i64),(.int .u32),.slc,.slc]),9,128,[(vL vR 0),(vO ⟨#[]⟩),(vM none 0 0),(vL vR 0),(vL vR 0),(vL vR 0),(vL vT 0),(vM none 0 0),(vM none 0 0)]⟩
abbrev Vw:TI:=⟨.struct [(0,3),(1,3),(2,3),(3,24),(6,40),(7,31)],(.agg [(.int .i64),(.int .i64),(.int .i64),(.int .i64),(.int .i64),(.int .i64),(.int .u32),.slc]),8,80,[(vL vR 0),(vL vR 0),(vL vR 0),(vL vR 0),(vL vR 0),(vL vR 0),(vL vT 0),(vM none 0 0)]⟩
abbrev Vx:TI:=⟨.struct [(0,58),(1,60),(2,63)],(.arr .any),66,528,qi 66 (vN none)⟩
abbrev Vy:TI:=⟨.struct [(0,58),(1,3),(2,72),(3,3),(4,72),(5,4),(6,4)],(.agg [.ptr,(.int .i64),.slc,(.int .i64),.slc,.bool,.bool]),7,80,[(vN none),(vL vR 0),(vM none 0 0),(vL vR 0),(vM none 0 0),(.bool .false),(.bool .false)]⟩
abbrev Vz:TI:=⟨.struct [(0,4),(1,4),(2,3),(3,3)],(.agg [.bool,.bool,(.int .i64),(.int .i64)]),4,24,[(.bool .false),(.bool .false),(vL vR 0),(vL vR 0)]⟩
abbrev Tb:TI:=⟨.struct [(0,3),(1,3),(2,24),(5,3),(6,22),(7,86)],(.agg [(.int .i64),(.int .i64),(.int .i64),(.int .i64),(.int .i64),(.int .i64),.slc,.slc]),8,96,[(vL vR 0),(vL vR 0),(vL vR 0),(vL vR 0),(vL vR 0),(vL vR 0),(vM none 0 0),(vM none 0 0)]⟩
abbrev Tc:TI:=⟨.struct [(0,88),(8,58),(9,3),(10,63)],(.arr .any),74,624,[(vL vR 0),(vL vR 0),(vL vR 0),(vL vR 0),(vL vR 0),(vL vR 0),(vM none 0 0),(vM none 0 0),(vN none),(vL vR 0)]++qi 64 (vN none)⟩
abbrev Td:TI:=⟨.struct [(0,60),(1,88),(9,88),(17,22),(18,3),(19,112),(83,94)],(.arr .any),84,768,[(vN none),(vL vR 0),(vL vR 0),(vL vR 0),(vL vR 0),(vL vR 0),(vL vR 0),(vM none 0 0),(vM none 0 0),(vL vR 0),(vL vR 0),(vL vR 0),(vL vR 0),(vL vR 0),(vL vR 0),(vM none 0 0),(vM none 0 0),(vM none 0 0)]++qi 65 (vL vR 0)++[(vM none 0 0)]⟩
abbrev Te:TI:=⟨.struct [(0,60),(1,88),(9,22),(10,3),(11,3),(12,3)],(.agg [.ptr,(.int .i64),(.int .i64),(.int .i64),(.int .i64),(.int .i64),(.int .i64),.slc,.slc,.slc,(.int .i64),(.int .i64),(.int .i64)]),13,152,[(vN none),(vL vR 0),(vL vR 0),(vL vR 0),(vL vR 0),(vL vR 0),(vL vR 0),(vM none 0 0),(vM none 0 0),(vM none 0 0),(vL vR 0),(vL vR 0),(vL vR 0)]⟩
abbrev Tf:TI:=⟨.struct [(0,9),(1,3),(2,3),(3,22)],(.agg [.str,(.int .i64),(.int .i64),.slc]),4,56,[(vO ⟨#[]⟩),(vL vR 0),(vL vR 0),(vM none 0 0)]⟩
abbrev Tg:TI:=⟨.struct [(0,3),(1,3),(2,40),(3,179),(4,180),(5,22)],(.agg [(.int .i64),(.int .i64),(.int .u32),.ptr,.slc,.slc]),6,80,[(vL vR 0),(vL vR 0),(vL vT 0),(vN none),(vM none 0 0),(vM none 0 0)]⟩
abbrev Th:TI:=⟨.mp,(.sc .mp),1,8,[(.map none)]⟩
abbrev Ti:TI:=⟨.struct [(0,24),(3,40),(4,72)],(.agg [(.int .i64),(.int .i64),(.int .i64),(.int .u32),.slc]),5,56,[(vL vR 0),(vL vR 0),(vL vR 0),(vL vT 0),(vM none 0 0)]⟩
abbrev Tj:TI:=⟨.struct [(0,3),(1,254)],(.agg [(.int .i64),(.flt .f64)]),2,16,[(vL vR 0),(.float Go.FloatKind.f64 0)]⟩
abbrev Tk:TI:=⟨.struct [(0,22),(1,31)],(.agg [.slc,.slc]),2,48,[(vM none 0 0),(vM none 0 0)]⟩
abbrev Tl:TI:=⟨.struct [(0,271),(1,22),(2,22)],(.agg [.slc,.slc,.slc]),3,72,[(vM none 0 0),(vM none 0 0),(vM none 0 0)]⟩
abbrev Tm:TI:=⟨.struct [(0,244),(1,24),(4,72),(5,267),(6,273),(9,72),(10,72)],(.agg [.ptr,(.int .i64),(.int .i64),(.int .i64),.slc,.slc,.slc,.slc,.slc,.slc,.slc]),11,200,[(vN none),(vL vR 0),(vL vR 0),(vL vR 0),(vM none 0 0),(vM none 0 0),(vM none 0 0),(vM none 0 0),(vM none 0 0),(vM none 0 0),(vM none 0 0)]⟩
abbrev Tn:TI:=⟨.struct [(0,312),(255,314)],(.arr .any),511,2304,qi 255 (vL vS 0)++qi 256 (vL vR 0)⟩
abbrev To:TI:=⟨.struct [(0,250),(1,250),(2,3),(3,3),(4,4)],(.agg [(.cpx .f64),(.cpx .f64),(.int .i64),(.int .i64),.bool]),5,56,[(.complex Go.FloatKind.f64 0 0),(.complex Go.FloatKind.f64 0 0),(vL vR 0),(vL vR 0),(.bool .false)]⟩
abbrev Tp:TI:=⟨.struct [(0,267),(1,276),(2,72)],(.agg [.slc,.slc,.slc]),3,72,[(vM none 0 0),(vM none 0 0),(vM none 0 0)]⟩
abbrev Tq:TI:=⟨.struct [(0,3),(1,3)],(.agg [(.int .i64),(.int .i64)]),2,16,[(vL vR 0),(vL vR 0)]⟩
abbrev Tr:TI:=⟨.array 256 4,(.arr .bool),256,256,qi 256 (.bool .false)⟩
abbrev Ts:TI:=⟨.struct [(0,226)],(.agg [(.int .u64)]),1,8,[(vL vU 0)]⟩
abbrev Tt:TI:=⟨.struct [(0,244),(1,3),(2,72)],(.agg [.ptr,(.int .i64),.slc]),3,40,[(vN none),(vL vR 0),(vM none 0 0)]⟩
abbrev Tu:TI:=⟨.struct [(0,3),(1,3),(2,3),(3,31),(4,31)],(.agg [(.int .i64),(.int .i64),(.int .i64),.slc,.slc]),5,72,[(vL vR 0),(vL vR 0),(vL vR 0),(vM none 0 0),(vM none 0 0)]⟩
abbrev Tv:TI:=⟨.struct [(0,180),(1,276),(2,276)],(.agg [.slc,.slc,.slc]),3,72,[(vM none 0 0),(vM none 0 0),(vM none 0 0)]⟩
abbrev Tw:TI:=⟨.struct [(0,31),(1,4)],(.agg [.slc,.bool]),2,32,[(vM none 0 0),(.bool .false)]⟩
abbrev Tx:TI:=⟨.struct [(0,5),(1,5)],(.agg [(.int .u8),(.int .u8)]),2,2,[(vL vS 0),(vL vS 0)]⟩
abbrev Tz:TI:=⟨.struct [(0,17),(1,17),(2,17),(3,9)],(.agg [.ptr,.ptr,.ptr,.str]),4,40,[(vN none),(vN none),(vN none),(vO ⟨#[]⟩)]⟩
abbrev TA:TI:=⟨.struct [(0,431)],(.agg []),0,0,[]⟩
abbrev TB:TI:=⟨.struct [(0,12),(1,12),(2,40),(3,434),(4,5),(5,5),(6,435),(7,436),(8,290),(9,437),(10,438)],(.agg [(.int .u64),(.int .u64),(.int .u32),(.int .u8),(.int .u8),(.int .u8),(.int .u8),.fn,.ptr,(.int .i32),(.int .i32)]),11,48,[(vL vU 0),(vL vU 0),(vL vT 0),(vL vS 0),(vL vS 0),(vL vS 0),(vL vS 0),.nilFunc,(vN none),(.int .i32 0),(.int .i32 0)]⟩
def TC:jr:=[⟨.other,(.sc .any),1,0,[(.tuple #[])]⟩,aD,SU,SU,⟨.bool,(.sc .bool),1,1,[(.bool .false)]⟩,SV,SV,Vq,Vq,Vn,Vn,Vn,SX,Vr,Vr,⟨.ptr 430,(.sc .ptr),1,8,[(vN none)]⟩,⟨.ptr 433,(.sc .ptr),1,8,[(vN none)]⟩,⟨.ptr 440,(.sc .ptr),1,8,[(vN none)]⟩,Vs,Vs,⟨.other,(.sc .any),1,16,[.nilIface]⟩,Vo,⟨.slice 3,(.sc .slc),1,24,[(vM none 0 0)]⟩,SY,SY,⟨.other,(.sc .any),1,0,[(.tuple #[(.agg #[(vL vR 0),(vL vR 0),(vL vR 0)]),(vL vR 0),(vM none 0 0)])]⟩,aD,⟨.ptr 65,(.sc .ptr),1,8,[(vN none)]⟩,SU,SZ,aD,⟨.slice 5,(.sc .slc),1,24,[(vM none 0 0)]⟩,⟨.slice 9,(.sc .slc),1,24,[(vM none 0 0)]⟩,Vt,Vt,Vu,Vu,aD,aD,aD,⟨.int .u32,(.sc (.int .u32)),1,4,[(vL vT 0)]⟩,Vv,Vv,aD,⟨.slice 54,(.sc .slc),1,24,[(vM none 0 0)]⟩,⟨.ptr 74,(.sc .ptr),1,8,[(vN none)]⟩,aD,aD,Vw,Vw,⟨.other,(.sc .any),1,0,[(.tuple #[(.agg #[(vL vR 0),(vL vR 0),(vL vR 0),(vL vR 0),(vL vR 0),(vL vR 0),(vL vT 0),(vM none 0 0)]),(.bool .false)])]⟩,aD,aD,aD,⟨.array 2 3,(.arr (.int .i64)),2,16,[(vL vR 0),(vL vR 0)]⟩,aD,aD,aD,⟨.ptr 83,(.sc .ptr),1,8,[(vN none)]⟩,aD,⟨.ptr 90,(.sc .ptr),1,8,[(vN none)]⟩,SZ,aD,⟨.array 64 45,(.arr .ptr),64,512,qi 64 (vN none)⟩,Vx,Vx,aD,aD,Vp,aD,aD,aD,⟨.slice 31,(.sc .slc),1,24,[(vM none 0 0)]⟩,Vy,Vy,⟨.other,(.sc .any),1,0,[(.tuple #[(vL vR 0),(vM none 0 0),(.bool .false)])]⟩,aD,aD,aD,aD,aD,aD,Vz,Vz,Ta,aD,⟨.slice 123,(.sc .slc),1,24,[(vM none 0 0)]⟩,Tb,Tb,Tc,Tc,aD,aD,aD,⟨.slice 137,(.sc .slc),1,24,[(vM none 0 0)]⟩,aD,aD,RC,aD,aD,aD,⟨.other,(.sc .any),1,0,[(.tuple #[(.agg #[(vL vR 0),(vL vR 0),(vL vR 0),(vM none 0 0)]),(vL vR 0)])]⟩,aD,aD,aD,aD,aD,aD,aD,aD,aD,⟨.ptr 114,(.sc .ptr),1,8,[(vN none)]⟩,⟨.array 64 3,(.arr (.int .i64)),64,512,qi 64 (vL vR 0)⟩,Td,Td,aD,aD,aD,⟨.ptr 120,(.sc .ptr),1,8,[(vN none)]⟩,Te,Te,aD,Tf,Tf,aD,aD,aD,aD,⟨.slice 45,(.sc .slc),1,24,[(vM none 0 0)]⟩,aD,SX,aD,aD,aD,aD,aD,Na,Na,aD,aD,aD,aD,Ta,aD,aD,aD,aD,aD,aD,aD,⟨.slice 202,(.sc .slc),1,24,[(vM none 0 0)]⟩,aD,aD,aD,Ta,aD,aD,aD,aD,aD,⟨.slice 49,(.sc .slc),1,24,[(vM none 0 0)]⟩,aD,aD,aD,aD,aD,aD,aD,aD,aD,aD,aD,aD,aD,aD,⟨.ptr 182,(.sc .ptr),1,8,[(vN none)]⟩,SZ,aD,aD,⟨.ptr 249,(.sc .ptr),1,8,[(vN none)]⟩,⟨.slice 22,(.sc .slc),1,24,[(vM none 0 0)]⟩,Tg,Tg,⟨.other,(.sc .any),1,0,[(.tuple #[(.agg #[(vL vR 0),(vL vR 0),(vL vR 0),(vL vR 0),(vL vR 0),(vL vR 0),(vM none 0 0),(vM none 0 0)]),(.bool .false)])]⟩,aD,aD,aD,aD,⟨.other,(.sc .any),1,0,[(.tuple #[(vL vR 0),(.bool .false)])]⟩,aD,aD,aD,SZ,aD,aD,aD,aD,aD,aD,aD,aD,Na,Na,aD,aD,aD,aD,aD,RC,aD,aD,aD,aD,aD,aD,aD,aD,aD,SU,Vp,aD,aD,aD,aD,aD,aD,SX,aD,aD,aD,Th,SY,SY,aD,aD,aD,aD,⟨.other,(.sc .any),1,0,[(.tuple #[(vM none 0 0),(.bool .false),(vL vR 0)])]⟩,aD,aD,⟨.slice 88,(.sc .slc),1,24,[(vM none 0 0)]⟩,aD,aD,aD,⟨.ptr 317,(.sc .ptr),1,8,[(vN none)]⟩,aD,aD,aD,Ti,Ti,⟨.cpx,(.sc (.cpx .f64)),1,16,[(.complex Go.FloatKind.f64 0 0)]⟩,aD,⟨.slice 257,(.sc .slc),1,24,[(vM none 0 0)]⟩,⟨.array 64 4,(.arr .bool),64,64,qi 64 (.bool .false)⟩,⟨.flt,(.sc (.flt .f64)),1,8,[(.float Go.FloatKind.f64 0)]⟩,aD,Tj,Tj,aD,aD,aD,aD,aD,aD,aD,aD,aD,⟨.slice 269,(.sc .slc),1,24,[(vM none 0 0)]⟩,Tk,Tk,⟨.ptr 275,(.sc .ptr),1,8,[(vN none)]⟩,⟨.slice 341,(.sc .slc),1,24,[(vM none 0 0)]⟩,Tl,Tl,Tm,Tm,⟨.slice 4,(.sc .slc),1,24,[(vM none 0 0)]⟩,⟨.other,(.sc .any),1,0,[(.tuple #[(vM none 0 0),(vM none 0 0),(vM none 0 0),(vL vR 0)])]⟩,aD,aD,⟨.other,(.sc .any),1,0,[(.tuple #[(vM none 0 0),(vM none 0 0)])]⟩,aD,aD,aD,⟨.ptr 353,(.sc .ptr),1,8,[(vN none)]⟩,aD,aD,aD,aD,aD,⟨.ptr 5,(.sc .ptr),1,8,[(vN none)]⟩,aD,SX,aD,aD,aD,⟨.ptr 3,(.sc .ptr),1,8,[(vN none)]⟩,aD,aD,RC,aD,⟨.ptr 360,(.sc .ptr),1,8,[(vN none)]⟩,aD,aD,⟨.slice 72,(.sc .slc),1,24,[(vM none 0 0)]⟩,aD,aD,aD,aD,aD,aD,aD,⟨.array 255 5,(.arr (.int .u8)),255,255,qi 255 (vL vS 0)⟩,aD,⟨.array 256 3,(.arr (.int .i64)),256,2048,qi 256 (vL vR 0)⟩,aD,Tn,Tn,aD,⟨.ptr 322,(.sc .ptr),1,8,[(vN none)]⟩,aD,To,To,aD,aD,aD,aD,aD,aD,aD,aD,aD,aD,⟨.ptr 335,(.sc .ptr),1,8,[(vN none)]⟩,Tp,Tp,aD,⟨.other,(.sc .any),1,0,[(.tuple #[(.agg #[(vM none 0 0),(vM none 0 0),(vM none 0 0)]),(.bool .false)])]⟩,aD,aD,Tq,Tq,aD,aD,aD,Tr,Tr,⟨.other,(.sc .any),1,0,[(.tuple #[(.agg (qi 256 (.bool .false)).toArray),(.bool .false)])]⟩,aD,aD,⟨.ptr 346,(.sc .ptr),1,8,[(vN none)]⟩,aD,Ts,Ts,aD,aD,⟨.ptr 292,(.sc .ptr),1,8,[(vN none)]⟩,Vp,aD,Tt,Tt,aD,aD,aD,aD,aD,aD,⟨.slice 369,(.sc .slc),1,24,[(vM none 0 0)]⟩,Tu,Tu,⟨.other,(.sc .any),1,0,[(.tuple #[(.agg #[(vL vR 0),(vL vR 0),(vL vR 0),(vM none 0 0),(vM none 0 0)]),(.bool .false)])]⟩,aD,Th,Ta,aD,aD,aD,aD,aD,aD,aD,aD,aD,aD,aD,aD,aD,aD,aD,aD,aD,aD,aD,⟨.ptr 395,(.sc .ptr),1,8,[(vN none)]⟩,Tv,Tv,aD,⟨.other,(.sc .any),1,0,[(.tuple #[(.agg #[(vL vR 0),(vL vR 0)]),(.bool .false)])]⟩,aD,aD,⟨.other,(.sc .any),1,0,[(.tuple #[(.int .i32 0),(vL vR 0)])]⟩,aD,aD,aD,aD,aD,aD,aD,aD,aD,aD,aD,aD,aD,aD,aD,aD,⟨.ptr 419,(.sc .ptr),1,8,[(vN none)]⟩,Tw,Tw,aD,aD,aD,aD,⟨.array 256 5,(.arr (.int .u8)),256,256,qi 256 (vL vS 0)⟩,Tx,Tx,⟨.array 16 426,(.arr (.int .u8)),32,32,qi 32 (vL vS 0)⟩,aD,Tz,Tz,⟨.array 0 16,(.arr .ptr),0,0,[]⟩,TA,TA,SV,SV,aD,Vo,Vo,TB,TB,aD,⟨.other,(.sc .any),1,8,[(vN none)]⟩]
def C:Ctx:={P:=vV,T:=TC,tup:=[(0,[]),(25,[(.agg [(.int .i64),(.int .i64),(.int .i64)]),(.sc (.int .i64)),(.sc .slc)]),(29,[(.sc .ptr),(.sc (.int .i64))]),(50,[(.agg [(.int .i64),(.int .i64),(.int .i64),(.int .i64),(.int .i64),(.int .i64),(.int .u32),.slc]),(.sc .bool)]),(61,[(.sc .ptr),(.sc (.int .i64))]),(68,[(.sc (.int .i64)),(.sc (.int .i64))]),(75,[(.sc (.int .i64)),(.sc .slc),(.sc .bool)]),(84,[(.sc .slc),(.sc .bool)]),(97,[(.sc .slc),(.sc (.int .i64))]),(101,[(.agg [(.int .i64),(.int .i64),(.int .i64),.slc]),(.sc (.int .i64))]),(142,[(.sc .slc),(.sc .bool)]),(154,[(.sc .slc),(.sc .bool)]),(176,[(.sc .ptr),(.sc (.int .i64))]),(183,[(.agg [(.int .i64),(.int .i64),(.int .i64),(.int .i64),(.int .i64),(.int .i64),.slc,.slc]),(.sc .bool)]),(188,[(.sc (.int .i64)),(.sc .bool)]),(192,[(.sc .ptr),(.sc (.int .i64))]),(208,[(.sc .slc),(.sc (.int .i64))]),(219,[(.sc (.int .i64)),(.sc (.int .i64))]),(237,[(.sc .slc),(.sc .bool),(.sc (.int .i64))]),(277,[(.sc .slc),(.sc .slc),(.sc .slc),(.sc (.int .i64))]),(280,[(.sc .slc),(.sc .slc)]),(299,[(.sc .slc),(.sc (.int .i64))]),(337,[(.agg [.slc,.slc,.slc]),(.sc .bool)]),(347,[(.arr .bool),(.sc .bool)]),(357,[(.sc (.int .i64)),(.sc (.int .i64))]),(370,[(.agg [(.int .i64),(.int .i64),(.int .i64),.slc,.slc]),(.sc .bool)]),(373,[(.sc .slc),(.sc .bool)]),(397,[(.agg [(.int .i64),(.int .i64)]),(.sc .bool)]),(400,[(.sc (.int .i32)),(.sc (.int .i64))])],fns:=[false,false]++qi 365 true++qi 22 false++[true]}
theorem Wo:(List.range C.T.length).map (jr.seen C.P)=C.T.map jr.told:=by kernel_rfl
theorem Un:C.P.follows .mixedOrders=true:=by kernel_rfl
theorem Wp:(C.P.funcs.toList.map fun f=>!(f.name== "runtime.NumGoroutine")&&f.body.isSome)=C.fns:=by kernel_rfl
theorem af:C.Ok:={TC:=Wo,mixed:=Un,fns:=Wp}
def gK(bs:Sl)(a8:Int)(a7:Int)(b:Sl):Prop:=
 ac vV 4 #[bs] (.many [(.agg [(.int .i64),(.int .i64),(.int .i64)]),be,dv]) h fun r1 h1=>
 aL vV (qJ 24 true (.tuple #[])) h1 fun u h2=>
 ae vV (qe 24 u r1.1) h2 fun _ h3=>
 ∃x3:bL,ah h3 u 0 x3/\
 aw vV (qu 22 2 #[(0,(vL vR 60)),(1,(vL vR 60))]) aN h3 fun v4 h4=>
 ac vV 5 #[x3,r1.2.1,v4] (.many [Pk,be]) h4 fun q h5=>
 aV (σ:=Unit) (fun _ h6=>
 ∃x7,cellOf h6 u=some (vL vR x7)/\
 ∃x8,cellOf h6 (u.add 2)=some (vL vR x8)/\
 ac vV 8 #[a8,(qc vR (x7*x8))] bo h6 fun r9 h7=>
 ac vV 7 #[(qc vR (1+r9)),a7] aN h7 fun br h8=>
 ac vV 6 #[q.1,(vQ #[(vL vR 1),jD,br,(vL vR 0),(vL vR 0),(vL vR 0),(vL vT 0),(vM none 0 0),(vM none 0 0)])] (.one (.agg [(.int .i64),.slc,.slc,(.int .i64),(.int .i64),(.int .i64),.slc,(.int .i64)])) h8 fun b5 h9=>
 aL vV (qJ 36 true (.tuple #[])) h9 fun r ad=>
 ae vV (qe 36 r b5) ad fun _ g=>
 ∃D,cellOf g r=some (vL vR D)/\
 Br (D !=0)
 (∃T,cellOf g r=some (vL vR T)/\
 Br (T==8) (ac vV 9 #[] bU g fun ay cc=>
 R ay cc) (R false g))
 (ac vV 6 #[q.1,(vQ #[(vL vR 5),jD,(vM none 0 0),(vL vR 0),(vL vR 0),(vL vR 0),(vL vT 0),(vM none 0 0),(vM none 0 0)])] (.one (.agg [(.int .i64),.slc,.slc,(.int .i64),(.int .i64),(.int .i64),.slc,(.int .i64)])) g fun A n=>
 ∃F,cellOf n u=some (vL vR F)/\
 Br (A.2.2.2.2.2.1 !=(qc vR (F+r1.2.1)))
 (R false n)
 (aV (σ:=Unit) (fun _ am=>
 ac vV 9 #[] bU am fun a9 b4=>
 R a9 b4)
 (fun K2=>
 aS (σ:=Int×Sl×Int) (fun a K3 t=>
 aV (σ:=Unit) (fun _ P=>
 ∃X,(b.ptr=some X/\0<=a.2.2/\a.2.2<(b.len:Int))/\
 ∃K,cellOf P (X.add (a.2.2.toNat*1))=some (vL vR K)/\
 ac vV 8 #[K,(vL vR 2)] bo P fun i a5=>
 ac vV 10 #[q.1,i] kb a5 fun z L=>
 aV (σ:=Int) (fun f bd=>
 ac vV 13 #[z,f] aN bd fun bk b7=>
 ac vV 12 #[bk] (.many [(.agg [(.int .i64),(.int .i64),(.int .i64),(.int .i64),(.int .i64),(.int .i64),(.int .u32),.slc]),kc]) b7 fun G b2=>
 aL vV (qJ 49 true (.tuple #[])) b2 fun a1 a0=>
 ae vV (qe 49 a1 G.1) a0 fun _ j=>
 aV (σ:=Addr) (fun al x=>
 ∃U:Int×ByteArray×Sl×Int×Int×Int×Int×Sl×Sl,ah x al 0 U/\
 ac vV 6 #[q.1,U] (.one (.agg [(.int .i64),.slc,.slc,(.int .i64),(.int .i64),(.int .i64),.slc,(.int .i64)])) x fun bl bb=>
 aL vV (qJ 36 true (.tuple #[])) bb fun s a3=>
 ae vV (qe 36 s bl) a3 fun _ a4=>
 ac vV 14 #[a.2.1,(vQ #[i,f])] bU a4 fun I d=>
 aV (σ:=Unit) (fun _ b3=>
 aw vV (qu 44 1 #[(0,(vQ #[i,f]))]) aN b3 fun ax b6=>
 aw vV (qx #[44,44] 44 #[a.2.1,ax]) aN b6 fun p O=>
 aV (σ:=Int) (fun v a6=>
 ac vV 6 #[q.1,(vQ #[(vL vR 5),jD,(vM none 0 0),(vL vR 0),(vL vR 0),(vL vR 0),(vL vT 0),(vM none 0 0),(vM none 0 0)])] (.one (.agg [(.int .i64),.slc,.slc,(.int .i64),(.int .i64),(.int .i64),.slc,(.int .i64)])) a6 fun b0 H=>
 Br (b0.2.2.2.2.2.1 !=v)
 (R false H)
 (K3 (v,(⟨p.ptr,p.len,p.cap⟩:Sl),qc vR (a.2.2+3)) H))
 (fun K8=>
 Br G.2
 (K8 (qc vR (a.1-1)) O)
 (K8 a.1 O)))
 (fun K7=>
 ∃w,cellOf d s=some (vL vR w)/\
 Br (!((w==5)==I)) (R false d) (Br (!I) (∃J,cellOf d s=some (vL vR J)/\
 Br (J !=0)
 (R false d)
 (K7 () d)) (K7 () d))))
 (fun K6=>
 ∃o,(b.ptr=some o/\0<=(qc vR (a.2.2+1))/\(qc vR (a.2.2+1))<(b.len:Int))/\
 ∃l:Int,cellOf j (o.add ((qc vR (a.2.2+1)).toNat*1))=some (vL vR l)/\
 ∃e,(b.ptr=some e/\0<=(qc vR (a.2.2+2))/\(qc vR (a.2.2+2))<(b.len:Int))/\
 ∃c:Int,cellOf j (e.add ((qc vR (a.2.2+2)).toNat*1))=some (vL vR c)/\
 (ac vV 8 #[l,(vL vR 61)] bo j fun b9 Z=>
 (ar.ok [(e.add ((qc vR (a.2.2+2)).toNat*1),c)] Z)/\
 aL vV (qJ 42 true (.tuple #[])) Z fun E M=>
 (ar.ok [(e.add ((qc vR (a.2.2+2)).toNat*1),c)] M)/\
 ae vV (qe 42 E (vQ #[(vL vR 11),xA,(vM none 0 0),i,f,b9,(vL vT (qc vT ((qq (qf vT) (qc vT c)|||(qq (qf vT) (1:Int))).toNat:Nat))),(vM none 0 0),(vM none 0 0)])) M fun _ y=>
 (ar.ok [] y)/\
 K6 E y)/\(aL vV (qJ 42 true (.tuple #[])) j fun W Y=>
 (ar.ok [(e.add ((qc vR (a.2.2+2)).toNat*1),c),(o.add ((qc vR (a.2.2+1)).toNat*1),l)] Y)/\
 ac vV 8 #[l,(vL vR 61)] bo Y fun cd N=>
 (ar.ok [(e.add ((qc vR (a.2.2+2)).toNat*1),c)] N)/\
 ae vV (qe 42 W (vQ #[(vL vR 11),xA,(vM none 0 0),i,f,cd,(vL vT (qc vT ((qq (qf vT) (qc vT c)|||(qq (qf vT) (1:Int))).toNat:Nat))),(vM none 0 0),(vM none 0 0)])) N fun _ V=>
 (ar.ok [] V)/\
 K6 W V)))
 (fun K5=>
 ∃m,(b.ptr=some m/\0<=a.2.2/\a.2.2<(b.len:Int))/\
 ∃k,cellOf L (m.add (a.2.2.toNat*1))=some (vL vR k)/\
 ((2:Int)≠0)/\
 ac vV 11 #[z] bo L fun B S=>
 (ar.ok [(m.add (a.2.2.toNat*1),k)] S)/\
 ac vV 8 #[(qc vR (wQ k 2)),(vL vR (if(1:Int)>B then(1:Int)else B))] bo S fun b1 Q=>
 (ar.ok [(m.add (a.2.2.toNat*1),k)] Q)/\
 K5 b1 Q))
 (fun K4=>
 Br ((qc vR (a.2.2+2))<(b.len:Int)) (Br (a.2.2<60)
 (K4 () t)
 (K2 () t)) (K2 () t))) (A.2.2.2.2.2.1,(⟨none,0,0⟩:Sl),(0:Int)) n))))
 (fun K1=>
 Br (q.2 !=0) (R false h5) (Br (qS q.1)
 (R false h5)
 (K1 () h5)))
theorem kz(d:Sl)(c:Int)(a:Int)(b:Sl)(e:@gK R h d c a b):ab vV 3 #[d,c,a,b] h R:=aq af func3 (an.tn (an.tn (an.tn (.two (.join [] [(8,9),(39,45)] .n) (an.tn (an.tn (an.tn (an.tn (an.tn (.two (.join [] [(8,9),(15,26),(78,167)] (an.tn (.inn (.loop [(15,be),(16,dv),(17,be)] [(8,9),(15,26),(78,167)] (.two (.join [] [(78,87)] .n) (.two (.inn (an.tn (an.tn (.two (.join [(20,be)] [(20,21),(97,106)] .n) (an.tn (.two (.join [(23,(.sc .adr))] [(23,24),(113,129)] .n) (an.tn (an.tn (.two (.join [] [(8,9),(137,151)] .n) (an.tn (.two (.join [(15,be)] [(15,16),(157,160)] .n) .n))))))))))) .n)))))) .n)))))))))) e
def kd(b:Sl):Prop:=
 aL vV (qJ 24 true (.tuple #[])) h fun u I=>
 ac vV 16 #[b,(vL vR 0)] bo I fun G A=>
 ac vV 16 #[b,(vL vR 1)] bo A fun B h3=>
 ac vV 16 #[b,(vL vR 2)] bo h3 fun w H=>
 ac vV 15 #[G,B,w] WK H fun z E=>
 aL vV (qJ 24 true (.tuple #[])) E fun d v=>
 ae vV (qe 24 d z) v fun _ J=>
 aS (σ:=Sl×Int) (fun i x h8=>
 ac vV 16 #[b,(vL vR 4)] bo h8 fun D y=>
 ac vV 8 #[D,(vL vR 4)] bo y fun F e=>
 Br (i.2<(qc vR (2+F)))
 (ac vV 16 #[b,(qc vR (5+i.2))] bo e fun o n=>
 ac vV 8 #[o,(vL vR 50)] bo n fun l s=>
 aw vV (qu 22 1 #[(0,(qc vR (8+l)))]) aN s fun t p=>
 aw vV (qx #[22,22] 22 #[i.1,t]) aN p fun f m=>
 x ((⟨f.ptr,f.len,f.cap⟩:Sl),qc vR (i.2+1)) m)
 (∃a:bL,ah e d 0 a/\
 ac vV 16 #[b,(vL vR 3)] bo e fun r k=>
 (ar.ok [(d,a.1),(d.add 1,a.2.1),(d.add 2,a.2.2)] k)/\
 ac vV 8 #[r,(vL vR 7)] bo k fun q j=>
 (ar.ok [(d,a.1),(d.add 1,a.2.1),(d.add 2,a.2.2)] j)/\
 ae vV (qe 24 u a) j fun _ g=>
 (ar.ok [] g)/\
 ∃c:bL,ah g u 0 c/\
 R (.tuple #[c,q,i.1]) g)) ((⟨none,0,0⟩:Sl),(0:Int)) J
theorem oc(a:Sl)(b:@kd R h a):ab vV 4 #[a] h R:=aq af func4 (an.tn (an.tn (an.tn (an.tn (.two (an.tn (.inn (.loop [(7,dv),(8,be)] [(7,9),(16,35)] .n))) .n))))) b
def uv(c:bL)(a:Int)(b:Sl):Prop:=
 aL vV (qI 24 c) h fun k i=>
 ac vV 17 #[] kb i fun f e=>
 ∃x3:bL,ah e k 0 x3/\
 ac vV 18 #[x3,a,f,b] (.many [Pk,be]) e fun d h3=>
 Br (d.2 !=0)
 (R (.tuple #[(vN none),d.2]) h3)
 (∃v5:Value,(au vV (yC 65 #[(0,f),(1,d.1)]) v5)/\
 aL vV (qI 65 v5) h3 fun j g=>
 R (.tuple #[j,(vL vR 0)]) g)
theorem DB(c:bL)(a:Int)(b:Sl)(d:@uv R h c a b):ab vV 5 #[c,a,b] h R:=aq af func5 .n d
def dS(b:aK)(Z:Int×ByteArray×Sl×Int×Int×Int×Int×Sl×Sl):Prop:=
 aL vV (qI 42 Z) h fun e h1=>
 aL vV (qJ 36 true (.tuple #[])) h1 fun d k=>
 Br (qS b)
 (ae vV (qe 36 d (vQ #[(vL vR 14),(vM none 0 0),(vM none 0 0),(vL vR 0),(vL vR 0),(vL vR 0),(vM none 0 0),(vL vR 0)])) k fun _ h3=>
 ∃i:Int×Sl×Sl×Int×Int×Int×Sl×Int,ah h3 d 0 i/\
 R i h3)
 (aV (σ:=Unit) (fun _ s=>
 ∃u:Int×Sl×Sl×Int×Int×Int×Sl×Int,ah s d 0 u/\
 ae vV (qe 36 d u) s fun _ V=>
 ∃f:Int×Sl×Sl×Int×Int×Int×Sl×Int,ah V d 0 f/\
 R f V)
 (fun g=>
 ∃c,cellOf k e=some (vL vR c)/\
 aV (σ:=Bool) (fun s5 a=>
 Br s5
 (∃x6:Int×ByteArray×Sl×Int×Int×Int×Int×Sl×Sl,ah a e 0 x6/\
 ac vV 19 #[b,x6] (.one (.agg [(.int .i64),.slc,.slc,(.int .i64),(.int .i64),(.int .i64),.slc,(.int .i64)])) a fun r7 h5=>
 ae vV (qe 36 d r7) h5 fun _ h6=>
 ∃j:Int×Sl×Sl×Int×Int×Int×Sl×Int,ah h6 d 0 j/\
 R j h6)
 (Br (c==6)
 (∃a9,(b=some a9)/\
 ∃J:aK,cellOf a (a9.add 1)=some (.pointer J)/\
 ∃H,cellOf a (e.add 3)=some (vL vR H)/\
 ∃O,cellOf a (e.add 4)=some (vL vR O)/\
 ac vV 20 #[J,H,O] bo a fun X h7=>
 (ar.ok [] h7)/\
 ae vV (qe 28 d X) h7 fun _ h8=>
 (ar.ok [] h8)/\
 g () h8)
 (Br (c==7)
 (∃W,(b=some W)/\
 ∃D:aK,cellOf a (W.add 1)=some (.pointer D)/\
 ∃x,cellOf a (e.add 3)=some (vL vR x)/\
 ac vV 21 #[D,x] bo a fun ad h9=>
 (ar.ok [] h9)/\
 ae vV (qe 28 d ad) h9 fun _ n=>
 (ar.ok [] n)/\
 g () n)
 (Br (c==8)
 (∃m,(b=some m)/\
 ∃K:aK,cellOf a (m.add 1)=some (.pointer K)/\
 ∃U,cellOf a (e.add 3)=some (vL vR U)/\
 ∃E,cellOf a (e.add 4)=some (vL vR E)/\
 ac vV 22 #[K,U,E] bo a fun al p=>
 (ar.ok [] p)/\
 ae vV (qe 28 d al) p fun _ I=>
 (ar.ok [] I)/\
 g () I)
 (Br (c==9)
 (∃w,(b=some w)/\
 ∃M:aK,cellOf a (w.add 1)=some (.pointer M)/\
 ∃q,cellOf a (e.add 3)=some (vL vR q)/\
 ac vV 23 #[M,q] bo a fun am B=>
 (ar.ok [] B)/\
 ae vV (qe 28 d am) B fun _ o=>
 (ar.ok [] o)/\
 g () o)
 (Br (c==10)
 (∃G,(b=some G)/\
 ∃Q:aK,cellOf a (G.add 1)=some (.pointer Q)/\
 ∃z,cellOf a (e.add 4)=some (vL vR z)/\
 ∃v,cellOf a (e.add 5)=some (vL vR v)/\
 ac vV 24 #[Q,z,v] (.many [be,be]) a fun t L=>
 (ar.ok [] L)/\
 ae vV (qe 3 (d.add 7) t.1) L fun _ r=>
 (ar.ok [] r)/\
 ae vV (qe 28 d t.2) r fun _ F=>
 (ar.ok [] F)/\
 g () F)
 (Br (c==11)
 (∃A:Int×ByteArray×Sl×Int×Int×Int×Int×Sl×Sl,ah a e 0 A/\
 ac vV 25 #[b,A] bo a fun ay Y=>
 ae vV (qe 28 d ay) Y fun _ a4=>
 g () a4)
 (Br (c==12)
 (∃T,(b=some T)/\
 ∃N:aK,cellOf a T=some (.pointer N)/\
 ∃y,cellOf a (e.add 4)=some (vL vR y)/\
 ac vV 26 #[N,y] iG a fun _ P=>
 (ar.ok [] P)/\
 g () P)
 (Br (c==13)
 (∃l:Int×ByteArray×Sl×Int×Int×Int×Int×Sl×Sl,ah a e 0 l/\
 ac vV 27 #[b,l] bo a fun a5 ax=>
 ae vV (qe 28 d a5) ax fun _ a0=>
 g () a0)
 (ae vV (qe 28 d (vL vR 1)) a fun _ a3=>
 g () a3))))))))))
 (fun S=>
 Br (c==1)
 (S (c==1) k)
 (Br (c==2)
 (S (c==2) k)
 (Br (c==3)
 (S (c==3) k)
 (Br (c==4)
 (S (c==4) k)
 (S (c==5) k)))))))
theorem ez(b:aK)(a:Int×ByteArray×Sl×Int×Int×Int×Int×Sl×Sl)(c:@dS R h b a):ab vV 6 #[b,a] h R:=aq af func6 (an.tn (an.tn (.two (.join [] [(8,101)] (an.tn (.inn (.two (.join [(11,kc)] [(11,17)] .n) .n)))) .n))) c
def kT(c:Int)(b:Int):Prop:=
 aS (σ:=Sl×Int) (fun a f d=>
 Br (a.2<c)
 (((7:Int)≠0)/\
 (0<=(zQ a.2 7))/\
 aw vV (qu 31 1 #[(0,(vL vS (qc vS (qc vR ((Int.fdiv b (2^min (zQ a.2 7).toNat (qf vR)))+(qc vR (a.2*(qc vR ((qq (qf vR) b|||(qq (qf vR) (1:Int))).toNat:Nat)))))))))]) aN d fun g e=>
 aw vV (qx #[31,31] 31 #[a.1,g]) aN e fun v3 h3=>
 f ((⟨v3.ptr,v3.len,v3.cap⟩:Sl),qc vR (a.2+1)) h3)
 (R a.1 d)) ((⟨none,0,0⟩:Sl),(0:Int)) h
theorem pD(a:Int)(b:Int)(c:@kT R h a b):ab vV 7 #[a,b] h R:=aq af func7 (an.tn (an.tn (.two (an.tn (.inn (.loop [(5,dv),(6,be)] [(5,25)] .n))) .n))) c
def ke(b:Int)(a:Int):Prop:=
 (a≠0)/\
 aV (σ:=Int) (fun d e=>
 R d e)
 (fun c=>
 Br ((zQ b a)<0)
 (c (qc vR ((zQ b a)+a)) h)
 (c (zQ b a) h))
theorem od(b:Int)(a:Int)(c:@ke R h b a):ab vV 8 #[b,a] h R:=aq af func8 (an.tn (an.tn (.two (.join [(0,be)] [(0,1),(8,13)] .n) .n))) c
def kf:Prop:=
 aw vV (qu 22 1 #[(0,(vL vR 5))]) aN h fun g e=>
 ac vV 5 #[(vQ #[(vL vR 1),(vL vR 1),(vL vR 1)]),(vL vR 0),g] (.many [Pk,be]) e fun a b=>
 Br (a.2==0) (Br (!(qS a.1)) (ac vV 6 #[a.1,(vQ #[(vL vR 4),xA,(vM none 0 0),(vL vR 0),(vL vR 0),(vL vR 0),(vL vT 0),(vM none 0 0),(vM none 0 0)])] (.one (.agg [(.int .i64),.slc,.slc,(.int .i64),(.int .i64),(.int .i64),.slc,(.int .i64)])) b fun d h3=>
 Br (d.1==0) (ac vV 6 #[a.1,(vQ #[(vL vR 0),xA,(vM none 0 0),(vL vR 0),(vL vR 0),(vL vR 0),(vL vT 0),(vM none 0 0),(vM none 0 0)])] (.one (.agg [(.int .i64),.slc,.slc,(.int .i64),(.int .i64),(.int .i64),.slc,(.int .i64)])) h3 fun f c=>
 R (vP (f.1==1)) c) (R false h3)) (R false b)) (R false b)
theorem oe(a:@kf R h):ab vV 9 #[] h R:=aq af func9 .n a
def kg(b:aK)(a:Int):Prop:=
 aV (σ:=Unit) (fun _ h3=>
 ∃e,(b=some e)/\
 (0<=a/\a<((64:Nat):Int))/\
 ∃g:aK,cellOf h3 ((e.add 2).add (a.toNat*1))=some (.pointer g)/\
 R g h3)
 (fun k=>
 aV (σ:=Bool) (fun l c=>
 Br l
 (R (vN none) c)
 (∃i,(b=some i)/\
 ∃x3:aK,cellOf c (i.add 1)=some (.pointer x3)/\
 Br (!(qS x3))
 (∃a4,(b=some a4)/\
 ∃f:aK,cellOf c (a4.add 1)=some (.pointer f)/\
 ac vV 28 #[f,a] kb c fun m j=>
 R m j)
 (k () c)))
 (fun d=>
 Br (qS b) (d true h) (Br (a<0) (d true h) (d (decide (a>=64)) h))))
theorem og(b:aK)(a:Int)(c:@kg R h b a):ab vV 10 #[b,a] h R:=aq af func10 (an.tn (.two (.join [] [(4,28)] (.inn (.two (.join [(5,kc)] [(5,16)] .n) .n))) .n)) c
def nR(a:aK):Prop:=
 Br (qS a)
 (R (vL vR 0) h)
 (∃b,(a=some b)/\
 ∃x2:Sl,cellOf h (b.add 2)=some (x2:Value)/\
 R (vL vR (x2.len:Int)) h)
theorem uU(a:aK)(b:@nR R h a):ab vV 11 #[a] h R:=aq af func11 .n b
def iz(I:Sl):Prop:=
 aL vV (qJ 49 true (.tuple #[])) h fun o h1=>
 ac vV 29 #[I] (.many [be,dv,kc]) h1 fun a h2=>
 aV (σ:=Unit) (fun _ v=>
 aV (σ:=Addr) (fun m U=>
 ∃W:bL,ah U (m.add 3) 0 W/\
 ac vV 31 #[W] bU U fun a7 s=>
 Br (!a7)
 (ae vV (qe 49 o (vQ #[(vL vR 0),(vL vR 0),(vL vR 0),(vL vR 0),(vL vR 0),(vL vR 0),(vL vT 0),(vM none 0 0)])) s fun _ Y=>
 ∃n:cH,ah Y o 0 n/\
 R (.tuple #[n,false]) Y)
 (∃p,cellOf s ((m.add 3).add 2)=some (vL vR p)/\
 (0<=(13:Int)/\(13:Int)<=(qc vR (13+p))/\(qc vR (13+p))<=(a.2.1.cap:Int))/\
 ae vV (qe 31 (m.add 7) (.slice (if a.2.1.cap=(13:Int).toNat then a.2.1.ptr else a.2.1.ptr.map (·.add ((13:Int).toNat*1))) ((qc vR (13+p)).toNat-(13:Int).toNat) (a.2.1.cap-(13:Int).toNat))) s fun _ K=>
 ∃G:cH,ah K m 0 G/\
 ac vV 33 #[G] aN K fun a2 a5=>
 ac vV 32 #[a2,I] bU a5 fun al u=>
 Br (!al)
 (ae vV (qe 49 o (vQ #[(vL vR 0),(vL vR 0),(vL vR 0),(vL vR 0),(vL vR 0),(vL vR 0),(vL vT 0),(vM none 0 0)])) u fun _ P=>
 ∃l:cH,ah P o 0 l/\
 R (.tuple #[l,false]) P)
 (∃E:cH,ah u m 0 E/\
 ae vV (qe 49 o E) u fun _ J=>
 ∃k:cH,ah J o 0 k/\
 R (.tuple #[k,true]) J)))
 (fun Z=>
 (0<=(3:Int)/\(3:Int)<=(a.2.1.cap:Int))/\
 ∃i,(a.2.1.ptr=some i/\0<=(3:Int)/\(3:Int)<(a.2.1.len:Int))/\
 ∃f:Int,cellOf v (i.add ((3:Int).toNat*1))=some (vL vS f)/\
 (0<=(4:Int)/\(4:Int)<=(6:Int)/\(6:Int)<=(a.2.1.cap:Int))/\
 ∃j,(a.2.1.ptr=some j/\0<=(6:Int)/\(6:Int)<(a.2.1.len:Int))/\
 ∃g:Int,cellOf v (j.add ((6:Int).toNat*1))=some (vL vS g)/\
 ∃d,(a.2.1.ptr=some d/\0<=(7:Int)/\(7:Int)<(a.2.1.len:Int))/\
 ∃b:Int,cellOf v (d.add ((7:Int).toNat*1))=some (vL vS b)/\
 ∃e,(a.2.1.ptr=some e/\0<=(8:Int)/\(8:Int)<(a.2.1.len:Int))/\
 ∃c:Int,cellOf v (e.add ((8:Int).toNat*1))=some (vL vS c)/\
 (0<=(9:Int)/\(9:Int)<=(13:Int)/\(13:Int)<=(a.2.1.cap:Int))/\
 (ac vV 30 #[(vM a.2.1.ptr ((3:Int).toNat) a.2.1.cap)] bo v fun t h6=>
 (ar.ok [(e.add ((8:Int).toNat*1),(vL vS c)),(d.add ((7:Int).toNat*1),(vL vS b)),(j.add ((6:Int).toNat*1),(vL vS g)),(i.add ((3:Int).toNat*1),(vL vS f))] h6)/\
 (ac vV 30 #[(.slice (if a.2.1.cap=(4:Int).toNat then a.2.1.ptr else a.2.1.ptr.map (·.add ((4:Int).toNat*1))) ((6:Int).toNat-(4:Int).toNat) (a.2.1.cap-(4:Int).toNat))] bo h6 fun N h7=>
 (ar.ok [(e.add ((8:Int).toNat*1),(vL vS c)),(d.add ((7:Int).toNat*1),(vL vS b)),(j.add ((6:Int).toNat*1),(vL vS g)),(i.add ((3:Int).toNat*1),(vL vS f))] h7)/\
 (ac vV 30 #[(.slice (if a.2.1.cap=(9:Int).toNat then a.2.1.ptr else a.2.1.ptr.map (·.add ((9:Int).toNat*1))) ((13:Int).toNat-(9:Int).toNat) (a.2.1.cap-(9:Int).toNat))] bo h7 fun ay h8=>
 (ar.ok [(e.add ((8:Int).toNat*1),(vL vS c)),(d.add ((7:Int).toNat*1),(vL vS b)),(j.add ((6:Int).toNat*1),(vL vS g)),(i.add ((3:Int).toNat*1),(vL vS f))] h8)/\
 aL vV (qJ 49 true (.tuple #[])) h8 fun F h9=>
 (ar.ok [(e.add ((8:Int).toNat*1),(vL vS c)),(d.add ((7:Int).toNat*1),(vL vS b)),(j.add ((6:Int).toNat*1),(vL vS g)),(i.add ((3:Int).toNat*1),(vL vS f))] h9)/\
 ae vV (qe 49 F (vQ #[t,(qc vR f),N,(qc vR g),(qc vR b),(qc vR c),(vL vT (qc vT ay)),(vM none 0 0)])) h9 fun _ y=>
 (ar.ok [] y)/\
 Z F y)/\(aL vV (qJ 49 true (.tuple #[])) h7 fun x A=>
 (ar.ok [(e.add ((8:Int).toNat*1),(vL vS c)),(d.add ((7:Int).toNat*1),(vL vS b)),(j.add ((6:Int).toNat*1),(vL vS g)),(i.add ((3:Int).toNat*1),(vL vS f))] A)/\
 ac vV 30 #[(.slice (if a.2.1.cap=(9:Int).toNat then a.2.1.ptr else a.2.1.ptr.map (·.add ((9:Int).toNat*1))) ((13:Int).toNat-(9:Int).toNat) (a.2.1.cap-(9:Int).toNat))] bo A fun a3 Q=>
 (ar.ok [(e.add ((8:Int).toNat*1),(vL vS c)),(d.add ((7:Int).toNat*1),(vL vS b)),(j.add ((6:Int).toNat*1),(vL vS g)),(i.add ((3:Int).toNat*1),(vL vS f))] Q)/\
 ae vV (qe 49 x (vQ #[t,(qc vR f),N,(qc vR g),(qc vR b),(qc vR c),(vL vT (qc vT a3)),(vM none 0 0)])) Q fun _ H=>
 (ar.ok [] H)/\
 Z x H))/\(aL vV (qJ 49 true (.tuple #[])) h6 fun S z=>
 (ar.ok [(e.add ((8:Int).toNat*1),(vL vS c)),(d.add ((7:Int).toNat*1),(vL vS b)),(j.add ((6:Int).toNat*1),(vL vS g)),(i.add ((3:Int).toNat*1),(vL vS f))] z)/\
 ac vV 30 #[(.slice (if a.2.1.cap=(4:Int).toNat then a.2.1.ptr else a.2.1.ptr.map (·.add ((4:Int).toNat*1))) ((6:Int).toNat-(4:Int).toNat) (a.2.1.cap-(4:Int).toNat))] bo z fun ad T=>
 (ar.ok [(e.add ((8:Int).toNat*1),(vL vS c)),(d.add ((7:Int).toNat*1),(vL vS b)),(j.add ((6:Int).toNat*1),(vL vS g)),(i.add ((3:Int).toNat*1),(vL vS f))] T)/\
 ac vV 30 #[(.slice (if a.2.1.cap=(9:Int).toNat then a.2.1.ptr else a.2.1.ptr.map (·.add ((9:Int).toNat*1))) ((13:Int).toNat-(9:Int).toNat) (a.2.1.cap-(9:Int).toNat))] bo T fun ax B=>
 (ar.ok [(e.add ((8:Int).toNat*1),(vL vS c)),(d.add ((7:Int).toNat*1),(vL vS b)),(j.add ((6:Int).toNat*1),(vL vS g)),(i.add ((3:Int).toNat*1),(vL vS f))] B)/\
 ae vV (qe 49 S (vQ #[t,(qc vR f),ad,(qc vR g),(qc vR b),(qc vR c),(vL vT (qc vT ax)),(vM none 0 0)])) B fun _ L=>
 (ar.ok [] L)/\
 Z S L))/\(aL vV (qJ 49 true (.tuple #[])) v fun D w=>
 (ar.ok [(e.add ((8:Int).toNat*1),(vL vS c)),(d.add ((7:Int).toNat*1),(vL vS b)),(j.add ((6:Int).toNat*1),(vL vS g)),(i.add ((3:Int).toNat*1),(vL vS f))] w)/\
 ac vV 30 #[(vM a.2.1.ptr ((3:Int).toNat) a.2.1.cap)] bo w fun a4 X=>
 (ar.ok [(e.add ((8:Int).toNat*1),(vL vS c)),(d.add ((7:Int).toNat*1),(vL vS b)),(j.add ((6:Int).toNat*1),(vL vS g)),(i.add ((3:Int).toNat*1),(vL vS f))] X)/\
 ac vV 30 #[(.slice (if a.2.1.cap=(4:Int).toNat then a.2.1.ptr else a.2.1.ptr.map (·.add ((4:Int).toNat*1))) ((6:Int).toNat-(4:Int).toNat) (a.2.1.cap-(4:Int).toNat))] bo X fun am V=>
 (ar.ok [(e.add ((8:Int).toNat*1),(vL vS c)),(d.add ((7:Int).toNat*1),(vL vS b)),(j.add ((6:Int).toNat*1),(vL vS g)),(i.add ((3:Int).toNat*1),(vL vS f))] V)/\
 ac vV 30 #[(.slice (if a.2.1.cap=(9:Int).toNat then a.2.1.ptr else a.2.1.ptr.map (·.add ((9:Int).toNat*1))) ((13:Int).toNat-(9:Int).toNat) (a.2.1.cap-(9:Int).toNat))] bo V fun a0 M=>
 (ar.ok [(e.add ((8:Int).toNat*1),(vL vS c)),(d.add ((7:Int).toNat*1),(vL vS b)),(j.add ((6:Int).toNat*1),(vL vS g)),(i.add ((3:Int).toNat*1),(vL vS f))] M)/\
 ae vV (qe 49 D (vQ #[a4,(qc vR f),am,(qc vR g),(qc vR b),(qc vR c),(vL vT (qc vT a0)),(vM none 0 0)])) M fun _ O=>
 (ar.ok [] O)/\
 Z D O)))
 (fun K1=>
 Br (!a.2.2) (ae vV (qe 49 o (vQ #[(vL vR 0),(vL vR 0),(vL vR 0),(vL vR 0),(vL vR 0),(vL vR 0),(vL vT 0),(vM none 0 0)])) h2 fun _ h3=>
 ∃r:cH,ah h3 o 0 r/\
 R (.tuple #[r,false]) h3) (Br (a.1 !=1)
 (ae vV (qe 49 o (vQ #[(vL vR 0),(vL vR 0),(vL vR 0),(vL vR 0),(vL vR 0),(vL vR 0),(vL vT 0),(vM none 0 0)])) h2 fun _ h4=>
 ∃q:cH,ah h4 o 0 q/\
 R (.tuple #[q,false]) h4)
 (K1 () h2)))
theorem lH(a:Sl)(b:@iz R h a):ab vV 12 #[a] h R:=aq af func12 (an.tn (an.tn (.two (.join [] [(3,4),(14,21)] .n) (.two (.join [(7,(.sc .adr))] [(7,8),(21,49)] .n) .n)))) b
def ni(b:aK)(a:Int):Prop:=
 aV (σ:=Unit) (fun _ d=>
 ∃a4,(b=some a4)/\
 ∃c:Sl,cellOf d (a4.add 2)=some (c:Value)/\
 ∃f,(c.ptr=some f/\0<=a/\a<(c.len:Int))/\
 ∃g:Sl,cellOf d (f.add (a.toNat*1))=some (g:Value)/\
 ac vV 34 #[g] aN d fun k i=>
 R k i)
 (fun j=>
 Br (qS b) (R (vM none 0 0) h) (Br (a<0) (R (vM none 0 0) h) (∃e,(b=some e)/\
 ∃x2:Sl,cellOf h (e.add 2)=some (x2:Value)/\
 Br (a>=(x2.len:Int))
 (R (vM none 0 0) h)
 (j () h))))
theorem tw(a:aK)(b:Int)(c:@ni R h a b):ab vV 13 #[a,b] h R:=aq af func13 (an.tn (.two (.join [] [(4,20)] .n) .n)) c
def ik(a:Sl)(f:List (Int)):Prop:=
 aL vV (qI 54 (vQ (f.map (Sc.enc (.int .i64))).toArray)) h fun k j=>
 aS (σ:=Int) (fun c i b=>
 Br (c<(a.len:Int))
 (∃a3,(a.ptr=some a3/\0<=c/\c<(a.len:Int))/\
 ∃d:List (Int),(d.length=2/\ah b (a3.add (c.toNat*2)) 0 (d.map (Sc.enc (.int .i64))))/\
 ∃e:List (Int),(e.length=2/\ah b k 0 (e.map (Sc.enc (.int .i64))))/\
 ∃g:Bool,(fM vV .eql 54 (.tmp 14) (.tmp 15) (vQ (d.map (Sc.enc (.int .i64))).toArray) (vQ (e.map (Sc.enc (.int .i64))).toArray) (vP g))/\
 Br g
 (R true b)
 (i (qc vR (c+1)) b))
 (R false b)) (0:Int) j
theorem li(a:Sl)(b:List (Int))(c:@ik R h a b):ab vV 14 #[a,(vQ (b.map (Sc.enc (.int .i64))).toArray)] h R:=aq af func14 (an.tn (.two (an.tn (.inn (.loop [(8,be)] [(4,6),(8,18)] .n))) .n)) c
def kA(c:Int)(b:Int)(d:Int):Prop:=
 aL vV (qJ 24 true (.tuple #[])) h fun f k=>
 ac vV 8 #[c,(vL vR 6)] bo k fun m g=>
 ac vV 8 #[b,(vL vR 3)] bo g fun j h3=>
 ac vV 8 #[d,(vL vR 9)] bo h3 fun l i=>
 ae vV (qe 24 f (vQ #[(qc vR (1+m)),(qc vR (1+j)),(qc vR (1+l))])) i fun _ e=>
 ∃a:bL,ah e f 0 a/\
 R a e
theorem oV(c:Int)(a:Int)(b:Int)(d:@kA R h c a b):ab vV 15 #[c,a,b] h R:=aq af func15 .n d
def lI(b:Sl)(a:Int):Prop:=
 Br (a<(b.len:Int))
 (∃c,(b.ptr=some c/\0<=a/\a<(b.len:Int))/\
 ∃x2,cellOf h (c.add (a.toNat*1))=some (vL vR x2)/\
 R x2 h)
 (R (vL vR 0) h)
theorem rC(a:Sl)(b:Int)(c:@lI R h a b):ab vV 16 #[a,b] h R:=aq af func16 .n c
def Bp:Prop:=
 aL vV (qI 83 (vQ #[false,false,(vL vR 0),(vL vR 0)])) h fun b a=>
 R b a
theorem He(a:@Bp R h):ab vV 17 #[] h R:=aq af func17 .n a
def rY(I:bL)(b:Int)(d:aK)(a:Sl):Prop:=
 aL vV (qI 24 I) h fun m U=>
 ac vV 35 #[a] (.many [dv,kc]) U fun l H=>
 aV (σ:=Unit) (fun _ M=>
 aV (σ:=aK) (fun j V=>
 aS (σ:=Int) (fun f Q h8=>
 Br (f<(l.1.len:Int))
 (∃A,(l.1.ptr=some A/\0<=f/\f<(l.1.len:Int))/\
 ∃g,cellOf h8 (A.add (f.toNat*1))=some (vL vR g)/\
 ∃o,(a.ptr=some o/\0<=g/\g<(a.len:Int))/\
 ∃n,cellOf h8 (o.add (g.toNat*1))=some (vL vR n)/\
 ∃z,(j=some z)/\
 ∃w:db,ah h8 z 0 w/\
 ac vV 38 #[w] aN h8 fun D F=>
 (ar.ok [(o.add (g.toNat*1),n)] F)/\
 Br (n<(D.len:Int))
 (R (.tuple #[(vN none),(vL vR 7)]) F)
 (Q (qc vR (f+1)) F))
 (aS (σ:=Int) (fun i S e=>
 Br (i<(l.1.len:Int))
 (∃u,(l.1.ptr=some u/\0<=i/\i<(l.1.len:Int))/\
 ∃c,cellOf e (u.add (i.toNat*1))=some (vL vR c)/\
 ∃a22,(a.ptr=some a22/\0<=c/\c<(a.len:Int))/\
 ∃r,cellOf e (a22.add (c.toNat*1))=some (vL vR r)/\
 ∃s,(j=some s)/\
 ac vV 39 #[r,d] kb e fun E q=>
 (ar.ok [] q)/\
 (0<=c/\c<((64:Nat):Int))/\
 ae vV (qe 45 ((s.add 10).add (c.toNat*1)) E) q fun _ t=>
 (ar.ok [] t)/\
 S (qc vR (i+1)) t)
 (∃x,(j=some x)/\
 ∃v:db,ah e x 0 v/\
 ac vV 41 #[v,l.1] aN e fun B G=>
 ac vV 40 #[(.func (.func 28) #[j] #[]),B] bo G fun y p=>
 Br (y !=0)
 (R (.tuple #[(vN none),y]) p)
 (R (.tuple #[j,(vL vR 0)]) p))) (0:Int) h8)) (0:Int) V)
 (fun T=>
 ∃k:bL,ah M m 0 k/\
 ac vV 37 #[d] bo M fun P L=>
 (ar.ok [(m,k.1),(m.add 1,k.2.1),(m.add 2,k.2.2)] L)/\
 ∃K:Value,(au vV (yC 90 #[(0,(vQ #[(vL vR 1),(vL vR 0),k.1,k.2.1,k.2.2,b,l.1,(vM none 0 0)])),(1,d),(2,P)]) K)/\
 aL vV (qI 90 K) L fun a9 J=>
 (ar.ok [(m,k.1),(m.add 1,k.2.1),(m.add 2,k.2.2)] J)/\
 T (some a9) J))
 (fun O=>
 Br (!l.2) (R (.tuple #[(vN none),(vL vR 1)]) H) (∃x3:bL,ah H m 0 x3/\
 ac vV 36 #[x3] bU H fun N h3=>
 Br (!N) (R (.tuple #[(vN none),(vL vR 1)]) h3) (Br (b<0) (R (.tuple #[(vN none),(vL vR 1)]) h3) (Br (b>16) (R (.tuple #[(vN none),(vL vR 1)]) h3) (Br (qS d)
 (R (.tuple #[(vN none),(vL vR 1)]) h3)
 (O () h3))))))
theorem Ct(d:bL)(a:Int)(c:aK)(b:Sl)(e:@rY R h d a c b):ab vV 18 #[d,a,c,b] h R:=aq af func18 (an.tn (an.tn (.two (.join [] [(8,10),(23,42)] .n) (.two (.join [(12,Pk)] [(12,13),(42,51)] .n) (.two (an.tn (.inn (.loop [(53,be)] [(8,10),(14,15),(53,69)] .n))) (.two (an.tn (.inn (.loop [(71,be)] [(16,17),(71,87)] .n))) .n)))))) e
def fL(b:aK)(G:Int×ByteArray×Sl×Int×Int×Int×Int×Sl×Sl):Prop:=
 aL vV (qI 42 G) h fun g V=>
 aL vV (qJ 36 true (.tuple #[])) V fun c a=>
 aV (σ:=Unit) (fun _ i=>
 ∃p:Int×Sl×Sl×Int×Int×Int×Sl×Int,ah i c 0 p/\
 ae vV (qe 36 c p) i fun _ D=>
 ∃d:Int×Sl×Sl×Int×Int×Int×Sl×Int,ah D c 0 d/\
 R d D)
 (fun f=>
 ∃x3,cellOf a g=some (vL vR x3)/\
 Br (x3==1)
 (∃a4,(b=some a4)/\
 ∃P:aK,cellOf a (a4.add 1)=some (.pointer P)/\
 ∃L:ByteArray,cellOf a (g.add 1)=some (vO L)/\
 ∃O:Sl,cellOf a (g.add 2)=some (O:Value)/\
 ac vV 42 #[P,L,O] bo a fun U h3=>
 (ar.ok [] h3)/\
 ae vV (qe 28 c U) h3 fun _ S=>
 (ar.ok [] S)/\
 f () S)
 (Br (x3==2)
 (∃a9,(b=some a9)/\
 ∃y:aK,cellOf a (a9.add 1)=some (.pointer y)/\
 ∃x:ByteArray,cellOf a (g.add 1)=some (vO x)/\
 ac vV 43 #[y,x] (.many [dv,be]) a fun v Q=>
 (ar.ok [] Q)/\
 ae vV (qe 31 (c.add 1) v.1) Q fun _ M=>
 (ar.ok [] M)/\
 ae vV (qe 28 c v.2) M fun _ T=>
 (ar.ok [] T)/\
 f () T)
 (Br (x3==3)
 (∃o,(b=some o)/\
 ∃l:aK,cellOf a (o.add 1)=some (.pointer l)/\
 ∃t:ByteArray,cellOf a (g.add 1)=some (vO t)/\
 ac vV 44 #[l,t] bo a fun H h8=>
 (ar.ok [] h8)/\
 ae vV (qe 28 c H) h8 fun _ N=>
 (ar.ok [] N)/\
 f () N)
 (Br (x3==4)
 (∃q,(b=some q)/\
 ∃j:aK,cellOf a (q.add 1)=some (.pointer j)/\
 ac vV 45 #[j] aN a fun J E=>
 ae vV (qe 32 (c.add 2) J) E fun _ e=>
 ∃z,(b=some z)/\
 ∃u:aK,cellOf e (z.add 1)=some (.pointer u)/\
 Br (qS u) (ae vV (qe 28 c (vL vR 14)) e fun _ I=>
 f () I) (∃a22,(b=some a22)/\
 ∃r:aK,cellOf e (a22.add 1)=some (.pointer r)/\
 ac vV 46 #[r] bU e fun K s=>
 Br K
 (ae vV (qe 28 c (vL vR 14)) s fun _ F=>
 f () F)
 (f () s)))
 (Br (x3==5)
 (∃a25,(b=some a25)/\
 ∃n:aK,cellOf a (a25.add 1)=some (.pointer n)/\
 ∃B:ByteArray,cellOf a (g.add 1)=some (vO B)/\
 ac vV 47 #[n,B] (.many [(.agg [(.int .i64),(.int .i64),(.int .i64),.slc]),be]) a fun k A=>
 (ar.ok [] A)/\
 ae vV (qe 34 (c.add 3) k.1) A fun _ m=>
 (ar.ok [] m)/\
 ae vV (qe 28 c k.2) m fun _ w=>
 (ar.ok [] w)/\
 f () w)
 (f () a))))))
theorem gE(b:aK)(a:Int×ByteArray×Sl×Int×Int×Int×Int×Sl×Sl)(c:@fL R h b a):ab vV 19 #[b,a] h R:=aq af func19 (an.tn (.two (.join [] [(5,78)] .n) .n)) c
def kh(b:aK)(w:Int×ByteArray×Sl×Int×Int×Int×Int×Sl×Sl):Prop:=
 aL vV (qI 42 w) h fun c u=>
 aV (σ:=Unit) (fun _ h3=>
 aV (σ:=Unit) (fun _ E=>
 ∃s,(b=some s)/\
 ∃m:aK,cellOf E (s.add 1)=some (.pointer m)/\
 ac vV 58 #[m] aN E fun d J=>
 aS (σ:=Int) (fun a I f=>
 Br (a<(d.len:Int))
 (∃t,(d.ptr=some t/\0<=a/\a<(d.len:Int))/\
 ∃e,cellOf f (t.add (a.toNat*1))=some (vL vR e)/\
 ∃g,cellOf f (c.add 3)=some (vL vR g)/\
 Br (e !=g)
 (I (qc vR (a+1)) f)
 (∃r,(b=some r)/\
 ∃q:aK,cellOf f (r.add 1)=some (.pointer q)/\
 ac vV 28 #[q,e] kb f fun k F=>
 ∃o,cellOf F (c.add 4)=some (vL vR o)/\
 ac vV 13 #[k,o] aN F fun x h8=>
 ac vV 67 #[x] (.many [be,dv,kc]) h8 fun y l=>
 Br (!y.2.2)
 (R (vL vR 5) l)
 (∃i,cellOf l (c.add 4)=some (vL vR i)/\
 ∃j,cellOf l (c.add 5)=some (vL vR j)/\
 ∃p,cellOf l (c.add 6)=some (vL vT p)/\
 ac vV 68 #[k,i,j,(vL vT p)] bU l fun _ v=>
 R (vL vR 0) v)))
 (R (vL vR 5) f)) (0:Int) J)
 (fun K=>
 ∃G,cellOf h3 (c.add 5)=some (vL vR G)/\
 Br (G<0) (R (vL vR 1) h3) (∃D,cellOf h3 (c.add 5)=some (vL vR D)/\
 Br (D>60) (R (vL vR 1) h3) (∃n,cellOf h3 (c.add 6)=some (vL vT n)/\
 Br (n==0)
 (R (vL vR 1) h3)
 (K () h3)))))
 (fun H=>
 ∃z,(b=some z)/\
 ∃x3:aK,cellOf u (z.add 1)=some (.pointer x3)/\
 Br (qS x3) (R (vL vR 14) u) (∃a4,(b=some a4)/\
 ∃B:aK,cellOf u (a4.add 1)=some (.pointer B)/\
 ac vV 46 #[B] bU u fun L A=>
 Br L
 (R (vL vR 14) A)
 (H () A)))
theorem oh(b:aK)(a:Int×ByteArray×Sl×Int×Int×Int×Int×Sl×Sl)(c:@kh R h b a):ab vV 25 #[b,a] h R:=aq af func25 (an.tn (.two (.join [] [(4,5),(11,23)] .n) (.two (.join [] [(4,5),(23,36)] .n) (.two (an.tn (.inn (.loop [(42,be)] [(4,5),(6,11),(42,76)] .n))) .n)))) c
def md(b:aK)(a:Int):Prop:=
 aV (σ:=Unit) (fun _ c=>
 ∃d,(b=some d)/\
 (0<=a/\a<((64:Nat):Int))/\
 ∃x3:aK,cellOf c ((d.add 10).add (a.toNat*1))=some (.pointer x3)/\
 R x3 c)
 (fun e=>
 Br (qS b) (R (vN none) h) (Br (a<0) (R (vN none) h) (Br (a>=64)
 (R (vN none) h)
 (e () h))))
theorem rZ(b:aK)(a:Int)(c:@md R h b a):ab vV 28 #[b,a] h R:=aq af func28 (an.tn (.two (.join [] [(4,15)] .n) .n)) c
def jc(a:Sl):Prop:=
 Br ((a.len:Int) !=64)
 (R (.tuple #[(vL vR 0),(vM none 0 0),false]) h)
 (∃b,(a.ptr=some b/\0<=(3:Int)/\(3:Int)<(a.len:Int))/\
 ∃x2:Int,cellOf h (b.add ((3:Int).toNat*1))=some (vL vS x2)/\
 (0<=(4:Int)/\(4:Int)<=(59:Int)/\(59:Int)<=(a.cap:Int))/\
 aw vV (qx #[31,31] 31 #[(vM none 0 0),(.slice (if a.cap=(4:Int).toNat then a.ptr else a.ptr.map (·.add ((4:Int).toNat*1))) ((59:Int).toNat-(4:Int).toNat) (a.cap-(4:Int).toNat))]) aN h fun v3 c=>
 (ar.ok [(b.add ((3:Int).toNat*1),(vL vS x2))] c)/\
 ac vV 74 #[(qc vR x2),v3] aN c fun e d=>
 ac vV 32 #[e,a] bU d fun f h3=>
 Br (!f)
 (R (.tuple #[(vL vR 0),(vM none 0 0),false]) h3)
 (R (.tuple #[(qc vR x2),v3,true]) h3))
theorem mC(a:Sl)(b:@jc R h a):ab vV 29 #[a] h R:=aq af func29 .n b
def jE(b:Sl):Prop:=
 aS (σ:=Int×Int) (fun a e c=>
 Br (a.2<(b.len:Int))
 ((0<=(8:Int))/\
 ∃d,(b.ptr=some d/\0<=a.2/\a.2<(b.len:Int))/\
 ∃x3,cellOf c (d.add (a.2.toNat*1))=some (vL vS x3)/\
 e (qc vR ((qq (qf vR) (qc vR (a.1*2^min (8:Int).toNat (qf vR)))|||(qq (qf vR) (qc vR x3))).toNat:Nat),qc vR (a.2+1)) c)
 (R a.1 c)) ((0:Int),(0:Int)) h
theorem nN(a:Sl)(b:@jE R h a):ab vV 30 #[a] h R:=aq af func30 (an.tn (an.tn (.two (an.tn (.inn (.loop [(3,be),(7,be)] [(3,5),(7,19)] .n))) .n))) b
def kU(c:bL):Prop:=
 aL vV (qI 24 c) h fun b a=>
 ∃x2,cellOf a b=some (vL vR x2)/\
 Br (x2>=1) (∃x3,cellOf a b=some (vL vR x3)/\
 Br (x3<=16) (∃e,cellOf a (b.add 1)=some (vL vR e)/\
 Br (e>=1) (∃f,cellOf a (b.add 1)=some (vL vR f)/\
 Br (f<=4) (∃d,cellOf a (b.add 2)=some (vL vR d)/\
 Br (d>=1) (∃g,cellOf a (b.add 2)=some (vL vR g)/\
 R (decide (g<=24)) a) (R false a)) (R false a)) (R false a)) (R false a)) (R false a)
theorem pE(a:bL)(b:@kU R h a):ab vV 31 #[a] h R:=aq af func31 .n b
def jd(a:Sl)(c:Sl):Prop:=
 Br ((a.len:Int) !=(c.len:Int))
 (R false h)
 (aS (σ:=Int) (fun b g d=>
 Br (b<(a.len:Int))
 (∃f,(a.ptr=some f/\0<=b/\b<(a.len:Int))/\
 ∃x3,cellOf d (f.add (b.toNat*1))=some (vL vS x3)/\
 ∃a4,(c.ptr=some a4/\0<=b/\b<(c.len:Int))/\
 ∃e,cellOf d (a4.add (b.toNat*1))=some (vL vS e)/\
 Br (x3 !=e)
 (R false d)
 (g (qc vR (b+1)) d))
 (R true d)) (0:Int) h)
theorem mD(b:Sl)(a:Sl)(c:@jd R h b a):ab vV 32 #[b,a] h R:=aq af func32 (an.tn (an.tn (.two (an.tn (.inn (.loop [(13,be)] [(4,6),(13,26)] .n))) .n))) c
def iH(o:cH):Prop:=
 aL vV (qI 49 o) h fun a z=>
 ∃x2:cH,ah z a 0 x2/\
 ac vV 75 #[x2] bU z fun D g=>
 Br (!D)
 (R (vM none 0 0) g)
 (aV (σ:=Sl) (fun r l=>
 ∃i,cellOf l (a.add 3)=some (vL vR i)/\
 ∃j,cellOf l ((a.add 3).add 1)=some (vL vR j)/\
 ∃f,cellOf l ((a.add 3).add 2)=some (vL vR f)/\
 aw vV (qu 31 3 #[(0,(vL vS (qc vS i))),(1,(vL vS (qc vS j))),(2,(vL vS (qc vS f)))]) aN l fun n F=>
 aw vV (qx #[31,31] 31 #[r,n]) aN F fun m h8=>
 ∃b,cellOf h8 (a.add 6)=some (vL vT b)/\
 ∃c:Sl,cellOf h8 (a.add 7)=some (c:Value)/\
 ac vV 76 #[m,(qc vR b),(vL vR 4)] aN h8 fun p v=>
 (ar.ok [(a.add 7,c),(a.add 6,(vL vT b))] v)/\
 aw vV (qx #[31,31] 31 #[p,c]) aN v fun t d=>
 (ar.ok [(a.add 6,(vL vT b))] d)/\
 ac vV 74 #[(vL vR 1),t] aN d fun q e=>
 (ar.ok [(a.add 6,(vL vT b))] e)/\
 R q e)
 (fun A=>
 ∃w,cellOf g a=some (vL vR w)/\
 ∃s,cellOf g (a.add 1)=some (vL vR s)/\
 ∃k,cellOf g (a.add 2)=some (vL vR k)/\
 ac vV 76 #[(vM none 0 0),w,(vL vR 3)] aN g fun B h3=>
 (ar.ok [(a.add 2,k),(a.add 1,s)] h3)/\
 ac vV 76 #[B,s,(vL vR 1)] aN h3 fun E y=>
 (ar.ok [(a.add 2,k)] y)/\
 ac vV 76 #[E,k,(vL vR 2)] aN y fun u x=>
 (ar.ok [] x)/\
 A (⟨u.ptr,u.len,u.cap⟩:Sl) x))
theorem lY(a:cH)(b:@iH R h a):ab vV 33 #[a] h R:=aq af func33 (an.tn (an.tn (.two (.join [(3,dv)] [(3,4),(7,16)] .n) .n))) b
def uw(a:Sl):Prop:=
 Br (qS a.ptr)
 (R (vM none 0 0) h)
 (aw vV (qu 31 0 #[]) aN h fun d c=>
 aw vV (qx #[31,31] 31 #[d,a]) aN c fun e b=>
 R e b)
theorem DC(a:Sl)(b:@uw R h a):ab vV 34 #[a] h R:=aq af func34 .n b
def sa(a:Sl):Prop:=
 aS (σ:=Sl×Int) (fun b f c=>
 Br (b.2<(a.len:Int))
 (∃g,(a.ptr=some g/\0<=b.2/\b.2<(a.len:Int))/\
 ∃x3,cellOf c (g.add (b.2.toNat*1))=some (vL vR x3)/\
 aV (σ:=Unit) (fun _ e=>
 Br (x3>0)
 (aw vV (qu 22 1 #[(0,b.2)]) aN e fun v5 h3=>
 aw vV (qx #[22,22] 22 #[b.1,v5]) aN h3 fun d i=>
 f ((⟨d.ptr,d.len,d.cap⟩:Sl),qc vR (b.2+1)) i)
 (f ((⟨b.1.ptr,b.1.len,b.1.cap⟩:Sl),qc vR (b.2+1)) e))
 (fun j=>
 Br (x3<0) (R (.tuple #[(vM none 0 0),false]) c) (Br (x3>512)
 (R (.tuple #[(vM none 0 0),false]) c)
 (j () c))))
 (Br ((a.len:Int)<=64) (R (.tuple #[b.1,(decide ((b.1.len:Int)>0))]) c) (R (.tuple #[b.1,false]) c))) ((⟨none,0,0⟩:Sl),(0:Int)) h
theorem Cu(a:Sl)(b:@sa R h a):ab vV 35 #[a] h R:=aq af func35 (an.tn (an.tn (.two (an.tn (.inn (.loop [(4,dv),(9,be)] [(2,7),(9,27)] (an.tn (an.tn (.two (.inn (an.tn (.two (.join [] [(2,4),(14,20)] .n) .n))) .n)))))) .n))) b
def Gv(c:bL):Prop:=
 aL vV (qI 24 c) h fun b a=>
 ∃x2,cellOf a b=some (vL vR x2)/\
 Br (x2>=1) (∃x3,cellOf a b=some (vL vR x3)/\
 Br (x3<=16) (∃e,cellOf a (b.add 1)=some (vL vR e)/\
 Br (e>=1) (∃f,cellOf a (b.add 1)=some (vL vR f)/\
 Br (f<=4) (∃d,cellOf a (b.add 2)=some (vL vR d)/\
 Br (d>=1) (∃g,cellOf a (b.add 2)=some (vL vR g)/\
 R (decide (g<=24)) a) (R false a)) (R false a)) (R false a)) (R false a)) (R false a)
theorem KM(a:bL)(b:@Gv R h a):ab vV 36 #[a] h R:=aq af func36 .n b
def nj(a:aK):Prop:=
 Br (qS a)
 (R (vL vR 0) h)
 (∃b,(a=some b)/\
 ∃x2,cellOf h (b.add 3)=some (vL vR x2)/\
 R x2 h)
theorem tz(a:aK)(b:@nj R h a):ab vV 37 #[a] h R:=aq af func37 .n b
def xB(d:db):Prop:=
 aL vV (qI 88 d) h fun k i=>
 ∃x2:db,ah i k 0 x2/\
 ac vV 77 #[x2] aN i fun b l=>
 ((48:Int)≠0)/\
 aS (σ:=Sl×Int) (fun a m h3=>
 Br (decide (a.2<(qc vR (wQ (qc vR ((qc vR ((b.len:Int)+48))-1)) 48))))
 (∃g,cellOf h3 k=some (vL vR g)/\
 (0<=(qc vR (a.2*48))/\(qc vR (a.2*48))<=(if(qc vR ((qc vR (a.2+1))*48))<(b.len:Int)then qc vR ((qc vR (a.2+1))*48)else(b.len:Int))/\(if(qc vR ((qc vR (a.2+1))*48))<(b.len:Int)then qc vR ((qc vR (a.2+1))*48)else(b.len:Int))<=(b.cap:Int))/\
 ac vV 78 #[g,a.2,(qc vR (wQ (qc vR ((qc vR ((b.len:Int)+48))-1)) 48)),(.slice (if b.cap=(qc vR (a.2*48)).toNat then b.ptr else b.ptr.map (·.add ((qc vR (a.2*48)).toNat*1))) ((if(qc vR ((qc vR (a.2+1))*48))<(b.len:Int)then qc vR ((qc vR (a.2+1))*48)else(b.len:Int)).toNat-(qc vR (a.2*48)).toNat) (b.cap-(qc vR (a.2*48)).toNat))] aN h3 fun o e=>
 (ar.ok [] e)/\
 aw vV (qu 72 1 #[(0,o)]) aN e fun n j=>
 (ar.ok [] j)/\
 aw vV (qx #[72,72] 72 #[a.1,n]) aN j fun c f=>
 (ar.ok [] f)/\
 m ((⟨c.ptr,c.len,c.cap⟩:Sl),qc vR (a.2+1)) f)
 (R a.1 h3)) ((⟨none,0,0⟩:Sl),(0:Int)) l
theorem Fs(a:db)(b:@xB R h a):ab vV 38 #[a] h R:=aq af func38 (an.tn (an.tn (an.tn (an.tn (.two (an.tn (.inn (.loop [(5,dv),(16,be)] [(5,8),(16,39)] .n))) .n))))) b
def Bq(a:Int)(b:aK):Prop:=
 aV (σ:=Unit) (fun _ e=>
 aL vV (qI 74 (vQ #[b,a,(vM none 0 0),(vL vR 0),(vM none 0 0),false,false])) e fun f c=>
 R f c)
 (fun d=>
 Br (a<1) (R (vN none) h) (Br (a>512) (R (vN none) h) (Br (qS b)
 (R (vN none) h)
 (d () h))))
theorem Hg(a:Int)(b:aK)(c:@Bq R h a b):ab vV 39 #[a,b] h R:=aq af func39 (an.tn (.two (.join [] [(4,15)] .n) .n)) c
end
end Go.Qw
