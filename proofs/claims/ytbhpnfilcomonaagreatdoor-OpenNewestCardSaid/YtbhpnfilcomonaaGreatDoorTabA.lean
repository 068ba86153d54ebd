/- Lemmas for the proof of the law; no condition. -/
import Derived.Test.YtbhpnfilcomonaaGreatDoorPlA
import Derived.Test.YtbhpnfilcomonaaGreatDoorProg
set_option linter.unusedVariables false
open Go.Proofs.Tryz renaming prog -> xa
open Go.Value renaming agg -> vV, bool -> vU, int -> vQ, pointer -> vS, slice -> vR, string -> vT
open Go.IntKind renaming bits -> qj, i64 -> vW, u32 -> vY, u64 -> vZ, u8 -> vX, wrap -> qc
open List renaming replicate -> qh, toArray -> vj
open Go.Instr renaming alloc -> qG, box -> qI, build -> ve, buildSlice -> qt, storeAt -> qe
open Option renaming isNone -> qO
open Go.Builtin renaming append_ -> qu
open Int renaming fdiv -> qL, tdiv -> w5, tmod -> zY
open BitVec renaming ofInt -> qy
open Go.Proofs.Tryz
set_option maxRecDepth 1000000
namespace Go.Qw
noncomputable section
open Go Go.Vc Go.Proofs
instance:Coe Int Value:=⟨fun x=>vQ vW x⟩
instance:Coe Sl Value:=⟨fun s=>vR s.ptr s.len s.cap⟩
instance:Coe ByteArray Value:=⟨.string⟩
instance:Coe (Option Addr) Value:=⟨.pointer⟩
instance:Coe Addr Value:=⟨fun a=>vS (some a)⟩
instance:Coe Bool Value:=⟨.bool⟩
instance:Coe (Int×Int×Int) (List Value):=⟨fun x=>[x.1,x.2.1,x.2.2]⟩
instance:Coe (Int×Int×Int) Value:=⟨fun x=>vV (vj x)⟩
instance:Coe (Int×Int×Int×Int×Int×Int×Sl×Sl) (List Value):=⟨fun x=>[x.1,x.2.1,x.2.2.1,x.2.2.2.1,x.2.2.2.2.1,x.2.2.2.2.2.1,x.2.2.2.2.2.2.1,x.2.2.2.2.2.2.2]⟩
instance:Coe (Int×Int×Int×Int×Int×Int×Sl×Sl) Value:=⟨fun x=>vV (vj x)⟩
instance:Coe (ByteArray×Int×Int×Sl) (List Value):=⟨fun x=>[x.1,x.2.1,x.2.2.1,x.2.2.2]⟩
instance:Coe (ByteArray×Int×Int×Sl) Value:=⟨fun x=>vV (vj x)⟩
instance:Coe (Int×Sl) (List Value):=⟨fun x=>[x.1,x.2]⟩
instance:Coe (Int×Sl) Value:=⟨fun x=>vV (vj x)⟩
instance:Coe (Int×Int×Int×Int×Int×Int×Int×Sl) (List Value):=⟨fun x=>[x.1,x.2.1,x.2.2.1,x.2.2.2.1,x.2.2.2.2.1,x.2.2.2.2.2.1,(vQ vY x.2.2.2.2.2.2.1),x.2.2.2.2.2.2.2]⟩
instance:Coe (Int×Int×Int×Int×Int×Int×Int×Sl) Value:=⟨fun x=>vV (vj x)⟩
instance:Coe (Int×Int×Int×Sl×Sl) (List Value):=⟨fun x=>[x.1,x.2.1,x.2.2.1,x.2.2.2.1,x.2.2.2.2]⟩
instance:Coe (Int×Int×Int×Sl×Sl) Value:=⟨fun x=>vV (vj x)⟩
abbrev gr:=ByteArray×Int×Int×Sl
abbrev bX:=Int×Int×Int
abbrev bH:=Int×Int×Int×Int×Int×Int×Sl×Sl
abbrev dA:=Int×Int×Int×Int×Int×Int×Int×Sl
abbrev lN:=Int×Int×Int×Sl×Sl
abbrev YL:=Int×Int×Int×Bool×Bool
abbrev TO:Ty:=.agg [(.int .i64),(.int .i64),(.int .i64),(.int .i64),(.int .i64),(.int .i64),.slc,.slc]
abbrev aO:Rt:=.one (.sc .slc)
abbrev bp:Rt:=.one (.sc (.int .i64))
abbrev iX:Rt:=.one (.sc .ptr)
abbrev bY:Rt:=.one (.sc .bool)
abbrev ia:Rt:=.many []
abbrev dg:Ty:=.sc .slc
abbrev bc:Ty:=.sc (.int .i64)
abbrev NW:Ty:=.sc .ptr
abbrev ji:Ty:=.sc .bool
abbrev UX:Ty:=.sc .str
variable {R:ug} {h:Heap}
def Xm:ByteArray:=⟨#[0]⟩
def Xn:ByteArray:=⟨#[]⟩
def pJ:ByteArray:=⟨#[105,116]⟩
abbrev aR:TI:=⟨.fn,(.sc .fn),1,8,[.nilFunc]⟩
abbrev UY:TI:=⟨.int .i64,(.sc (.int .i64)),1,8,[(vQ vW 0)]⟩
abbrev UZ:TI:=⟨.int .u8,(.sc (.int .u8)),1,1,[(vQ vX 0)]⟩
abbrev Xo:TI:=⟨.str,(.sc .str),1,16,[(.string ⟨#[]⟩)]⟩
abbrev Va:TI:=⟨.int .u64,(.sc (.int .u64)),1,8,[(vQ vZ 0)]⟩
abbrev Xp:TI:=⟨.int .i32,(.sc (.int .i32)),1,4,[(.int .i32 0)]⟩
abbrev Xq:TI:=⟨.other,(.sc .any),1,0,[(.tuple #[(vR none 0 0),(.bool .false)])]⟩
abbrev Xr:TI:=⟨.struct [(0,2),(1,3),(2,4),(3,6)],(.agg [(.int .i64),(.int .i64),.bool,(.int .u8)]),4,24,[(vQ vW 0),(vQ vW 0),(.bool .false),(vQ vX 0)]⟩
abbrev Xt:TI:=⟨.struct [(0,9),(1,12)],(.agg [.str,(.int .u64)]),2,24,[(vT ⟨#[]⟩),(vQ vZ 0)]⟩
abbrev Xu:TI:=⟨.struct [(0,17)],(.agg [.ptr]),1,8,[(vS none)]⟩
abbrev Xv:TI:=⟨.struct [(0,3),(1,3),(2,3)],(.agg [(.int .i64),(.int .i64),(.int .i64)]),3,24,[(vQ vW 0),(vQ vW 0),(vQ vW 0)]⟩
abbrev Xw:TI:=⟨.other,(.sc .any),1,0,[(.tuple #[(vS none),(vQ vW 0)])]⟩
abbrev Xx:TI:=⟨.struct [(0,3),(1,3),(2,24),(5,3),(6,22),(7,45)],(.agg [(.int .i64),(.int .i64),(.int .i64),(.int .i64),(.int .i64),(.int .i64),.slc,.slc]),8,96,[(vQ vW 0),(vQ vW 0),(vQ vW 0),(vQ vW 0),(vQ vW 0),(vQ vW 0),(vR none 0 0),(vR none 0 0)]⟩
abbrev Xy:TI:=⟨.struct [(0,4),(1,4),(2,3),(3,3)],(.agg [.bool,.bool,(.int .i64),(.int .i64)]),4,24,[(.bool .false),(.bool .false),(vQ vW 0),(vQ vW 0)]⟩
abbrev Xz:TI:=⟨.struct [(0,47),(8,27),(9,3),(10,61)],(.arr .any),74,624,[(vQ vW 0),(vQ vW 0),(vQ vW 0),(vQ vW 0),(vQ vW 0),(vQ vW 0),(vR none 0 0),(vR none 0 0),(vS none),(vQ vW 0)]++qh 64 (vS none)⟩
abbrev XA:TI:=⟨.struct [(0,27),(1,3),(2,64),(3,3),(4,64),(5,4),(6,4)],(.agg [.ptr,(.int .i64),.slc,(.int .i64),.slc,.bool,.bool]),7,80,[(vS none),(vQ vW 0),(vR none 0 0),(vQ vW 0),(vR none 0 0),(.bool .false),(.bool .false)]⟩
abbrev XB:TI:=⟨.struct [(0,9),(1,3),(2,3),(3,22)],(.agg [.str,(.int .i64),(.int .i64),.slc]),4,56,[(vT ⟨#[]⟩),(vQ vW 0),(vQ vW 0),(vR none 0 0)]⟩
abbrev Vb:TI:=⟨.struct [(0,3),(1,38)],(.agg [(.int .i64),.slc]),2,32,[(vQ vW 0),(vR none 0 0)]⟩
abbrev Vd:TI:=⟨.struct [(0,3),(1,3),(2,3),(3,24),(6,111),(7,38)],(.agg [(.int .i64),(.int .i64),(.int .i64),(.int .i64),(.int .i64),(.int .i64),(.int .u32),.slc]),8,80,[(vQ vW 0),(vQ vW 0),(vQ vW 0),(vQ vW 0),(vQ vW 0),(vQ vW 0),(vQ vY 0),(vR none 0 0)]⟩
abbrev Ve:TI:=⟨.struct [(0,24),(3,111),(4,64)],(.agg [(.int .i64),(.int .i64),(.int .i64),(.int .u32),.slc]),5,56,[(vQ vW 0),(vQ vW 0),(vQ vW 0),(vQ vY 0),(vR none 0 0)]⟩
abbrev Vf:TI:=⟨.struct [(0,3),(1,157)],(.agg [(.int .i64),(.flt .f64)]),2,16,[(vQ vW 0),(.float Go.FloatKind.f64 0)]⟩
abbrev Vg:TI:=⟨.struct [(0,182),(255,184)],(.arr .any),511,2304,qh 255 (vQ vX 0)++qh 256 (vQ vW 0)⟩
abbrev Vh:TI:=⟨.struct [(0,153),(1,153),(2,3),(3,3),(4,4)],(.agg [(.cpx .f64),(.cpx .f64),(.int .i64),(.int .i64),.bool]),5,56,[(.complex Go.FloatKind.f64 0 0),(.complex Go.FloatKind.f64 0 0),(vQ vW 0),(vQ vW 0),(.bool .false)]⟩
abbrev Vi:TI:=⟨.other,(.sc .any),1,0,[(.tuple #[(vQ vW 0),(vQ vW 0)])]⟩
abbrev Vj:TI:=⟨.struct [(0,3),(1,3),(2,3),(3,38),(4,38)],(.agg [(.int .i64),(.int .i64),(.int .i64),.slc,.slc]),5,72,[(vQ vW 0),(vQ vW 0),(vQ vW 0),(vR none 0 0),(vR none 0 0)]⟩
abbrev Vk:TI:=⟨.struct [(0,211)],(.agg [(.int .u64)]),1,8,[(vQ vZ 0)]⟩
abbrev Vl:TI:=⟨.array 256 4,(.arr .bool),256,256,qh 256 (.bool .false)⟩
abbrev Vm:TI:=⟨.struct [(0,38),(1,4)],(.agg [.slc,.bool]),2,32,[(vR none 0 0),(.bool .false)]⟩
abbrev Vn:TI:=⟨.struct [(0,5),(1,5)],(.agg [(.int .u8),(.int .u8)]),2,2,[(vQ vX 0),(vQ vX 0)]⟩
abbrev Vo:TI:=⟨.struct [(0,17),(1,17),(2,17),(3,9)],(.agg [.ptr,.ptr,.ptr,.str]),4,40,[(vS none),(vS none),(vS none),(vT ⟨#[]⟩)]⟩
abbrev Vp:TI:=⟨.struct [(0,305)],(.agg []),0,0,[]⟩
abbrev Vq:TI:=⟨.struct [(0,12),(1,12),(2,111),(3,308),(4,5),(5,5),(6,309),(7,310),(8,311),(9,312),(10,313)],(.agg [(.int .u64),(.int .u64),(.int .u32),(.int .u8),(.int .u8),(.int .u8),(.int .u8),.fn,.ptr,(.int .i32),(.int .i32)]),11,48,[(vQ vZ 0),(vQ vZ 0),(vQ vY 0),(vQ vX 0),(vQ vX 0),(vQ vX 0),(vQ vX 0),.nilFunc,(vS none),(.int .i32 0),(.int .i32 0)]⟩
def Vr:jW:=[⟨.other,(.sc .any),1,0,[(.tuple #[])]⟩,aR,UY,UY,⟨.bool,(.sc .bool),1,1,[(.bool .false)]⟩,UZ,UZ,Xr,Xr,Xo,Xo,Xo,Va,Xt,Xt,⟨.ptr 304,(.sc .ptr),1,8,[(vS none)]⟩,⟨.ptr 307,(.sc .ptr),1,8,[(vS none)]⟩,⟨.ptr 315,(.sc .ptr),1,8,[(vS none)]⟩,Xu,Xu,⟨.other,(.sc .any),1,16,[.nilIface]⟩,Xp,⟨.slice 3,(.sc .slc),1,24,[(vR none 0 0)]⟩,Xv,Xv,⟨.other,(.sc .any),1,0,[(.tuple #[(.agg #[(vQ vW 0),(vQ vW 0),(vQ vW 0)]),(vQ vW 0),(vR none 0 0)])]⟩,aR,⟨.ptr 56,(.sc .ptr),1,8,[(vS none)]⟩,aR,⟨.ptr 63,(.sc .ptr),1,8,[(vS none)]⟩,UY,Xw,aR,aR,⟨.ptr 70,(.sc .ptr),1,8,[(vS none)]⟩,aR,aR,aR,⟨.slice 5,(.sc .slc),1,24,[(vR none 0 0)]⟩,aR,⟨.slice 34,(.sc .slc),1,24,[(vR none 0 0)]⟩,aR,aR,aR,aR,⟨.slice 73,(.sc .slc),1,24,[(vR none 0 0)]⟩,Xx,Xx,aR,aR,aR,aR,aR,aR,aR,Xy,Xy,Xq,aR,aR,aR,⟨.array 64 34,(.arr .ptr),64,512,qh 64 (vS none)⟩,Xz,Xz,⟨.slice 38,(.sc .slc),1,24,[(vR none 0 0)]⟩,aR,aR,⟨.slice 80,(.sc .slc),1,24,[(vR none 0 0)]⟩,aR,XA,XA,aR,XB,XB,aR,aR,Xq,aR,aR,Vb,Vb,aR,aR,aR,aR,⟨.other,(.sc .any),1,0,[(.tuple #[(.agg #[(vQ vW 0),(vQ vW 0),(vQ vW 0),(vQ vW 0),(vQ vW 0),(vQ vW 0),(vR none 0 0),(vR none 0 0)]),(.bool .false)])]⟩,aR,aR,aR,aR,aR,aR,aR,aR,aR,aR,aR,aR,aR,aR,aR,aR,aR,aR,aR,aR,aR,⟨.other,(.sc .any),1,0,[(.tuple #[(vQ vW 0),(.bool .false)])]⟩,aR,aR,aR,⟨.int .u32,(.sc (.int .u32)),1,4,[(vQ vY 0)]⟩,aR,⟨.ptr 152,(.sc .ptr),1,8,[(vS none)]⟩,Xw,aR,aR,aR,Vd,Vd,aR,aR,aR,aR,aR,aR,aR,aR,⟨.slice 47,(.sc .slc),1,24,[(vR none 0 0)]⟩,aR,aR,aR,aR,aR,aR,aR,aR,aR,aR,aR,Va,aR,aR,aR,aR,⟨.other,(.sc .any),1,0,[(.tuple #[(vR none 0 0),(vQ vW 0)])]⟩,aR,⟨.ptr 187,(.sc .ptr),1,8,[(vS none)]⟩,aR,aR,aR,Ve,Ve,⟨.cpx,(.sc (.cpx .f64)),1,16,[(.complex Go.FloatKind.f64 0 0)]⟩,aR,⟨.slice 160,(.sc .slc),1,24,[(vR none 0 0)]⟩,⟨.array 64 4,(.arr .bool),64,64,qh 64 (.bool .false)⟩,⟨.flt,(.sc (.flt .f64)),1,8,[(.float Go.FloatKind.f64 0)]⟩,aR,Vf,Vf,aR,aR,aR,aR,aR,aR,aR,aR,aR,aR,aR,⟨.slice 119,(.sc .slc),1,24,[(vR none 0 0)]⟩,aR,aR,aR,aR,aR,aR,aR,aR,aR,⟨.array 255 5,(.arr (.int .u8)),255,255,qh 255 (vQ vX 0)⟩,aR,⟨.array 256 3,(.arr (.int .i64)),256,2048,qh 256 (vQ vW 0)⟩,aR,Vg,Vg,aR,aR,⟨.ptr 193,(.sc .ptr),1,8,[(vS none)]⟩,aR,Vh,Vh,aR,aR,⟨.ptr 252,(.sc .ptr),1,8,[(vS none)]⟩,aR,aR,aR,aR,aR,aR,UY,Vi,aR,aR,aR,aR,aR,aR,Va,⟨.slice 214,(.sc .slc),1,24,[(vR none 0 0)]⟩,Vj,Vj,⟨.other,(.sc .any),1,0,[(.tuple #[(.agg #[(vQ vW 0),(vQ vW 0),(vQ vW 0),(vR none 0 0),(vR none 0 0)]),(.bool .false)])]⟩,aR,⟨.mp,(.sc .mp),1,8,[(.map none)]⟩,Xq,aR,aR,aR,aR,⟨.other,(.sc .any),1,0,[(.tuple #[(.agg #[(vQ vW 0),(vQ vW 0),(vQ vW 0),(vQ vW 0),(vQ vW 0),(vQ vW 0),(vQ vY 0),(vR none 0 0)]),(.bool .false)])]⟩,aR,aR,aR,aR,aR,aR,aR,aR,aR,aR,aR,aR,aR,aR,aR,aR,aR,aR,aR,aR,aR,aR,aR,aR,aR,aR,aR,Vk,Vk,Va,aR,aR,aR,⟨.ptr 3,(.sc .ptr),1,8,[(vS none)]⟩,aR,⟨.other,(.sc .any),1,0,[(.tuple #[(vQ vW 0),(vR none 0 0),(.bool .false)])]⟩,aR,aR,aR,aR,aR,aR,aR,aR,aR,aR,aR,aR,aR,aR,⟨.ptr 253,(.sc .ptr),1,8,[(vS none)]⟩,Vi,aR,aR,Vl,Vl,⟨.other,(.sc .any),1,0,[(.tuple #[(.agg #[(.bool .false),(.bool .false),(.bool .false),(.bool .false),(.bool .false),(.bool .false),(.bool .false),(.bool .false),(.bool .false),(.bool .false),(.bool .false),(.bool .false),(.bool .false),(.bool .false),(.bool .false),(.bool .false),(.bool .false),(.bool .false),(.bool .false),(.bool .false),(.bool .false),(.bool .false),(.bool .false),(.bool .false),(.bool .false),(.bool .false),(.bool .false),(.bool .false),(.bool .false),(.bool .false),(.bool .false),(.bool .false),(.bool .false),(.bool .false),(.bool .false),(.bool .false),(.bool .false),(.bool .false),(.bool .false),(.bool .false),(.bool .false),(.bool .false),(.bool .false),(.bool .false),(.bool .false),(.bool .false),(.bool .false),(.bool .false),(.bool .false),(.bool .false),(.bool .false),(.bool .false),(.bool .false),(.bool .false),(.bool .false),(.bool .false),(.bool .false),(.bool .false),(.bool .false),(.bool .false),(.bool .false),(.bool .false),(.bool .false),(.bool .false),(.bool .false),(.bool .false),(.bool .false),(.bool .false),(.bool .false),(.bool .false),(.bool .false),(.bool .false),(.bool .false),(.bool .false),(.bool .false),(.bool .false),(.bool .false),(.bool .false),(.bool .false),(.bool .false),(.bool .false),(.bool .false),(.bool .false),(.bool .false),(.bool .false),(.bool .false),(.bool .false),(.bool .false),(.bool .false),(.bool .false),(.bool .false),(.bool .false),(.bool .false),(.bool .false),(.bool .false),(.bool .false),(.bool .false),(.bool .false),(.bool .false),(.bool .false),(.bool .false),(.bool .false),(.bool .false),(.bool .false),(.bool .false),(.bool .false),(.bool .false),(.bool .false),(.bool .false),(.bool .false),(.bool .false),(.bool .false),(.bool .false),(.bool .false),(.bool .false),(.bool .false),(.bool .false),(.bool .false),(.bool .false),(.bool .false),(.bool .false),(.bool .false),(.bool .false),(.bool .false),(.bool .false),(.bool .false),(.bool .false),(.bool .false),(.bool .false),(.bool .false),(.bool .false),(.bool .false),(.bool .false),(.bool .false),(.bool .false),(.bool .false),(.bool .false),(.bool .false),(.bool .false),(.bool .false),(.bool .false),(.bool .false),(.bool .false),(.bool .false),(.bool .false),(.bool .false),(.bool .false),(.bool .false),(.bool .false),(.bool .false),(.bool .false),(.bool .false),(.bool .false),(.bool .false),(.bool .false),(.bool .false),(.bool .false),(.bool .false),(.bool .false),(.bool .false),(.bool .false),(.bool .false),(.bool .false),(.bool .false),(.bool .false),(.bool .false),(.bool .false),(.bool .false),(.bool .false),(.bool .false),(.bool .false),(.bool .false),(.bool .false),(.bool .false),(.bool .false),(.bool .false),(.bool .false),(.bool .false),(.bool .false),(.bool .false),(.bool .false),(.bool .false),(.bool .false),(.bool .false),(.bool .false),(.bool .false),(.bool .false),(.bool .false),(.bool .false),(.bool .false),(.bool .false),(.bool .false),(.bool .false),(.bool .false),(.bool .false),(.bool .false),(.bool .false),(.bool .false),(.bool .false),(.bool .false),(.bool .false),(.bool .false),(.bool .false),(.bool .false),(.bool .false),(.bool .false),(.bool .false),(.bool .false),(.bool .false),(.bool .false),(.bool .false),(.bool .false),(.bool .false),(.bool .false),(.bool .false),(.bool .false),(.bool .false),(.bool .false),(.bool .false),(.bool .false),(.bool .false),(.bool .false),(.bool .false),(.bool .false),(.bool .false),(.bool .false),(.bool .false),(.bool .false),(.bool .false),(.bool .false),(.bool .false),(.bool .false),(.bool .false),(.bool .false),(.bool .false),(.bool .false),(.bool .false),(.bool .false),(.bool .false),(.bool .false),(.bool .false),(.bool .false),(.bool .false),(.bool .false),(.bool .false),(.bool .false),(.bool .false),(.bool .false),(.bool .false),(.bool .false),(.bool .false),(.bool .false),(.bool .false),(.bool .false),(.bool .false),(.bool .false)]),(.bool .false)])]⟩,aR,aR,⟨.ptr 279,(.sc .ptr),1,8,[(vS none)]⟩,⟨.ptr 286,(.sc .ptr),1,8,[(vS none)]⟩,Vm,Vm,aR,aR,aR,aR,aR,aR,aR,aR,⟨.other,(.sc .any),1,0,[(.tuple #[(.int .i32 0),(vQ vW 0)])]⟩,aR,aR,⟨.array 256 5,(.arr (.int .u8)),256,256,qh 256 (vQ vX 0)⟩,Vn,Vn,⟨.array 16 300,(.arr (.int .u8)),32,32,qh 32 (vQ vX 0)⟩,aR,Vo,Vo,⟨.array 0 16,(.arr .ptr),0,0,[]⟩,Vp,Vp,UZ,UZ,aR,⟨.ptr 5,(.sc .ptr),1,8,[(vS none)]⟩,Xp,Xp,Vq,Vq,⟨.other,(.sc .any),1,8,[(vS none)]⟩]
def C:Ctx:={P:=xa,T:=Vr,tup:=[(0,[]),(25,[(.agg [(.int .i64),(.int .i64),(.int .i64)]),(.sc (.int .i64)),(.sc .slc)]),(31,[(.sc .ptr),(.sc (.int .i64))]),(57,[(.sc .slc),(.sc .bool)]),(76,[(.sc .slc),(.sc .bool)]),(85,[(.agg [(.int .i64),(.int .i64),(.int .i64),(.int .i64),(.int .i64),(.int .i64),.slc,.slc]),(.sc .bool)]),(107,[(.sc (.int .i64)),(.sc .bool)]),(114,[(.sc .ptr),(.sc (.int .i64))]),(145,[(.sc .slc),(.sc (.int .i64))]),(204,[(.sc (.int .i64)),(.sc (.int .i64))]),(215,[(.agg [(.int .i64),(.int .i64),(.int .i64),.slc,.slc]),(.sc .bool)]),(218,[(.sc .slc),(.sc .bool)]),(223,[(.agg [(.int .i64),(.int .i64),(.int .i64),(.int .i64),(.int .i64),(.int .i64),(.int .u32),.slc]),(.sc .bool)]),(259,[(.sc (.int .i64)),(.sc .slc),(.sc .bool)]),(275,[(.sc (.int .i64)),(.sc (.int .i64))]),(280,[(.arr .bool),(.sc .bool)]),(295,[(.sc (.int .i32)),(.sc (.int .i64))])],fns:=[false,false]++qh 252 true++qh 23 false++[true]}
theorem Yo:(List.range C.T.length).map (jW.seen C.P)=C.T.map jW.told:=by kernel_rfl
theorem Wh:C.P.follows .mixedOrders=true:=by kernel_rfl
theorem Yp:(C.P.funcs.toList.map fun f=>!(f.name== "runtime.NumGoroutine")&&f.body.isSome)=C.fns:=by kernel_rfl
theorem af:C.Ok:={Vr:=Yo,mixed:=Wh,fns:=Yp}
def iY(P:Sl)(Z:Int)(Q:Int)(e:Int):Prop:=
 ae xa 4 #[P] (.many [(.agg [(.int .i64),(.int .i64),(.int .i64)]),bc,dg]) h fun r1 h1=>
 aI xa (qG 24 true (.tuple #[])) h1 fun v h2=>
 ab xa (qe 24 v r1.1) h2 fun _ h3=>
 ae xa 5 #[] iX h3 fun w h4=>
 ∃x4:bX,ai h4 v 0 x4/\
 av xa (qt 22 3 #[(0,(vQ vW 90)),(1,(vQ vW 90)),(2,(vQ vW 90))]) aO h4 fun v5 h5=>
 ae xa 6 #[x4,r1.2.1,w,v5] (.many [NW,bc]) h5 fun i B=>
 aY (σ:=Unit) (fun _ h7=>
 ae xa 7 #[e,(vQ vW 3)] bp h7 fun n h8=>
 ae xa 8 #[i.1,n] iX h8 fun r9 h9=>
 ae xa 9 #[r9,w] iX h9 fun d g=>
 ∃q,cellOf g v=some (vQ vW q)/\
 ∃r,cellOf g (v.add 2)=some (vQ vW r)/\
 ae xa 7 #[Z,(qc vW ((qc vW (q*r))+1))] bp g fun M z=>
 ae xa 11 #[M,Q] aO z fun I F=>
 ae xa 10 #[i.1,pJ,I] bp F fun s c=>
 aY (σ:=Unit) (fun _ O=>
 ae xa 12 #[i.1] aO O fun b H=>
 ∃m,(b.ptr=some m/\0<=n/\n<(b.len:Int))/\
 ab xa (qe 34 (m.add (n.toNat*1)) d) H fun _ X=>
 ae xa 13 #[(vQ vW 5),w] iX X fun L G=>
 ∃p,(b.ptr=some p/\0<=(9:Int)/\(9:Int)<(b.len:Int))/\
 ab xa (qe 34 (p.add ((9:Int).toNat*1)) L) G fun _ T=>
 ae xa 14 #[w,b] (.many [NW,bc]) T fun a f=>
 aY (σ:=Unit) (fun _ E=>
 ae xa 18 #[a.1] aO E fun W o=>
 Br ((W.len:Int)==3) (ae xa 19 #[] bY o fun U N=>
 R U N) (R false o))
 (fun K3=>
 Br (a.2 !=0) (R false f) (Br (qO a.1) (R false f) (ae xa 16 #[a.1] (.one (.agg [(.int .i64),(.int .i64),(.int .i64),(.int .i64),(.int .i64),(.int .i64),.slc,.slc])) f fun ad K=>
 ae xa 16 #[i.1] (.one (.agg [(.int .i64),(.int .i64),(.int .i64),(.int .i64),(.int .i64),(.int .i64),.slc,.slc])) K fun A V=>
 ae xa 15 #[ad,A] bY V fun y j=>
 Br (!y) (R false j) (ae xa 8 #[a.1,(vQ vW 9)] iX j fun D u=>
 Br (!(qO D)) (R false u) (ae xa 8 #[a.1,n] iX u fun Y t=>
 ∃k:Bool,(fR xa .neq 34 (.tmp 111) (.tmp 112) Y d (vU k))/\
 Br k (R false t) (ae xa 16 #[i.1] (.one (.agg [(.int .i64),(.int .i64),(.int .i64),(.int .i64),(.int .i64),(.int .i64),.slc,.slc])) t fun J S=>
 ae xa 17 #[d,J] bY S fun x l=>
 Br (!x)
 (R false l)
 (K3 () l))))))))
 (fun K2=>
 Br (qO d) (R false c) (Br (s !=0) (Br (s !=8)
 (R false c)
 (K2 () c)) (K2 () c))))
 (fun K1=>
 Br (i.2 !=0) (R false B) (Br (qO i.1)
 (R false B)
 (K1 () B)))
theorem mu(c:Sl)(d:Int)(b:Int)(a:Int)(e:@iY R h c d b a):ac xa 3 #[c,d,b,a] h R:=ao af func3 (ak.tn (ak.tn (ak.tn (ak.tn (.two (.join [] [(8,9),(37,43)] .n) (ak.tn (ak.tn (ak.tn (.two (.join [] [(8,9),(62,72)] .n) (ak.tn (ak.tn (ak.tn (ak.tn (ak.tn (.two (.join [] [(8,9),(89,122)] .n) .n))))))))))))))) e
def kM(b:Sl):Prop:=
 aI xa (qG 24 true (.tuple #[])) h fun u E=>
 ae xa 21 #[b,(vQ vW 0)] bp E fun D z=>
 ae xa 21 #[b,(vQ vW 1)] bp z fun B h3=>
 ae xa 21 #[b,(vQ vW 2)] bp h3 fun F H=>
 ae xa 20 #[D,B,F] (.one (.agg [(.int .i64),(.int .i64),(.int .i64)])) H fun x I=>
 aI xa (qG 24 true (.tuple #[])) I fun d y=>
 ab xa (qe 24 d x) y fun _ G=>
 aN (σ:=Sl×Int) (fun i K1 h8=>
 ae xa 21 #[b,(vQ vW 4)] bp h8 fun A v=>
 ae xa 7 #[A,(vQ vW 4)] bp v fun w f=>
 Br (i.2<(qc vW (2+w)))
 (ae xa 21 #[b,(qc vW (5+i.2))] bp f fun t l=>
 ae xa 7 #[t,(vQ vW 50)] bp l fun m o=>
 av xa (qt 22 1 #[(0,(qc vW (8+m)))]) aO o fun n p=>
 av xa (qu #[22,22] 22 #[i.1,n]) aO p fun g q=>
 K1 ((⟨g.ptr,g.len,g.cap⟩:Sl),qc vW (i.2+1)) q)
 (∃a:bX,ai f d 0 a/\
 ae xa 21 #[b,(vQ vW 3)] bp f fun s j=>
 (aB.ok [(d,a.1),(d.add 1,a.2.1),(d.add 2,a.2.2)] j)/\
 ae xa 7 #[s,(vQ vW 7)] bp j fun r k=>
 (aB.ok [(d,a.1),(d.add 1,a.2.1),(d.add 2,a.2.2)] k)/\
 ab xa (qe 24 u a) k fun _ e=>
 (aB.ok [] e)/\
 ∃c:bX,ai e u 0 c/\
 R (.tuple #[c,r,i.1]) e)) ((⟨none,0,0⟩:Sl),(0:Int)) G
theorem oN(a:Sl)(b:@kM R h a):ac xa 4 #[a] h R:=ao af func4 (ak.tn (ak.tn (ak.tn (ak.tn (.two (ak.tn (.inn (.loop [(7,dg),(8,bc)] [(7,9),(16,35)] .n))) .n))))) b
def Cu:Prop:=
 aI xa (qI 56 (vV #[false,false,(vQ vW 0),(vQ vW 0)])) h fun b a=>
 R b a
theorem IG(a:@Cu R h):ac xa 5 #[] h R:=ao af func5 .n a
def sP(G:bX)(b:Int)(d:aM)(a:Sl):Prop:=
 aI xa (qI 24 G) h fun m S=>
 ae xa 22 #[a] (.many [dg,ji]) S fun l F=>
 aY (σ:=Unit) (fun _ L=>
 aY (σ:=aM) (fun i U=>
 aN (σ:=Int) (fun g P h8=>
 Br (g<(l.1.len:Int))
 (∃u,(l.1.ptr=some u/\0<=g/\g<(l.1.len:Int))/\
 ∃e,cellOf h8 (u.add (g.toNat*1))=some (vQ vW e)/\
 ∃n,(a.ptr=some n/\0<=e/\e<(a.len:Int))/\
 ∃o,cellOf h8 (n.add (e.toNat*1))=some (vQ vW o)/\
 ∃r,(i=some r)/\
 ∃s:bH,ai h8 r 0 s/\
 ae xa 25 #[s] aO h8 fun D B=>
 (aB.ok [(n.add (e.toNat*1),o)] B)/\
 Br (o<(D.len:Int))
 (R (.tuple #[(vS none),(vQ vW 7)]) B)
 (P (qc vW (g+1)) B))
 (aN (σ:=Int) (fun f N j=>
 Br (f<(l.1.len:Int))
 (∃w,(l.1.ptr=some w/\0<=f/\f<(l.1.len:Int))/\
 ∃c,cellOf j (w.add (f.toNat*1))=some (vQ vW c)/\
 ∃a22,(a.ptr=some a22/\0<=c/\c<(a.len:Int))/\
 ∃z,cellOf j (a22.add (c.toNat*1))=some (vQ vW z)/\
 ∃v,(i=some v)/\
 ae xa 13 #[z,d] iX j fun E q=>
 (aB.ok [] q)/\
 (0<=c/\c<((64:Nat):Int))/\
 ab xa (qe 34 ((v.add 10).add (c.toNat*1)) E) q fun _ t=>
 (aB.ok [] t)/\
 N (qc vW (f+1)) t)
 (∃y,(i=some y)/\
 ∃A:bH,ai j y 0 A/\
 ae xa 27 #[A,l.1] aO j fun H I=>
 ae xa 26 #[(.func (.func 8) #[i] #[]),H] bp I fun p x=>
 Br (p !=0)
 (R (.tuple #[(vS none),p]) x)
 (R (.tuple #[i,(vQ vW 0)]) x))) (0:Int) h8)) (0:Int) U)
 (fun O=>
 ∃k:bX,ai L m 0 k/\
 ae xa 24 #[d] bp L fun Q M=>
 (aB.ok [(m,k.1),(m.add 1,k.2.1),(m.add 2,k.2.2)] M)/\
 ∃K:Value,(aA xa (ve 63 #[(0,(vV #[(vQ vW 1),(vQ vW 0),k.1,k.2.1,k.2.2,b,l.1,(vR none 0 0)])),(1,d),(2,Q)]) K)/\
 aI xa (qI 63 K) M fun a9 J=>
 (aB.ok [(m,k.1),(m.add 1,k.2.1),(m.add 2,k.2.2)] J)/\
 O (some a9) J))
 (fun K1=>
 Br (!l.2) (R (.tuple #[(vS none),(vQ vW 1)]) F) (∃x3:bX,ai F m 0 x3/\
 ae xa 23 #[x3] bY F fun T h3=>
 Br (!T) (R (.tuple #[(vS none),(vQ vW 1)]) h3) (Br (b<0) (R (.tuple #[(vS none),(vQ vW 1)]) h3) (Br (b>16) (R (.tuple #[(vS none),(vQ vW 1)]) h3) (Br (qO d)
 (R (.tuple #[(vS none),(vQ vW 1)]) h3)
 (K1 () h3))))))
theorem Dw(d:bX)(b:Int)(c:aM)(a:Sl)(e:@sP R h d b c a):ac xa 6 #[d,b,c,a] h R:=ao af func6 (ak.tn (ak.tn (.two (.join [] [(8,10),(23,42)] .n) (.two (.join [(12,NW)] [(12,13),(42,51)] .n) (.two (ak.tn (.inn (.loop [(53,bc)] [(8,10),(14,15),(53,69)] .n))) (.two (ak.tn (.inn (.loop [(71,bc)] [(16,17),(71,87)] .n))) .n)))))) e
def kN(b:Int)(a:Int):Prop:=
 (a≠0)/\
 aY (σ:=Int) (fun c d=>
 R c d)
 (fun K1=>
 Br ((zY b a)<0)
 (K1 (qc vW ((zY b a)+a)) h)
 (K1 (zY b a) h))
theorem oO(a:Int)(b:Int)(c:@kN R h a b):ac xa 7 #[a,b] h R:=ao af func7 (ak.tn (ak.tn (.two (.join [(0,bc)] [(0,1),(8,13)] .n) .n))) c
def mP(b:aM)(a:Int):Prop:=
 aY (σ:=Unit) (fun _ d=>
 ∃c,(b=some c)/\
 (0<=a/\a<((64:Nat):Int))/\
 ∃x3:aM,cellOf d ((c.add 10).add (a.toNat*1))=some (.pointer x3)/\
 R x3 d)
 (fun K1=>
 Br (qO b) (R (vS none) h) (Br (a<0) (R (vS none) h) (Br (a>=64)
 (R (vS none) h)
 (K1 () h))))
theorem sQ(b:aM)(a:Int)(c:@mP R h b a):ac xa 8 #[b,a] h R:=ao af func8 (ak.tn (.two (.join [] [(4,15)] .n) .n)) c
def mQ(a:aM)(k:aM):Prop:=
 aY (σ:=Unit) (fun _ f=>
 ∃i,(a=some i)/\
 ∃x3,cellOf f (i.add 1)=some (vQ vW x3)/\
 ∃a4,(a=some a4)/\
 ∃q:Sl,cellOf f (a4.add 2)=some (q:Value)/\
 ∃j,(a=some j)/\
 ∃g,cellOf f (j.add 3)=some (vQ vW g)/\
 ∃n,(a=some n)/\
 ∃p:Sl,cellOf f (n.add 4)=some (p:Value)/\
 ∃e,(a=some e)/\
 ∃d:Bool,cellOf f (e.add 5)=some (vU d)/\
 ∃c,(a=some c)/\
 ∃b:Bool,cellOf f (c.add 6)=some (vU b)/\
 ae xa 28 #[q] aO f fun m r=>
 (aB.ok [(c.add 6,b),(e.add 5,d),(n.add 4,p),(j.add 3,g),(i.add 1,x3)] r)/\
 ae xa 28 #[p] aO r fun o h3=>
 (aB.ok [(c.add 6,b),(e.add 5,d),(j.add 3,g),(i.add 1,x3)] h3)/\
 aI xa (qI 70 (vV #[k,x3,m,g,o,d,b])) h3 fun l s=>
 (aB.ok [(c.add 6,b),(e.add 5,d),(j.add 3,g),(i.add 1,x3)] s)/\
 R l s)
 (fun K1=>
 Br (qO a) (R (vS none) h) (Br (qO k)
 (R (vS none) h)
 (K1 () h)))
theorem sS(b:aM)(a:aM)(c:@mQ R h b a):ac xa 9 #[b,a] h R:=ao af func9 (ak.tn (.two (.join [] [(4,11)] .n) .n)) c
def ox(a:aM)(e:ByteArray)(j:Sl):Prop:=
 ae xa 29 #[a,e,j] bp h fun r1 Z=>
 Br (r1 !=0)
 (R r1 Z)
 (∃a2,(a=some a2)/\
 ∃x3,cellOf Z (a2.add 1)=some (vQ vW x3)/\
 aI xa (qG 73 true (.tuple #[])) Z fun a4 h2=>
 ab xa (qe 73 a4 (vV #[e,x3,(vQ vW (j.len:Int)),(vR none 0 0)])) h2 fun _ h3=>
 aY (σ:=Sl×Bool) (fun z h6=>
 Br (!z.2)
 (R (vQ vW 8) h6)
 (ab xa (qe 22 (a4.add 3) z.1) h6 fun _ h7=>
 ∃s:gr,ai h7 a4 0 s/\
 ae xa 32 #[a,s,j] (.many [dg,ji]) h7 fun D h8=>
 aI xa (qG 67 true (.tuple #[])) h8 fun k h9=>
 ab xa (qe 67 k D.1) h9 fun _ g=>
 Br (!D.2)
 (R (vQ vW 8) g)
 (aY (σ:=Addr×Sl) (fun f t=>
 ∃O:bH,ai t f.1 0 O/\
 ae xa 25 #[O] aO t fun S ay=>
 aI xa (qG 3 true (.tuple #[])) ay fun p am=>
 ab xa (qe 3 p (vQ vW (S.len:Int))) am fun _ Y=>
 ae xa 35 #[a,f.2,(.func (.func 34) #[] #[p,k])] bY Y fun ax v=>
 Br (!ax)
 (R (vQ vW 7) v)
 (ae xa 36 #[a,f.2,(.func (.func 34) #[] #[p,k])] bp v fun L o=>
 Br (L !=0)
 (R L o)
 (∃x:Sl,cellOf o k=some (x:Value)/\
 ae xa 26 #[(.func (.func 8) #[a] #[]),x] bp o fun M q=>
 Br (M !=0)
 (R M q)
 (∃J:bH,ai q f.1 0 J/\
 ae xa 37 #[a,J,f.2] bp q fun V X=>
 R V X))))
 (fun T=>
 ∃c,(a=some c)/\
 ∃b:bH,ai g c 0 b/\
 ∃d:gr,ai g a4 0 d/\
 (ae xa 33 #[b,d] (.one (.agg [(.int .i64),(.int .i64),(.int .i64),(.int .i64),(.int .i64),(.int .i64),.slc,.slc])) g fun H m=>
 (aB.ok [] m)/\
 (ae xa 18 #[a] aO m fun l w=>
 (aB.ok [] w)/\
 aI xa (qG 47 true (.tuple #[])) w fun u E=>
 (aB.ok [] E)/\
 ab xa (qe 47 u H) E fun _ I=>
 (aB.ok [] I)/\
 T (u,(⟨l.ptr,l.len,l.cap⟩:Sl)) I)/\(aI xa (qG 47 true (.tuple #[])) m fun a22 A=>
 (aB.ok [] A)/\
 ae xa 18 #[a] aO A fun n P=>
 (aB.ok [] P)/\
 ab xa (qe 47 a22 H) P fun _ y=>
 (aB.ok [] y)/\
 T (a22,(⟨n.ptr,n.len,n.cap⟩:Sl)) y))/\(aI xa (qG 47 true (.tuple #[])) g fun G K=>
 (aB.ok [(a4,d.1),(a4.add 1,d.2.1),(a4.add 2,d.2.2.1),(a4.add 3,d.2.2.2),(c,b.1),(c.add 1,b.2.1),(c.add 2,b.2.2.1),(c.add 3,b.2.2.2.1),(c.add 4,b.2.2.2.2.1),(c.add 5,b.2.2.2.2.2.1),(c.add 6,b.2.2.2.2.2.2.1),(c.add 7,b.2.2.2.2.2.2.2)] K)/\
 ae xa 33 #[b,d] (.one (.agg [(.int .i64),(.int .i64),(.int .i64),(.int .i64),(.int .i64),(.int .i64),.slc,.slc])) K fun U B=>
 (aB.ok [] B)/\
 ae xa 18 #[a] aO B fun r F=>
 (aB.ok [] F)/\
 ab xa (qe 47 G U) F fun _ N=>
 (aB.ok [] N)/\
 T (G,(⟨r.ptr,r.len,r.cap⟩:Sl)) N)))))
 (fun K1=>
 ∃a5,(a=some a5)/\
 ∃Q:bX,ai h3 (a5.add 2) 0 Q/\
 ∃W,cellOf h3 (a4.add 1)=some (vQ vW W)/\
 ∃a8,(a=some a8)/\
 ∃x9:bX,ai h3 (a8.add 2) 0 x9/\
 ae xa 31 #[x9,(vQ vW (j.len:Int))] bp h3 fun ad h4=>
 (aB.ok [(a4.add 1,W),(a5.add 2,Q.1),((a5.add 2).add 1,Q.2.1),((a5.add 2).add 2,Q.2.2)] h4)/\
 ae xa 30 #[Q,W,ad] (.many [dg,ji]) h4 fun i h5=>
 (aB.ok [] h5)/\
 K1 ((⟨i.1.ptr,i.1.len,i.1.cap⟩:Sl),i.2) h5))
theorem xE(b:aM)(a:ByteArray)(c:Sl)(d:@ox R h b a c):ac xa 10 #[b,a,c] h R:=ao af func10 (ak.tn (ak.tn (ak.tn (.two (.join [(9,dg),(10,ji)] [(9,11),(34,53)] .n) (ak.tn (ak.tn (ak.tn (ak.tn (.two (.join [(12,(.sc .adr)),(13,dg)] [(12,14),(66,74)] .n) .n))))))))) d
def lO(c:Int)(b:Int):Prop:=
 aN (σ:=Sl×Int) (fun a K1 d=>
 Br (a.2<c)
 (((7:Int)≠0)/\
 (0<=(zY a.2 7))/\
 av xa (qt 38 1 #[(0,(vQ vX (qc vX (qc vW ((qL b (2^min (zY a.2 7).toNat (qj vW)))+(qc vW (a.2*(qc vW ((qy (qj vW) b|||(qy (qj vW) (1:Int))).toNat:Nat)))))))))]) aO d fun f e=>
 av xa (qu #[38,38] 38 #[a.1,f]) aO e fun v3 h3=>
 K1 ((⟨v3.ptr,v3.len,v3.cap⟩:Sl),qc vW (a.2+1)) h3)
 (R a.1 d)) ((⟨none,0,0⟩:Sl),(0:Int)) h
theorem rh(b:Int)(a:Int)(c:@lO R h b a):ac xa 11 #[b,a] h R:=ao af func11 (ak.tn (ak.tn (.two (ak.tn (.inn (.loop [(5,dg),(6,bc)] [(5,25)] .n))) .n))) c
def lP(b:aM):Prop:=
 aN (σ:=Sl×Int) (fun a K1 c=>
 Br (a.2<64)
 (ae xa 8 #[b,a.2] iX c fun f d=>
 av xa (qt 40 1 #[(0,f)]) aO d fun v3 h3=>
 av xa (qu #[40,40] 40 #[a.1,v3]) aO h3 fun v4 e=>
 K1 ((⟨v4.ptr,v4.len,v4.cap⟩:Sl),qc vW (a.2+1)) e)
 (R a.1 c)) ((⟨none,0,0⟩:Sl),(0:Int)) h
theorem ri(a:aM)(b:@lP R h a):ac xa 12 #[a] h R:=ao af func12 (ak.tn (ak.tn (.two (ak.tn (.inn (.loop [(3,dg),(4,bc)] [(3,15)] .n))) .n))) b
def Cv(a:Int)(b:aM):Prop:=
 aY (σ:=Unit) (fun _ e=>
 aI xa (qI 70 (vV #[b,a,(vR none 0 0),(vQ vW 0),(vR none 0 0),false,false])) e fun d c=>
 R d c)
 (fun K1=>
 Br (a<1) (R (vS none) h) (Br (a>512) (R (vS none) h) (Br (qO b)
 (R (vS none) h)
 (K1 () h))))
theorem IH(a:Int)(b:aM)(c:@Cv R h a b):ac xa 13 #[a,b] h R:=ao af func13 (ak.tn (.two (.join [] [(4,15)] .n) .n)) c
def sn(e:aM)(a:Sl):Prop:=
 Br (qO e)
 (R (.tuple #[(vS none),(vQ vW 1)]) h)
 ((0<=(if(64:Int)<(a.len:Int)then(64:Int)else(a.len:Int))/\(if(64:Int)<(a.len:Int)then(64:Int)else(a.len:Int))<=(a.cap:Int))/\
 ae xa 38 #[(vR a.ptr ((if(64:Int)<(a.len:Int)then(64:Int)else(a.len:Int)).toNat) a.cap)] (.many [TO,ji]) h fun y H=>
 aI xa (qG 47 true (.tuple #[])) H fun q G=>
 ab xa (qe 47 q y.1) G fun _ h3=>
 Br (!y.2)
 (R (.tuple #[(vS none),(vQ vW 11)]) h3)
 (av xa (Instr.makeSlice 40 (vQ vW 64) (vQ vW 64)) aO h3 fun v3 B=>
 ∃p:Sl,cellOf B (q.add 6)=some (p:Value)/\
 aN (σ:=Int) (fun d K1 f=>
 Br (d<(p.len:Int))
 (∃z,(p.ptr=some z/\0<=d/\d<(p.len:Int))/\
 ∃c,cellOf f (z.add (d.toNat*1))=some (vQ vW c)/\
 aY (σ:=Unit) (fun _ x=>
 ∃j,(a.ptr=some j/\0<=c/\c<(((if(64:Int)<(a.len:Int)then(64:Int)else(a.len:Int)).toNat:Nat):Int))/\
 ∃b:aM,cellOf x (j.add (c.toNat*1))=some (.pointer b)/\
 ∃o,(v3.ptr=some o/\0<=c/\c<(v3.len:Int))/\
 ab xa (qe 34 (o.add (c.toNat*1)) b) x fun _ I=>
 ae xa 39 #[b] bY I fun s h8=>
 Br s
 (K1 (qc vW (d+1)) h8)
 (∃n:bH,ai h8 q 0 n/\
 ae xa 40 #[b,n] aO h8 fun m E=>
 ae xa 42 #[b] aO E fun w v=>
 ae xa 41 #[w,m,(.func (.func 43) #[] #[])] bY v fun r i=>
 Br r
 (K1 (qc vW (d+1)) i)
 (ae xa 44 #[b,m] bp i fun l k=>
 Br (l !=0)
 (R (.tuple #[(vS none),l]) k)
 (K1 (qc vW (d+1)) k))))
 (fun F=>
 Br (decide (c>=(((if(64:Int)<(a.len:Int)then(64:Int)else(a.len:Int)).toNat:Nat):Int))) (K1 (qc vW (d+1)) f) (∃A,(a.ptr=some A/\0<=c/\c<(((if(64:Int)<(a.len:Int)then(64:Int)else(a.len:Int)).toNat:Nat):Int))/\
 ∃D:aM,cellOf f (A.add (c.toNat*1))=some (.pointer D)/\
 Br (qO D)
 (K1 (qc vW (d+1)) f)
 (F () f))))
 (∃g:bH,ai f q 0 g/\
 ae xa 45 #[g,e,v3] iX f fun u t=>
 R (.tuple #[u,(vQ vW 0)]) t)) (0:Int) B))
theorem wn(b:aM)(a:Sl)(c:@sn R h b a):ac xa 14 #[b,a] h R:=ao af func14 (ak.tn (ak.tn (ak.tn (ak.tn (ak.tn (ak.tn (.two (ak.tn (.inn (.loop [(32,bc)] [(4,6),(10,14),(32,71)] (ak.tn (ak.tn (.two (.inn (ak.tn (.two (.join [] [(36,47)] .n) .n))) .n)))))) .n))))))) c
def jJ(P:bH)(O:bH):Prop:=
 aI xa (qI 47 P) h fun m h1=>
 aI xa (qI 47 O) h1 fun l k=>
 aY (σ:=Unit) (fun _ h4=>
 ∃s:Sl,cellOf h4 (m.add 7)=some (s:Value)/\
 aN (σ:=Int) (fun a K2 n=>
 Br (a<(s.len:Int))
 (aY (σ:=Addr×Addr) (fun i f=>
 ∃y:ByteArray,cellOf f i.1=some (vT y)/\
 ∃L:ByteArray,cellOf f i.2=some (vT L)/\
 Br (!(y.toList==L.toList)) (R false f) (∃u,cellOf f (i.1.add 1)=some (vQ vW u)/\
 ∃B,cellOf f (i.2.add 1)=some (vQ vW B)/\
 Br (u !=B) (R false f) (∃F,cellOf f (i.1.add 2)=some (vQ vW F)/\
 ∃r,cellOf f (i.2.add 2)=some (vQ vW r)/\
 Br (F !=r) (R false f) (∃K:Sl,cellOf f (i.1.add 3)=some (K:Value)/\
 ∃z:Sl,cellOf f (i.2.add 3)=some (z:Value)/\
 ae xa 46 #[K,z] bY f fun M v=>
 Br (!M)
 (R false v)
 (K2 (qc vW (a+1)) v)))))
 (fun W=>
 ∃j:Sl,cellOf n (m.add 7)=some (j:Value)/\
 ∃e,(j.ptr=some e/\0<=a/\a<(j.len:Int))/\
 ∃d:gr,ai n (e.add (a.toNat*4)) 0 d/\
 ∃g:Sl,cellOf n (l.add 7)=some (g:Value)/\
 ∃c,(g.ptr=some c/\0<=a/\a<(g.len:Int))/\
 ∃b:gr,ai n (c.add (a.toNat*4)) 0 b/\
 (aI xa (qG 73 true (.tuple #[])) n fun D U=>
 (aB.ok [(c.add (a.toNat*4),b.1),((c.add (a.toNat*4)).add 1,b.2.1),((c.add (a.toNat*4)).add 2,b.2.2.1),((c.add (a.toNat*4)).add 3,b.2.2.2),(l.add 7,g),(e.add (a.toNat*4),d.1),((e.add (a.toNat*4)).add 1,d.2.1),((e.add (a.toNat*4)).add 2,d.2.2.1),((e.add (a.toNat*4)).add 3,d.2.2.2),(m.add 7,j)] U)/\
 aI xa (qG 73 true (.tuple #[])) U fun q Y=>
 (aB.ok [(c.add (a.toNat*4),b.1),((c.add (a.toNat*4)).add 1,b.2.1),((c.add (a.toNat*4)).add 2,b.2.2.1),((c.add (a.toNat*4)).add 3,b.2.2.2),(l.add 7,g),(e.add (a.toNat*4),d.1),((e.add (a.toNat*4)).add 1,d.2.1),((e.add (a.toNat*4)).add 2,d.2.2.1),((e.add (a.toNat*4)).add 3,d.2.2.2),(m.add 7,j)] Y)/\
 ab xa (qe 73 D d) Y fun _ h8=>
 (aB.ok [(c.add (a.toNat*4),b.1),((c.add (a.toNat*4)).add 1,b.2.1),((c.add (a.toNat*4)).add 2,b.2.2.1),((c.add (a.toNat*4)).add 3,b.2.2.2),(l.add 7,g)] h8)/\
 ab xa (qe 73 q b) h8 fun _ S=>
 (aB.ok [] S)/\
 W (D,q) S)/\(aI xa (qG 73 true (.tuple #[])) n fun a28 I=>
 (aB.ok [(c.add (a.toNat*4),b.1),((c.add (a.toNat*4)).add 1,b.2.1),((c.add (a.toNat*4)).add 2,b.2.2.1),((c.add (a.toNat*4)).add 3,b.2.2.2),(l.add 7,g),(e.add (a.toNat*4),d.1),((e.add (a.toNat*4)).add 1,d.2.1),((e.add (a.toNat*4)).add 2,d.2.2.1),((e.add (a.toNat*4)).add 3,d.2.2.2),(m.add 7,j)] I)/\
 aI xa (qG 73 true (.tuple #[])) I fun G p=>
 (aB.ok [(c.add (a.toNat*4),b.1),((c.add (a.toNat*4)).add 1,b.2.1),((c.add (a.toNat*4)).add 2,b.2.2.1),((c.add (a.toNat*4)).add 3,b.2.2.2),(l.add 7,g),(e.add (a.toNat*4),d.1),((e.add (a.toNat*4)).add 1,d.2.1),((e.add (a.toNat*4)).add 2,d.2.2.1),((e.add (a.toNat*4)).add 3,d.2.2.2),(m.add 7,j)] p)/\
 ab xa (qe 73 G d) p fun _ t=>
 (aB.ok [(c.add (a.toNat*4),b.1),((c.add (a.toNat*4)).add 1,b.2.1),((c.add (a.toNat*4)).add 2,b.2.2.1),((c.add (a.toNat*4)).add 3,b.2.2.2),(l.add 7,g)] t)/\
 ab xa (qe 73 a28 b) t fun _ w=>
 (aB.ok [] w)/\
 W (G,a28) w)))
 (R true n)) (0:Int) h4)
 (fun K1=>
 ∃x3,cellOf k m=some (vQ vW x3)/\
 ∃T,cellOf k l=some (vQ vW T)/\
 Br (x3 !=T) (R false k) (∃Q,cellOf k (m.add 1)=some (vQ vW Q)/\
 ∃x6,cellOf k (l.add 1)=some (vQ vW x6)/\
 Br (Q !=x6) (R false k) (∃V:bX,ai k (m.add 2) 0 V/\
 ∃Z:bX,ai k (l.add 2) 0 Z/\
 ∃X:Bool,(fR xa .neq 24 (.tmp 22) (.tmp 24) V Z (vU X))/\
 Br X (R false k) (∃H,cellOf k (m.add 5)=some (vQ vW H)/\
 ∃A,cellOf k (l.add 5)=some (vQ vW A)/\
 Br (H !=A) (R false k) (∃E:Sl,cellOf k (m.add 6)=some (E:Value)/\
 ∃o:Sl,cellOf k (l.add 6)=some (o:Value)/\
 ae xa 46 #[E,o] bY k fun N h3=>
 Br (!N) (R false h3) (∃J:Sl,cellOf h3 (m.add 7)=some (J:Value)/\
 ∃x:Sl,cellOf h3 (l.add 7)=some (x:Value)/\
 Br ((J.len:Int) !=(x.len:Int))
 (R false h3)
 (K1 () h3)))))))
theorem ng(b:bH)(a:bH)(c:@jJ R h b a):ac xa 15 #[b,a] h R:=ao af func15 (ak.tn (.two (.join [] [(4,5),(8,51)] .n) (.two (ak.tn (.inn (.loop [(54,bc)] [(4,8),(54,95)] (ak.tn (ak.tn (.two (.inn (ak.tn (.two (.join [(6,(.sc .adr)),(7,(.sc .adr))] [(6,8),(57,67)] .n) .n))) .n)))))) .n))) c
def iJ(c:aM):Prop:=
 aI xa (qG 47 true (.tuple #[])) h fun d e=>
 Br (qO c)
 (ab xa (qe 47 d (vV #[(vQ vW 0),(vQ vW 0),(vQ vW 0),(vQ vW 0),(vQ vW 0),(vQ vW 0),(vR none 0 0),(vR none 0 0)])) e fun _ f=>
 ∃b:bH,ai f d 0 b/\
 R b f)
 (∃a3,(c=some a3)/\
 ∃g:bH,ai e a3 0 g/\
 ae xa 47 #[g] (.one (.agg [(.int .i64),(.int .i64),(.int .i64),(.int .i64),(.int .i64),(.int .i64),.slc,.slc])) e fun j h3=>
 ab xa (qe 47 d j) h3 fun _ i=>
 ∃a:bH,ai i d 0 a/\
 R a i)
theorem kj(a:aM)(b:@iJ R h a):ac xa 16 #[a] h R:=ao af func16 .n b
def Ap(d:aM)(e:bH):Prop:=
 aI xa (qI 47 e) h fun m l=>
 ∃x2:bH,ai l m 0 x2/\
 ae xa 48 #[x2] bY l fun p j=>
 Br (!p)
 (R false j)
 (ae xa 42 #[d] aO j fun q h3=>
 ∃i:bH,ai h3 m 0 i/\
 ae xa 25 #[i] aO h3 fun f s=>
 aN (σ:=Int) (fun a K1 g=>
 Br (a<(f.len:Int))
 (∃k,(f.ptr=some k/\0<=a/\a<(f.len:Int))/\
 ∃n:Sl,cellOf g (k.add (a.toNat*1))=some (n:Value)/\
 aI xa (qG 38 true (.tuple #[])) g fun b o=>
 ab xa (qe 38 b n) o fun _ r=>
 ae xa 49 #[q,(.func (.func 50) #[] #[b])] bY r fun c h8=>
 Br (!c)
 (R false h8)
 (K1 (qc vW (a+1)) h8))
 (R true g)) (0:Int) s)
theorem Gz(b:aM)(a:bH)(c:@Ap R h b a):ac xa 17 #[b,a] h R:=ao af func17 (ak.tn (ak.tn (ak.tn (.two (ak.tn (.inn (.loop [(16,bc)] [(4,5),(7,8),(16,25)] .n))) .n)))) c
def nT(a:aM):Prop:=
 Br (qO a)
 (R (vR none 0 0) h)
 (∃b,(a=some b)/\
 ∃x2:Sl,cellOf h (b.add 6)=some (x2:Value)/\
 ae xa 51 #[(.func (.func 8) #[a] #[]),x2] aO h fun d c=>
 R d c)
theorem uD(a:aM)(b:@nT R h a):ac xa 18 #[a] h R:=ao af func18 .n b
def kO:Prop:=
 ae xa 5 #[] iX h fun c d=>
 ae xa 14 #[c,(vR none 0 0)] (.many [NW,bc]) d fun a b=>
 ae xa 14 #[(vS none),(vR none 0 0)] (.many [NW,bc]) b fun e h3=>
 Br (qO a.1) (Br (a.2==11) (R (vU (e.2==1)) h3) (R false h3)) (R false h3)
theorem oP(a:@kO R h):ac xa 19 #[] h R:=ao af func19 .n a
def kZ(c:Int)(b:Int)(d:Int):Prop:=
 aI xa (qG 24 true (.tuple #[])) h fun e j=>
 ae xa 7 #[c,(vQ vW 6)] bp j fun m g=>
 ae xa 7 #[b,(vQ vW 3)] bp g fun k h3=>
 ae xa 7 #[d,(vQ vW 9)] bp h3 fun i l=>
 ab xa (qe 24 e (vV #[(qc vW (1+m)),(qc vW (1+k)),(qc vW (1+i))])) l fun _ f=>
 ∃a:bX,ai f e 0 a/\
 R a f
theorem pK(c:Int)(a:Int)(b:Int)(d:@kZ R h c a b):ac xa 20 #[c,a,b] h R:=ao af func20 .n d
def mv(b:Sl)(a:Int):Prop:=
 Br (a<(b.len:Int))
 (∃c,(b.ptr=some c/\0<=a/\a<(b.len:Int))/\
 ∃x2,cellOf h (c.add (a.toNat*1))=some (vQ vW x2)/\
 R x2 h)
 (R (vQ vW 0) h)
theorem so(a:Sl)(b:Int)(c:@mv R h a b):ac xa 21 #[a,b] h R:=ao af func21 .n c
def sT(a:Sl):Prop:=
 aN (σ:=Sl×Int) (fun b K1 c=>
 Br (b.2<(a.len:Int))
 (∃f,(a.ptr=some f/\0<=b.2/\b.2<(a.len:Int))/\
 ∃x3,cellOf c (f.add (b.2.toNat*1))=some (vQ vW x3)/\
 aY (σ:=Unit) (fun _ e=>
 Br (x3>0)
 (av xa (qt 22 1 #[(0,b.2)]) aO e fun v5 h3=>
 av xa (qu #[22,22] 22 #[b.1,v5]) aO h3 fun d g=>
 K1 ((⟨d.ptr,d.len,d.cap⟩:Sl),qc vW (b.2+1)) g)
 (K1 ((⟨b.1.ptr,b.1.len,b.1.cap⟩:Sl),qc vW (b.2+1)) e))
 (fun i=>
 Br (x3<0) (R (.tuple #[(vR none 0 0),false]) c) (Br (x3>512)
 (R (.tuple #[(vR none 0 0),false]) c)
 (i () c))))
 (Br ((a.len:Int)<=64) (R (.tuple #[b.1,(decide ((b.1.len:Int)>0))]) c) (R (.tuple #[b.1,false]) c))) ((⟨none,0,0⟩:Sl),(0:Int)) h
theorem Dx(a:Sl)(b:@sT R h a):ac xa 22 #[a] h R:=ao af func22 (ak.tn (ak.tn (.two (ak.tn (.inn (.loop [(4,dg),(9,bc)] [(2,7),(9,27)] (ak.tn (ak.tn (.two (.inn (ak.tn (.two (.join [] [(2,4),(14,20)] .n) .n))) .n)))))) .n))) b
def HO(c:bX):Prop:=
 aI xa (qI 24 c) h fun b a=>
 ∃x2,cellOf a b=some (vQ vW x2)/\
 Br (x2>=1) (∃x3,cellOf a b=some (vQ vW x3)/\
 Br (x3<=16) (∃f,cellOf a (b.add 1)=some (vQ vW f)/\
 Br (f>=1) (∃d,cellOf a (b.add 1)=some (vQ vW d)/\
 Br (d<=4) (∃g,cellOf a (b.add 2)=some (vQ vW g)/\
 Br (g>=1) (∃e,cellOf a (b.add 2)=some (vQ vW e)/\
 R (decide (e<=24)) a) (R false a)) (R false a)) (R false a)) (R false a)) (R false a)
theorem MC(a:bX)(b:@HO R h a):ac xa 23 #[a] h R:=ao af func23 .n b
def nU(a:aM):Prop:=
 Br (qO a)
 (R (vQ vW 0) h)
 (∃b,(a=some b)/\
 ∃x2,cellOf h (b.add 3)=some (vQ vW x2)/\
 R x2 h)
theorem uE(a:aM)(b:@nU R h a):ac xa 24 #[a] h R:=ao af func24 .n b
def Aq(c:bH):Prop:=
 aI xa (qI 47 c) h fun f g=>
 ∃x2:bH,ai g f 0 x2/\
 ae xa 52 #[x2] aO g fun b l=>
 ((48:Int)≠0)/\
 aN (σ:=Sl×Int) (fun a K1 h3=>
 Br (decide (a.2<(qc vW (w5 (qc vW ((qc vW ((b.len:Int)+48))-1)) 48))))
 (∃e,cellOf h3 f=some (vQ vW e)/\
 (0<=(qc vW (a.2*48))/\(qc vW (a.2*48))<=(if(qc vW ((qc vW (a.2+1))*48))<(b.len:Int)then qc vW ((qc vW (a.2+1))*48)else(b.len:Int))/\(if(qc vW ((qc vW (a.2+1))*48))<(b.len:Int)then qc vW ((qc vW (a.2+1))*48)else(b.len:Int))<=(b.cap:Int))/\
 ae xa 53 #[e,a.2,(qc vW (w5 (qc vW ((qc vW ((b.len:Int)+48))-1)) 48)),(.slice (if b.cap=(qc vW (a.2*48)).toNat then b.ptr else b.ptr.map (·.add ((qc vW (a.2*48)).toNat*1))) ((if(qc vW ((qc vW (a.2+1))*48))<(b.len:Int)then qc vW ((qc vW (a.2+1))*48)else(b.len:Int)).toNat-(qc vW (a.2*48)).toNat) (b.cap-(qc vW (a.2*48)).toNat))] aO h3 fun m i=>
 (aB.ok [] i)/\
 av xa (qt 64 1 #[(0,m)]) aO i fun n j=>
 (aB.ok [] j)/\
 av xa (qu #[64,64] 64 #[a.1,n]) aO j fun d k=>
 (aB.ok [] k)/\
 K1 ((⟨d.ptr,d.len,d.cap⟩:Sl),qc vW (a.2+1)) k)
 (R a.1 h3)) ((⟨none,0,0⟩:Sl),(0:Int)) l
theorem GA(a:bH)(b:@Aq R h a):ac xa 25 #[a] h R:=ao af func25 (ak.tn (ak.tn (ak.tn (ak.tn (.two (ak.tn (.inn (.loop [(5,dg),(16,bc)] [(5,8),(16,39)] .n))) .n))))) b
def HQ(a:cq)(c:Sl):Prop:=
 aN (σ:=Sl×Int) (fun b K1 i=>
 Br (b.2<(c.len:Int))
 (∃o,(c.ptr=some o/\0<=b.2/\b.2<(c.len:Int))/\
 ∃x3:Int×Sl,ai i (o.add (b.2.toNat*2)) 0 x3/\
 aI xa (qG 80 true (.tuple #[])) i fun a4 u=>
 ab xa (qe 80 a4 x3) u fun _ h3=>
 aY (σ:=Unit) (fun _ p=>
 ∃e,cellOf p a4=some (vQ vW e)/\
 av xa (qt 22 1 #[(0,e)]) aO p fun f h8=>
 av xa (qu #[22,22] 22 #[b.1,f]) aO h8 fun d s=>
 K1 ((⟨d.ptr,d.len,d.cap⟩:Sl),qc vW (b.2+1)) s)
 (fun t=>
 aY (σ:=Int) (fun n m=>
 Br (n !=0)
 (R n m)
 (t () m))
 (fun v=>
 ∃l,cellOf h3 a4=some (vQ vW l)/\
 ∃k:Sl,cellOf h3 (a4.add 1)=some (k:Value)/\
 gy C a.1 (a.2.1.toList++[(vQ vW l)]++a.2.2.toList) iX h3 fun x q=>
 (aB.ok [(a4.add 1,k)] q)/\
 ae xa 54 #[x,k] bp q fun w r=>
 (aB.ok [] r)/\
 v w r)))
 (ae xa 55 #[(.func (.func a.1) a.2.1 a.2.2),b.1] bp i fun g j=>
 R g j)) ((⟨none,0,0⟩:Sl),(0:Int)) h
theorem MD(a:cq)(b:Sl)(c:@HQ R h a b):ac xa 26 #[(.func (.func a.1) a.2.1 a.2.2),b] h R:=ao af func26 (ak.tn (ak.tn (.two (ak.tn (.inn (.loop [(5,dg),(11,bc)] [(4,6),(7,9),(11,31)] (ak.tn (ak.tn (.two (.inn (ak.tn (.two (.join [] [(4,5),(8,9),(15,25)] (.two (.join [(8,bc)] [(8,9),(15,22)] .n) .n)) .n))) .n)))))) .n))) c
def Cw(i:bH)(a:Sl):Prop:=
 aI xa (qI 47 i) h fun q k=>
 ∃x2:bH,ai k q 0 x2/\
 ae xa 25 #[x2] aO k fun f p=>
 aN (σ:=Sl×Int) (fun b K1 h3=>
 Br (b.2<(a.len:Int))
 (∃a5,(a.ptr=some a5/\0<=b.2/\b.2<(a.len:Int))/\
 ∃l,cellOf h3 (a5.add (b.2.toNat*1))=some (vQ vW l)/\
 aN (σ:=Sl×Int) (fun c n g=>
 Br (c.2<(f.len:Int))
 (∃j,(f.ptr=some j/\0<=c.2/\c.2<(f.len:Int))/\
 ∃m:Sl,cellOf g (j.add (c.2.toNat*1))=some (m:Value)/\
 av xa (qt 67 1 #[(0,(vV #[l,m]))]) aO g fun e r=>
 av xa (qu #[67,67] 67 #[c.1,e]) aO r fun d o=>
 n ((⟨d.ptr,d.len,d.cap⟩:Sl),qc vW (c.2+1)) o)
 (K1 ((⟨c.1.ptr,c.1.len,c.1.cap⟩:Sl),qc vW (b.2+1)) g)) ((⟨b.1.ptr,b.1.len,b.1.cap⟩:Sl),(0:Int)) h3)
 (R b.1 h3)) ((⟨none,0,0⟩:Sl),(0:Int)) p
theorem II(b:bH)(a:Sl)(c:@Cw R h b a):ac xa 27 #[b,a] h R:=ao af func27 (ak.tn (ak.tn (ak.tn (.two (ak.tn (.inn (.loop [(6,dg),(15,bc)] [(6,7),(8,9),(10,11),(15,33)] (ak.tn (ak.tn (.two (.inn (ak.tn (ak.tn (.inn (.loop [(6,dg),(21,bc)] [(6,7),(10,11),(21,32)] .n))))) .n)))))) .n)))) c
def Cx(b:Sl):Prop:=
 aN (σ:=Sl×Int) (fun a K1 d=>
 Br (a.2<(b.len:Int))
 (∃e,(b.ptr=some e/\0<=a.2/\a.2<(b.len:Int))/\
 ∃x3:Sl,cellOf d (e.add (a.2.toNat*1))=some (x3:Value)/\
 ae xa 56 #[x3] aO d fun g f=>
 av xa (qt 64 1 #[(0,g)]) aO f fun v5 h3=>
 av xa (qu #[64,64] 64 #[a.1,v5]) aO h3 fun c i=>
 K1 ((⟨c.ptr,c.len,c.cap⟩:Sl),qc vW (a.2+1)) i)
 (R a.1 d)) ((⟨none,0,0⟩:Sl),(0:Int)) h
theorem IJ(a:Sl)(b:@Cx R h a):ac xa 28 #[a] h R:=ao af func28 (ak.tn (ak.tn (.two (ak.tn (.inn (.loop [(3,dg),(8,bc)] [(3,4),(5,6),(8,18)] .n))) .n))) b
def lQ(a:aM)(b:ByteArray)(k:Sl):Prop:=
 ae xa 57 #[a] bY h fun t q=>
 Br t
 (R (vQ vW 14) q)
 (ae xa 58 #[b] bY q fun v m=>
 Br (!v)
 (R (vQ vW 3) m)
 (ae xa 59 #[a,b] bp m fun u h3=>
 Br (u>=0)
 (R (vQ vW 4) h3)
 (aY (σ:=Bool) (fun j r=>
 Br j
 (R (vQ vW 6) r)
 (ae xa 18 #[a] aO r fun i c=>
 Br ((i.len:Int)==0) (R (vQ vW 7) c) (∃f,(a=some f)/\
 ∃d,cellOf c (f.add 1)=some (vQ vW d)/\
 Br (d>16777215) (R (vQ vW 7) c) (∃e,(a=some e)/\
 ∃g,cellOf c e=some (vQ vW g)/\
 Br (g>=2147483647)
 (R (vQ vW 7) c)
 (R (vQ vW 0) c)))))
 (fun K1=>
 ∃a4,(a=some a4)/\
 ∃l,cellOf h3 (a4.add 2)=some (vQ vW l)/\
 ∃o,(a=some o)/\
 ∃n,cellOf h3 ((o.add 2).add 2)=some (vQ vW n)/\
 Br (decide ((k.len:Int)>(qc vW ((qc vW (l*n))*8)))) (K1 true h3) (∃p,(a=some p)/\
 ∃s:Sl,cellOf h3 (p.add 7)=some (s:Value)/\
 K1 (decide ((s.len:Int)>=12)) h3)))))
theorem rj(b:aM)(a:ByteArray)(c:Sl)(d:@lQ R h b a c):ac xa 29 #[b,a,c] h R:=ao af func29 (ak.tn (.two (.inn (ak.tn (ak.tn (ak.tn (ak.tn (ak.tn (ak.tn (.two (.join [(19,ji)] [(19,46)] .n) .n)))))))) .n)) d
def ws(f:bX)(b:Int)(a:Int):Prop:=
 aI xa (qI 24 f) h fun i j=>
 aN (σ:=Sl×Int) (fun c K1 d=>
 Br (c.2<a)
 (∃x3:bX,ai d i 0 x3/\
 ae xa 60 #[x3,b,c.2] (.many [bc,ji]) d fun g h3=>
 Br (!g.2)
 (R (.tuple #[(vR none 0 0),false]) h3)
 (av xa (qt 22 1 #[(0,g.1)]) aO h3 fun v5 k=>
 av xa (qu #[22,22] 22 #[c.1,v5]) aO k fun e l=>
 K1 ((⟨e.ptr,e.len,e.cap⟩:Sl),qc vW (c.2+1)) l))
 (R (.tuple #[c.1,true]) d)) ((⟨none,0,0⟩:Sl),(0:Int)) j
theorem EI(c:bX)(b:Int)(a:Int)(d:@ws R h c b a):ac xa 30 #[c,b,a] h R:=ao af func30 (ak.tn (ak.tn (.two (ak.tn (.inn (.loop [(8,dg),(13,bc)] [(6,12),(13,30)] .n))) .n))) d
def wt(c:bX)(a:Int):Prop:=
 aI xa (qI 24 c) h fun f g=>
 aY (σ:=Unit) (fun _ h3=>
 ∃d:bX,ai h3 f 0 d/\
 ae xa 61 #[d] bp h3 fun e j=>
 (e≠0)/\
 R (qc vW ((qc vW (w5 (qc vW (a-1)) e))+1)) j)
 (fun K1=>
 ∃x2:bX,ai g f 0 x2/\
 ae xa 23 #[x2] bY g fun i b=>
 Br (!i) (R (vQ vW 0) b) (Br (a<=0)
 (R (vQ vW 0) b)
 (K1 () b)))
theorem EJ(b:bX)(a:Int)(c:@wt R h b a):ac xa 31 #[b,a] h R:=ao af func31 (ak.tn (.two (.join [] [(4,12)] .n) .n)) c
def lR(g:aM)(N:gr)(S:Sl):Prop:=
 aI xa (qI 73 N) h fun j h1=>
 ae xa 18 #[g] aO h1 fun r2 Z=>
 ∃a3,(g=some a3)/\
 ∃X:bX,ai Z (a3.add 2) 0 X/\
 ae xa 62 #[X,S] aO Z fun L h3=>
 aN (σ:=Sl×Int) (fun e K1 n=>
 Br (e.2<(L.len:Int))
 (∃Y,(L.ptr=some Y/\0<=e.2/\e.2<(L.len:Int))/\
 ∃x8:Sl,cellOf n (Y.add (e.2.toNat*1))=some (x8:Value)/\
 ∃x9,cellOf n (j.add 1)=some (vQ vW x9)/\
 ∃i:Sl,cellOf n (j.add 3)=some (i:Value)/\
 ∃r,(i.ptr=some r/\0<=e.2/\e.2<(i.len:Int))/\
 ∃B,cellOf n (r.add (e.2.toNat*1))=some (vQ vW B)/\
 ae xa 63 #[x9,e.2,B] (.one (.sc (.int .u32))) n fun l V=>
 (aB.ok [(j.add 3,i)] V)/\
 ∃s,(g=some s)/\
 ∃G:bX,ai V (s.add 2) 0 G/\
 ae xa 64 #[G,(vQ vY l),x8] (.many [NW,bc]) V fun m M=>
 Br (m.2 !=0)
 (R (.tuple #[(vR none 0 0),false]) M)
 (∃t,cellOf M (j.add 1)=some (vQ vW t)/\
 ae xa 65 #[t,e.2,r2] aO M fun K U=>
 ∃y,(g=some y)/\
 ∃o,cellOf U (y.add 2)=some (vQ vW o)/\
 ∃p,(g=some p)/\
 ∃H,cellOf U (p.add 5)=some (vQ vW H)/\
 aN (σ:=Sl×Int) (fun b K2 h8=>
 Br (b.2<(qc vW (o+H)))
 (aY (σ:=Addr) (fun d w=>
 ∃c:dA,ai w d 0 c/\
 ae xa 67 #[K,b.2] bp w fun P I=>
 (aB.ok [(d,c.1),(d.add 1,c.2.1),(d.add 2,c.2.2.1),(d.add 3,c.2.2.2.1),(d.add 4,c.2.2.2.2.1),(d.add 5,c.2.2.2.2.2.1),(d.add 6,(vQ vY c.2.2.2.2.2.2.1)),(d.add 7,c.2.2.2.2.2.2.2)] I)/\
 ae xa 68 #[c] aO I fun T v=>
 (aB.ok [] v)/\
 av xa (qt 67 1 #[(0,(vV #[P,T]))]) aO v fun J E=>
 (aB.ok [] E)/\
 av xa (qu #[67,67] 67 #[b.1,J]) aO E fun k x=>
 (aB.ok [] x)/\
 K2 ((⟨k.ptr,k.len,k.cap⟩:Sl),qc vW (b.2+1)) x)
 (fun K3=>
 ∃f,cellOf h8 (j.add 1)=some (vQ vW f)/\
 ∃a25,(g=some a25)/\
 ∃a:bX,ai h8 (a25.add 2) 0 a/\
 (ae xa 66 #[m.1,b.2] aO h8 fun Q W=>
 (aB.ok [(a25.add 2,a.1),((a25.add 2).add 1,a.2.1),((a25.add 2).add 2,a.2.2),(j.add 1,f)] W)/\
 aI xa (qG 119 true (.tuple #[])) W fun a28 F=>
 (aB.ok [(a25.add 2,a.1),((a25.add 2).add 1,a.2.1),((a25.add 2).add 2,a.2.2),(j.add 1,f)] F)/\
 ab xa (qe 119 a28 (vV #[f,e.2,b.2,a.1,a.2.1,a.2.2,(vQ vY l),Q])) F fun _ q=>
 (aB.ok [] q)/\
 K3 a28 q)/\(aI xa (qG 119 true (.tuple #[])) h8 fun D u=>
 (aB.ok [(a25.add 2,a.1),((a25.add 2).add 1,a.2.1),((a25.add 2).add 2,a.2.2),(j.add 1,f)] u)/\
 ae xa 66 #[m.1,b.2] aO u fun O z=>
 (aB.ok [(a25.add 2,a.1),((a25.add 2).add 1,a.2.1),((a25.add 2).add 2,a.2.2),(j.add 1,f)] z)/\
 ab xa (qe 119 D (vV #[f,e.2,b.2,a.1,a.2.1,a.2.2,(vQ vY l),O])) z fun _ A=>
 (aB.ok [] A)/\
 K3 D A)))
 (K1 ((⟨b.1.ptr,b.1.len,b.1.cap⟩:Sl),qc vW (e.2+1)) h8)) ((⟨e.1.ptr,e.1.len,e.1.cap⟩:Sl),(0:Int)) U))
 (R (.tuple #[e.1,true]) n)) ((⟨none,0,0⟩:Sl),(0:Int)) h3
theorem rk(a:aM)(c:gr)(b:Sl)(d:@lR R h a c b):ac xa 32 #[a,c,b] h R:=ao af func32 (ak.tn (ak.tn (ak.tn (.two (ak.tn (.inn (.loop [(9,dg),(28,bc)] [(6,8),(9,18),(28,100)] (ak.tn (ak.tn (.two (.inn (ak.tn (ak.tn (ak.tn (ak.tn (ak.tn (ak.tn (.inn (.loop [(9,dg),(72,bc)] [(9,10),(16,18),(72,99)] (ak.tn (ak.tn (.two (.inn (ak.tn (.two (.join [(17,(.sc .adr))] [(17,18),(75,89)] .n) .n))) .n)))))))))))) .n)))))) .n)))) d
def Ar(n:bH)(k:gr):Prop:=
 aI xa (qI 47 n) h fun z y=>
 aI xa (qI 73 k) y fun x w=>
 aI xa (qG 47 true (.tuple #[])) w fun a3 h3=>
 ∃o:bH,ai h3 z 0 o/\
 ae xa 47 #[o] (.one (.agg [(.int .i64),(.int .i64),(.int .i64),(.int .i64),(.int .i64),(.int .i64),.slc,.slc])) h3 fun v A=>
 aI xa (qG 47 true (.tuple #[])) A fun b B=>
 ab xa (qe 47 b v) B fun _ p=>
 ∃q,cellOf p b=some (vQ vW q)/\
 ab xa (qe 3 b (qc vW (q+1))) p fun _ r=>
 ∃s,cellOf r (b.add 1)=some (vQ vW s)/\
 ab xa (qe 3 (b.add 1) (qc vW (s+1))) r fun _ h8=>
 ∃t:Sl,cellOf h8 (b.add 7)=some (t:Value)/\
 ∃g:gr,ai h8 x 0 g/\
 av xa (qt 45 1 #[(0,g)]) aO h8 fun m u=>
 av xa (qu #[45,45] 45 #[t,m]) aO u fun j l=>
 ab xa (qe 45 (b.add 7) j) l fun _ d=>
 ∃c:Sl,cellOf d (b.add 7)=some (c:Value)/\
 ae xa 69 #[c,(.func (.func 70) #[] #[])] ia d fun _ e=>
 ∃i:bH,ai e b 0 i/\
 ab xa (qe 47 a3 i) e fun _ f=>
 ∃a:bH,ai f a3 0 a/\
 R a f
theorem GB(a:bH)(b:gr)(c:@Ar R h a b):ac xa 33 #[a,b] h R:=ao af func33 .n c
def mR(b:Int)(c:Addr)(d:Addr):Prop:=
 ∃i,cellOf h c=some (vQ vW i)/\
 ∃x2:Sl,cellOf h d=some (x2:Value)/\
 aN (σ:=Int×Int) (fun a K1 e=>
 Br (a.2<(x2.len:Int))
 (∃a4,(x2.ptr=some a4/\0<=a.2/\a.2<(x2.len:Int))/\
 ∃f:Int×Sl,ai e (a4.add (a.2.toNat*2)) 0 f/\
 aI xa (qG 80 true (.tuple #[])) e fun j k=>
 ab xa (qe 80 j f) k fun _ h3=>
 ∃g,cellOf h3 j=some (vQ vW g)/\
 Br (g==b)
 (K1 (qc vW (a.1+1),qc vW (a.2+1)) h3)
 (K1 (a.1,qc vW (a.2+1)) h3))
 (R a.1 e)) (i,(0:Int)) h
theorem sU(a:Int)(b:Addr)(c:Addr)(d:@mR R h a b c):ac xa 34 #[a,b,c] h R:=ao af func34 (ak.tn (ak.tn (.two (ak.tn (.inn (.loop [(5,bc),(11,bc)] [(5,6),(7,8),(11,22)] .n))) .n))) d
def nV(c:aM)(a:Sl)(b:cq):Prop:=
 aI xa (qI 29 c) h fun f g=>
 aI xa (qI 81 (.func (.func b.1) b.2.1 b.2.2)) g fun e d=>
 ae xa 72 #[a,(.func (.func 73) #[] #[f,e])] bY d fun i h3=>
 R (vU (!i)) h3
theorem uF(c:aM)(a:Sl)(b:cq)(d:@nV R h c a b):ac xa 35 #[c,a,(.func (.func b.1) b.2.1 b.2.2)] h R:=ao af func35 .n d
def mS(i:aM)(a:Sl)(d:cq):Prop:=
 aN (σ:=Int) (fun e K1 g=>
 Br (e<(a.len:Int))
 (∃l,(a.ptr=some l/\0<=e/\e<(a.len:Int))/\
 ∃x3,cellOf g (l.add (e.toNat*1))=some (vQ vW x3)/\
 aY (σ:=Int) (fun f m=>
 Br (f !=0)
 (R f m)
 (K1 (qc vW (e+1)) m))
 (fun o=>
 ∃a4,(i=some a4)/\
 (0<=x3/\x3<((64:Nat):Int))/\
 ∃j:aM,cellOf g ((a4.add 10).add (x3.toNat*1))=some (.pointer j)/\
 ∃c,(i=some c)/\
 ∃b:bH,ai g c 0 b/\
 gy C d.1 (d.2.1.toList++[(vQ vW x3)]++d.2.2.toList) bp g fun p k=>
 (aB.ok [(c,b.1),(c.add 1,b.2.1),(c.add 2,b.2.2.1),(c.add 3,b.2.2.2.1),(c.add 4,b.2.2.2.2.1),(c.add 5,b.2.2.2.2.2.1),(c.add 6,b.2.2.2.2.2.2.1),(c.add 7,b.2.2.2.2.2.2.2),((a4.add 10).add (x3.toNat*1),j)] k)/\
 ae xa 75 #[j,b,p] bp k fun n h3=>
 (aB.ok [] h3)/\
 o n h3))
 (R (vQ vW 0) g)) (0:Int) h
theorem sV(c:aM)(a:Sl)(b:cq)(d:@mS R h c a b):ac xa 36 #[c,a,(.func (.func b.1) b.2.1 b.2.2)] h R:=ao af func36 (ak.tn (.two (ak.tn (.inn (.loop [(12,bc)] [(6,7),(8,10),(12,34)] (ak.tn (ak.tn (.two (.inn (ak.tn (.two (.join [(9,bc)] [(9,10),(16,30)] .n) .n))) .n)))))) .n)) d
def nW(b:aM)(c:bH)(a:Sl):Prop:=
 aI xa (qI 47 c) h fun f g=>
 ∃x2:bH,ai g f 0 x2/\
 ae xa 27 #[x2,a] aO g fun l j=>
 ae xa 26 #[(.func (.func 8) #[b] #[]),l] bp j fun d h3=>
 Br (d !=0)
 (R d h3)
 (∃e:bH,ai h3 f 0 e/\
 ae xa 47 #[e] (.one (.agg [(.int .i64),(.int .i64),(.int .i64),(.int .i64),(.int .i64),(.int .i64),.slc,.slc])) h3 fun k m=>
 ∃i,(b=some i)/\
 ab xa (qe 47 i k) m fun _ n=>
 R (vQ vW 0) n)
theorem uG(b:aM)(c:bH)(a:Sl)(d:@nW R h b c a):ac xa 37 #[b,c,a] h R:=ao af func37 .n d
def ww(a:Sl):Prop:=
 aI xa (qG 47 true (.tuple #[])) h fun A I=>
 aI xa (qG 47 true (.tuple #[])) I fun q H=>
 aN (σ:=Bool×Int) (fun c K1 h3=>
 Br ((qc vW (c.2+1))>=(a.len:Int))
 (∃v:bH,ai h3 q 0 v/\
 ab xa (qe 47 A v) h3 fun _ B=>
 ∃f:bH,ai B A 0 f/\
 R (.tuple #[f,c.1]) B)
 (aY (σ:=Unit) (fun _ w=>
 ∃m,(a.ptr=some m/\0<=(qc vW (c.2+1))/\(qc vW (c.2+1))<(a.len:Int))/\
 ∃j:aM,cellOf w (m.add ((qc vW (c.2+1)).toNat*1))=some (.pointer j)/\
 ae xa 76 #[j] aO w fun g J=>
 aN (σ:=Bool×Int) (fun b t h8=>
 Br (b.2<(g.len:Int))
 (∃k,(g.ptr=some k/\0<=b.2/\b.2<(g.len:Int))/\
 ∃l:bH,ai h8 (k.add (b.2.toNat*8)) 0 l/\
 aI xa (qG 47 true (.tuple #[])) h8 fun e F=>
 ab xa (qe 47 e l) F fun _ d=>
 Br (!b.1) (∃p:bH,ai d e 0 p/\
 ab xa (qe 47 q p) d fun _ r=>
 t (true,qc vW (b.2+1)) r) (∃i,cellOf d e=some (vQ vW i)/\
 ∃n,cellOf d q=some (vQ vW n)/\
 Br (i>n)
 (∃o:bH,ai d e 0 o/\
 ab xa (qe 47 q o) d fun _ s=>
 t (true,qc vW (b.2+1)) s)
 (t (b.1,qc vW (b.2+1)) d)))
 (K1 (b.1,qc vW (c.2+1)) h8)) (c.1,(0:Int)) J)
 (fun G=>
 ∃y,(a.ptr=some y/\0<=(qc vW (c.2+1))/\(qc vW (c.2+1))<(a.len:Int))/\
 ∃x:aM,cellOf h3 (y.add ((qc vW (c.2+1)).toNat*1))=some (.pointer x)/\
 Br (qO x) (K1 (c.1,qc vW (c.2+1)) h3) (∃z,(a.ptr=some z/\0<=(qc vW (c.2+1))/\(qc vW (c.2+1))<(a.len:Int))/\
 ∃D:aM,cellOf h3 (z.add ((qc vW (c.2+1)).toNat*1))=some (.pointer D)/\
 ae xa 39 #[D] bY h3 fun u E=>
 Br u
 (K1 (c.1,qc vW (c.2+1)) E)
 (G () E))))) (false,(-1:Int)) H
theorem EK(a:Sl)(b:@ww R h a):ac xa 38 #[a] h R:=ao af func38 (ak.tn (.scope 0 [(5,ji),(6,bc)] [(3,4),(5,7),(8,50)] [.n,.n,.n] [(ak.tn (ak.tn (.two (.join [] [(17,29)] .n) (.two (ak.tn (.inn (.loop [(5,ji),(35,bc)] [(5,6),(8,9),(35,50)] .n))) .n))))] [])) b
def nX(a:aM):Prop:=
 Br (!(qO a)) (∃b,(a=some b)/\
 ∃x2:Bool,cellOf h (b.add 6)=some (vU x2)/\
 R x2 h) (R false h)
theorem uH(a:aM)(b:@nX R h a):ac xa 39 #[a] h R:=ao af func39 .n b
def Cy(b:aM)(d:bH):Prop:=
 aI xa (qI 47 d) h fun f g=>
 ∃x2:bH,ai g f 0 x2/\
 ae xa 77 #[b,x2] aO g fun i j=>
 ae xa 78 #[b] bp j fun k h3=>
 Br ((i.len:Int)<=k)
 (R i h3)
 (∃e:bH,ai h3 f 0 e/\
 ae xa 79 #[b,e] aO h3 fun a l=>
 ae xa 78 #[b] bp l fun c m=>
 (0<=(if c<(a.len:Int)then c else(a.len:Int))/\(if c<(a.len:Int)then c else(a.len:Int))<=(a.cap:Int))/\
 R (vR a.ptr ((if c<(a.len:Int)then c else(a.len:Int)).toNat) a.cap) m)
theorem IK(b:aM)(a:bH)(c:@Cy R h b a):ac xa 40 #[b,a] h R:=ao af func40 .n c
def fu(b:Sl)(d:Sl)(a:cq):Prop:=
 Br ((b.len:Int) !=(d.len:Int))
 (R false h)
 (aN (σ:=Int) (fun c K1 f=>
 Br (c<(b.len:Int))
 (∃i,(b.ptr=some i/\0<=c/\c<(b.len:Int))/\
 ∃x3:Sl,cellOf f (i.add (c.toNat*1))=some (x3:Value)/\
 ∃a4,(d.ptr=some a4/\0<=c/\c<(d.len:Int))/\
 ∃e:Sl,cellOf f (a4.add (c.toNat*1))=some (e:Value)/\
 gy C a.1 (a.2.1.toList++[(vR x3.ptr x3.len x3.cap),(vR e.ptr e.len e.cap)]++a.2.2.toList) bY f fun j g=>
 Br (!j)
 (R false g)
 (K1 (qc vW (c+1)) g))
 (R true f)) (0:Int) h)
theorem iN(b:Sl)(c:Sl)(a:cq)(d:@fu R h b c a):ac xa 41 #[b,c,(.func (.func a.1) a.2.1 a.2.2)] h R:=ao af func41 (ak.tn (ak.tn (.two (ak.tn (.inn (.loop [(17,bc)] [(6,10),(17,32)] .n))) .n))) d
def oy(a:aM):Prop:=
 Br (qO a)
 (R (vR none 0 0) h)
 (∃b,(a=some b)/\
 ∃x2:Sl,cellOf h (b.add 2)=some (x2:Value)/\
 ae xa 28 #[x2] aO h fun d c=>
 R d c)
theorem xF(a:aM)(b:@oy R h a):ac xa 42 #[a] h R:=ao af func42 .n b
def xb(b:Sl)(a:Sl):Prop:=
 av xa (convert 38 9 b) (.one UX) h fun d e=>
 av xa (convert 38 9 a) (.one UX) e fun f c=>
 R (vU (d.toList==f.toList)) c
theorem EL(b:Sl)(a:Sl)(c:@xb R h b a):ac xa 43 #[b,a] h R:=ao af func43 .n c
def lS(a:aM)(b:Sl):Prop:=
 aN (σ:=Int) (fun d K1 c=>
 Br (d<(b.len:Int))
 (∃y,(b.ptr=some y/\0<=d/\d<(b.len:Int))/\
 ∃x3:Sl,cellOf c (y.add (d.toNat*1))=some (x3:Value)/\
 Br ((x3.len:Int) !=64)
 (R (vQ vW 1) c)
 (K1 (qc vW (d+1)) c))
 (aY (σ:=Unit) (fun _ A=>
 ∃m,(a=some m)/\
 ∃f:aM,cellOf A m=some (.pointer f)/\
 ae xa 81 #[f] bY A fun t B=>
 Br (!t)
 (ae xa 28 #[b] aO B fun r F=>
 ∃l,(a=some l)/\
 ab xa (qe 64 (l.add 4) r) F fun _ H=>
 ∃g,(a=some g)/\
 ab xa (qe 4 (g.add 5) true) H fun _ h8=>
 R (vQ vW 14) h8)
 (ae xa 28 #[b] aO B fun q D=>
 ∃j,(a=some j)/\
 ab xa (qe 64 (j.add 2) q) D fun _ s=>
 ∃e,(a=some e)/\
 ab xa (qe 3 (e.add 3) (vQ vW 0)) s fun _ n=>
 ae xa 82 #[a] bp n fun u p=>
 R u p))
 (fun E=>
 aY (σ:=Bool) (fun G i=>
 Br G
 (R (vQ vW 5) i)
 (∃w,(a=some w)/\
 ∃z,cellOf i (w.add 1)=some (vQ vW z)/\
 Br ((b.len:Int)>z)
 (R (vQ vW 7) i)
 (∃a9,(a=some a9)/\
 ∃k:aM,cellOf i a9=some (.pointer k)/\
 ae xa 80 #[k] bY i fun o h3=>
 Br (!o)
 (R (vQ vW 14) h3)
 (E () h3))))
 (fun x=>
 Br (qO a) (x true c) (∃a4,(a=some a4)/\
 ∃v:Bool,cellOf c (a4.add 6)=some (vU v)/\
 x v c))))) (0:Int) h
theorem rl(b:aM)(a:Sl)(c:@lS R h b a):ac xa 44 #[b,a] h R:=ao af func44 (ak.tn (.two (ak.tn (.inn (.loop [(9,bc)] [(4,5),(6,7),(9,17)] .n))) (.two (.join [] [(4,5),(17,41)] (.inn (.two (.join [(17,ji)] [(17,26)] .n) .n))) .n))) c
def sW(e:bH)(b:aM)(a:Sl):Prop:=
 aI xa (qI 47 e) h fun j g=>
 aY (σ:=Unit) (fun _ h3=>
 ∃f:bH,ai h3 j 0 f/\
 ae xa 47 #[f] (.one (.agg [(.int .i64),(.int .i64),(.int .i64),(.int .i64),(.int .i64),(.int .i64),.slc,.slc])) h3 fun o p=>
 ae xa 24 #[b] bp p fun m q=>
 ∃i:Value,(aA xa (ve 63 #[(0,o),(1,b),(2,m)]) i)/\
 aI xa (qI 63 i) q fun a9 k=>
 ∃c:Addr,(some a9=some c)/\
 av xa (Builtin.copy_ #[40,40] 3 #[(.slice (some (c.add 10)) 64 64),a]) bp k fun _ n=>
 R a9 n)
 (fun K1=>
 ∃x2:bH,ai g j 0 x2/\
 ae xa 48 #[x2] bY g fun l d=>
 Br (!l) (R (vS none) d) (Br (qO b)
 (R (vS none) d)
 (K1 () d)))
theorem Dy(c:bH)(b:aM)(a:Sl)(d:@sW R h c b a):ac xa 45 #[c,b,a] h R:=ao af func45 (ak.tn (.two (.join [] [(6,7),(8,15)] .n) .n)) d
def jZ(a:Sl)(c:Sl):Prop:=
 Br ((a.len:Int) !=(c.len:Int))
 (R false h)
 (aN (σ:=Int) (fun b K1 d=>
 Br (b<(a.len:Int))
 (∃f,(a.ptr=some f/\0<=b/\b<(a.len:Int))/\
 ∃x3,cellOf d (f.add (b.toNat*1))=some (vQ vW x3)/\
 ∃a4,(c.ptr=some a4/\0<=b/\b<(c.len:Int))/\
 ∃e,cellOf d (a4.add (b.toNat*1))=some (vQ vW e)/\
 Br (x3 !=e)
 (R false d)
 (K1 (qc vW (b+1)) d))
 (R true d)) (0:Int) h)
theorem nY(b:Sl)(a:Sl)(c:@jZ R h b a):ac xa 46 #[b,a] h R:=ao af func46 (ak.tn (ak.tn (.two (ak.tn (.inn (.loop [(13,bc)] [(4,6),(13,26)] .n))) .n))) c
def EM(p:bH):Prop:=
 aI xa (qI 47 p) h fun a z=>
 aI xa (qG 47 true (.tuple #[])) z fun s n=>
 aY (σ:=Unit) (fun _ t=>
 ∃u:Sl,cellOf t (a.add 7)=some (u:Value)/\
 aN (σ:=Int) (fun e y h8=>
 Br (e<(u.len:Int))
 (∃d:Sl,cellOf h8 (a.add 7)=some (d:Value)/\
 ∃c:Sl,cellOf h8 (a.add 7)=some (c:Value)/\
 ∃i,(c.ptr=some i/\0<=e/\e<(c.len:Int))/\
 ∃f:Sl,cellOf h8 ((i.add (e.toNat*4)).add 3)=some (f:Value)/\
 ae xa 83 #[f] aO h8 fun o q=>
 (aB.ok [(a.add 7,c),(a.add 7,d)] q)/\
 ∃l,(d.ptr=some l/\0<=e/\e<(d.len:Int))/\
 ab xa (qe 22 ((l.add (e.toNat*4)).add 3) o) q fun _ k=>
 (aB.ok [] k)/\
 y (qc vW (e+1)) k)
 (∃j:bH,ai h8 a 0 j/\
 ab xa (qe 47 s j) h8 fun _ g=>
 ∃b:bH,ai g s 0 b/\
 R b g)) (0:Int) t)
 (fun K1=>
 ∃x3:Sl,cellOf n (a.add 6)=some (x3:Value)/\
 ∃m:Sl,cellOf n (a.add 7)=some (m:Value)/\
 ae xa 83 #[x3] aO n fun x h3=>
 (aB.ok [(a.add 7,m)] h3)/\
 ae xa 84 #[m] aO h3 fun A v=>
 (aB.ok [] v)/\
 ab xa (qe 22 (a.add 6) x) v fun _ w=>
 (aB.ok [] w)/\
 ab xa (qe 45 (a.add 7) A) w fun _ r=>
 (aB.ok [] r)/\
 K1 () r)
theorem KK(a:bH)(b:@EM R h a):ac xa 47 #[a] h R:=ao af func47 (ak.tn (.two (.join [] [(4,12)] .n) (.two (ak.tn (.inn (.loop [(15,bc)] [(3,4),(15,31)] .n))) .n))) b
def EN(A:bH):Prop:=
 aI xa (qI 47 A) h fun c H=>
 aY (σ:=Unit) (fun _ G=>
 aY (σ:=Unit) (fun _ h8=>
 ∃e:Sl,cellOf h8 (c.add 7)=some (e:Value)/\
 aN (σ:=Int) (fun a O w=>
 Br (a<(e.len:Int))
 (∃s,(e.ptr=some s/\0<=a/\a<(e.len:Int))/\
 ∃l:gr,ai w (s.add (a.toNat*4)) 0 l/\
 aI xa (qG 73 true (.tuple #[])) w fun d z=>
 ab xa (qe 73 d l) z fun _ g=>
 aY (σ:=Unit) (fun _ o=>
 ∃f:Sl,cellOf o (c.add 7)=some (f:Value)/\
 (0<=a/\a<=(f.cap:Int))/\
 ae xa 88 #[(vR f.ptr a.toNat f.cap),(.func (.func 89) #[] #[d])] bY o fun v r=>
 Br v
 (R false r)
 (O (qc vW (a+1)) r))
 (fun F=>
 ∃j:bH,ai g c 0 j/\
 ∃m:gr,ai g d 0 m/\
 ae xa 87 #[j,m] bY g fun D b=>
 (aB.ok [] b)/\
 Br (!D) (R false b) (Br (a>0) (∃i:Sl,cellOf b (c.add 7)=some (i:Value)/\
 ∃p,(i.ptr=some p/\0<=(qc vW (a-1))/\(qc vW (a-1))<(i.len:Int))/\
 ∃n:ByteArray,cellOf b (p.add ((qc vW (a-1)).toNat*4))=some (vT n)/\
 ∃t:ByteArray,cellOf b d=some (vT t)/\
 Br (!(Op.bytesLess n.toList t.toList))
 (R false b)
 (F () b)) (F () b))))
 (R true w)) (0:Int) h8)
 (fun N=>
 ∃q:Sl,cellOf G (c.add 6)=some (q:Value)/\
 ae xa 86 #[q,(vQ vW 63)] bY G fun x u=>
 Br (!x) (R false u) (∃k:Sl,cellOf u (c.add 7)=some (k:Value)/\
 Br ((k.len:Int)>12)
 (R false u)
 (N () u))))
 (fun K1=>
 ∃x2,cellOf H c=some (vQ vW x2)/\
 ae xa 85 #[x2,(vQ vW 1),(vQ vW 2147483647)] bY H fun P y=>
 Br (!P) (R false y) (∃E,cellOf y (c.add 1)=some (vQ vW E)/\
 ae xa 85 #[E,(vQ vW 0),(vQ vW 16777216)] bY y fun M h3=>
 Br (!M) (R false h3) (∃J:bX,ai h3 (c.add 2) 0 J/\
 ae xa 23 #[J] bY h3 fun Q B=>
 Br (!Q) (R false B) (∃I,cellOf B (c.add 5)=some (vQ vW I)/\
 ae xa 85 #[I,(vQ vW 0),(vQ vW 16)] bY B fun L K=>
 Br (!L)
 (R false K)
 (K1 () K)))))
theorem KL(a:bH)(b:@EN R h a):ac xa 48 #[a] h R:=ao af func48 (ak.tn (.two (.join [] [(2,3),(5,27)] .n) (.two (.join [] [(2,3),(27,37)] .n) (.two (ak.tn (.inn (.loop [(40,bc)] [(2,5),(40,72)] (ak.tn (ak.tn (.two (.inn (ak.tn (.two (.join [] [(2,3),(45,65)] .n) .n))) .n)))))) .n)))) b
def gu(b:Sl)(a:cq):Prop:=
 ae xa 90 #[b,(.func (.func a.1) a.2.1 a.2.2)] bp h fun c d=>
 R (decide (c>=0)) d
theorem km(b:Sl)(a:cq)(c:@gu R h b a):ac xa 49 #[b,(.func (.func a.1) a.2.1 a.2.2)] h R:=ao af func49 .n c
def sX(b:Sl)(a:Addr):Prop:=
 ∃c:Sl,cellOf h a=some (c:Value)/\
 ae xa 43 #[b,c] bY h fun e d=>
 R e d
theorem Dz(b:Sl)(a:Addr)(c:@sX R h b a):ac xa 50 #[b,a] h R:=ao af func50 .n c
def EO(c:cq)(a:Sl):Prop:=
 aN (σ:=Sl×Int) (fun b K1 e=>
 Br (b.2<(a.len:Int))
 (∃i,(a.ptr=some i/\0<=b.2/\b.2<(a.len:Int))/\
 ∃x3,cellOf e (i.add (b.2.toNat*1))=some (vQ vW x3)/\
 gy C c.1 (c.2.1.toList++[(vQ vW x3)]++c.2.2.toList) iX e fun g f=>
 Br (!(qO g)) (ae xa 39 #[g] bY f fun l h3=>
 Br (!l)
 (av xa (qt 22 1 #[(0,x3)]) aO h3 fun j k=>
 av xa (qu #[22,22] 22 #[b.1,j]) aO k fun d m=>
 K1 ((⟨d.ptr,d.len,d.cap⟩:Sl),qc vW (b.2+1)) m)
 (K1 ((⟨b.1.ptr,b.1.len,b.1.cap⟩:Sl),qc vW (b.2+1)) h3)) (K1 ((⟨b.1.ptr,b.1.len,b.1.cap⟩:Sl),qc vW (b.2+1)) f))
 (R b.1 e)) ((⟨none,0,0⟩:Sl),(0:Int)) h
theorem KM(b:cq)(a:Sl)(c:@EO R h b a):ac xa 51 #[(.func (.func b.1) b.2.1 b.2.2),a] h R:=ao af func51 (ak.tn (ak.tn (.two (ak.tn (.inn (.loop [(5,dg),(11,bc)] [(5,6),(7,9),(11,30)] .n))) .n))) c
def Cz(W:bH):Prop:=
 aI xa (qI 47 W) h fun e h1=>
 ∃x2:bH,ai h1 e 0 x2/\
 ae xa 48 #[x2] bY h1 fun r3 S=>
 Br (!r3)
 (R (vR none 0 0) S)
 (aY (σ:=Sl) (fun s8 w=>
 ∃x9,cellOf w (e.add 2)=some (vQ vW x9)/\
 ∃F,cellOf w ((e.add 2).add 1)=some (vQ vW F)/\
 ∃Q,cellOf w ((e.add 2).add 2)=some (vQ vW Q)/\
 ∃B,cellOf w (e.add 5)=some (vQ vW B)/\
 ∃x:Sl,cellOf w (e.add 6)=some (x:Value)/\
 av xa (qt 38 5 #[(0,(vQ vX (qc vX x9))),(1,(vQ vX (qc vX F))),(2,(vQ vX (qc vX Q))),(3,(vQ vX (qc vX B))),(4,(vQ vX (qc vX (x.len:Int))))]) aO w fun T h6=>
 av xa (qu #[38,38] 38 #[s8,T]) aO h6 fun s h7=>
 ∃j:Sl,cellOf h7 (e.add 6)=some (j:Value)/\
 aN (σ:=Sl×Int) (fun d K2 h8=>
 Br (d.2<(j.len:Int))
 (∃J,(j.ptr=some J/\0<=d.2/\d.2<(j.len:Int))/\
 ∃E,cellOf h8 (J.add (d.2.toNat*1))=some (vQ vW E)/\
 av xa (qt 38 1 #[(0,(vQ vX (qc vX E)))]) aO h8 fun a3 h9=>
 av xa (qu #[38,38] 38 #[d.1,a3]) aO h9 fun p ax=>
 K2 ((⟨p.ptr,p.len,p.cap⟩:Sl),qc vW (d.2+1)) ax)
 (∃L:Sl,cellOf h8 (e.add 7)=some (L:Value)/\
 av xa (qt 38 1 #[(0,(vQ vX (qc vX (L.len:Int))))]) aO h8 fun a4 a2=>
 av xa (qu #[38,38] 38 #[d.1,a4]) aO a2 fun q z=>
 ∃g:Sl,cellOf z (e.add 7)=some (g:Value)/\
 aN (σ:=Sl×Int) (fun c K3 m=>
 Br (c.2<(g.len:Int))
 (∃I,(g.ptr=some I/\0<=c.2/\c.2<(g.len:Int))/\
 ∃H:gr,ai m (I.add (c.2.toNat*4)) 0 H/\
 aI xa (qG 73 true (.tuple #[])) m fun a ad=>
 ab xa (qe 73 a H) ad fun _ v=>
 aY (σ:=Sl) (fun ay o=>
 aY (σ:=Sl) (fun u N=>
 ∃i:Sl,cellOf N (a.add 3)=some (i:Value)/\
 aN (σ:=Sl×Int) (fun b K6 n=>
 Br (b.2<(i.len:Int))
 (∃P,(i.ptr=some P/\0<=b.2/\b.2<(i.len:Int))/\
 ∃D,cellOf n (P.add (b.2.toNat*1))=some (vQ vW D)/\
 av xa (qt 38 1 #[(0,(vQ vX (qc vX D)))]) aO n fun v45 a0=>
 av xa (qu #[38,38] 38 #[b.1,v45]) aO a0 fun v46 V=>
 K6 ((⟨v46.ptr,v46.len,v46.cap⟩:Sl),qc vW (b.2+1)) V)
 (K3 ((⟨b.1.ptr,b.1.len,b.1.cap⟩:Sl),qc vW (c.2+1)) n)) ((⟨u.ptr,u.len,u.cap⟩:Sl),(0:Int)) N)
 (fun K5=>
 ∃y,cellOf o (a.add 1)=some (vQ vW y)/\
 ∃r,cellOf o (a.add 2)=some (vQ vW r)/\
 ae xa 91 #[ay,y,(vQ vW 3)] aO o fun U A=>
 (aB.ok [(a.add 2,r)] A)/\
 ae xa 91 #[U,r,(vQ vW 2)] aO A fun l K=>
 (aB.ok [] K)/\
 K5 (⟨l.ptr,l.len,l.cap⟩:Sl) K))
 (fun K4=>
 ∃f:ByteArray,cellOf v a=some (vT f)/\
 ∃k:ByteArray,cellOf v a=some (vT k)/\
 av xa (qt 38 1 #[(0,(vQ vX (qc vX (f.size:Int))))]) aO v fun am M=>
 (aB.ok [(a,k),(a,f)] M)/\
 av xa (qu #[38,38] 38 #[c.1,am]) aO M fun Y O=>
 (aB.ok [(a,k),(a,f)] O)/\
 av xa (qu #[38,9] 38 #[Y,k]) aO O fun t G=>
 (aB.ok [(a,f)] G)/\
 K4 (⟨t.ptr,t.len,t.cap⟩:Sl) G))
 (R c.1 m)) ((⟨q.ptr,q.len,q.cap⟩:Sl),(0:Int)) z)) ((⟨s.ptr,s.len,s.cap⟩:Sl),(0:Int)) h7)
 (fun K1=>
 ∃x4,cellOf S e=some (vQ vW x4)/\
 ∃X,cellOf S (e.add 1)=some (vQ vW X)/\
 ae xa 91 #[(vR none 0 0),x4,(vQ vW 4)] aO S fun r6 h3=>
 (aB.ok [(e.add 1,X)] h3)/\
 ae xa 91 #[r6,X,(vQ vW 4)] aO h3 fun Z h4=>
 (aB.ok [] h4)/\
 K1 (⟨Z.ptr,Z.len,Z.cap⟩:Sl) h4))
theorem IL(a:bH)(b:@Cz R h a):ac xa 52 #[a] h R:=ao af func52 (ak.tn (ak.tn (.two (.join [(3,dg)] [(3,4),(13,19)] .n) (ak.tn (.two (ak.tn (.inn (.loop [(3,dg),(44,bc)] [(3,4),(5,6),(44,54)] .n))) (ak.tn (.two (ak.tn (.inn (.loop [(3,dg),(64,bc)] [(3,4),(7,8),(9,10),(64,99)] (ak.tn (ak.tn (.two (.inn (ak.tn (.two (.join [(3,dg)] [(3,4),(68,78)] .n) (.two (.join [(3,dg)] [(3,4),(78,85)] .n) (ak.tn (.inn (.loop [(3,dg),(88,bc)] [(3,4),(9,10),(88,98)] .n))))))) .n)))))) .n))))))) b
def EP(a:Int)(b:Int)(c:Int)(d:Sl):Prop:=
 (0<=(24:Int))/\
 (0<=(16:Int))/\
 (0<=(8:Int))/\
 av xa (qt 38 7 #[(0,(vQ vX (qc vX (qL a (2^min (24:Int).toNat (qj vW)))))),(1,(vQ vX (qc vX (qL a (2^min (16:Int).toNat (qj vW)))))),(2,(vQ vX (qc vX (qL a (2^min (8:Int).toNat (qj vW)))))),(3,(vQ vX (qc vX a))),(4,(vQ vX (qc vX b))),(5,(vQ vX (qc vX c))),(6,(vQ vX (qc vX (d.len:Int))))]) aO h fun i f=>
 av xa (qu #[38,38] 38 #[i,d]) aO f fun j e=>
 ae xa 92 #[(vQ vW 2),j] aO e fun g h3=>
 R g h3
theorem KN(c:Int)(a:Int)(b:Int)(d:Sl)(e:@EP R h c a b d):ac xa 53 #[c,a,b,d] h R:=ao af func53 .n e
def jw(a:aM)(i:Sl):Prop:=
 aY (σ:=Unit) (fun _ h3=>
 aY (σ:=Unit) (fun _ h8=>
 ∃g,(a=some g)/\
 ∃e,cellOf h8 (g.add 3)=some (vQ vW e)/\
 ∃f,(a=some f)/\
 ab xa (qe 3 (f.add 3) (qc vW (e+1))) h8 fun _ u=>
 ∃a22,(a=some a22)/\
 ∃l:aM,cellOf u a22=some (.pointer l)/\
 ae xa 81 #[l] bY u fun m j=>
 Br (!m)
 (R (vQ vW 14) j)
 (ae xa 82 #[a] bp j fun o n=>
 R o n))
 (fun H=>
 ∃c,(a=some c)/\
 ∃b:Sl,cellOf h3 (c.add 2)=some (b:Value)/\
 ae xa 56 #[i] aO h3 fun p E=>
 (aB.ok [(c.add 2,b)] E)/\
 av xa (qt 64 1 #[(0,p)]) aO E fun s G=>
 (aB.ok [(c.add 2,b)] G)/\
 av xa (qu #[64,64] 64 #[b,s]) aO G fun r w=>
 (aB.ok [] w)/\
 ∃k,(a=some k)/\
 ab xa (qe 64 (k.add 2) r) w fun _ B=>
 (aB.ok [] B)/\
 H () B))
 (fun K1=>
 Br ((i.len:Int) !=64)
 (R (vQ vW 1) h)
 (aY (σ:=Bool) (fun I d=>
 Br I
 (R (vQ vW 5) d)
 (∃a4,(a=some a4)/\
 ∃t:Sl,cellOf d (a4.add 2)=some (t:Value)/\
 ∃z,(a=some z)/\
 ∃y,cellOf d (z.add 1)=some (vQ vW y)/\
 Br ((t.len:Int)>=y)
 (R (vQ vW 7) d)
 (∃A,(a=some A)/\
 ∃F:aM,cellOf d A=some (.pointer F)/\
 ae xa 80 #[F] bY d fun q x=>
 Br (!q)
 (R (vQ vW 14) x)
 (K1 () x))))
 (fun v=>
 Br (qO a) (v true h) (∃D,(a=some D)/\
 ∃x2:Bool,cellOf h (D.add 6)=some (vU x2)/\
 v x2 h))))
theorem ld(b:aM)(a:Sl)(c:@jw R h b a):ac xa 54 #[b,a] h R:=ao af func54 (ak.tn (.two (.join [] [(4,36)] (.inn (ak.tn (ak.tn (.two (.join [(9,ji)] [(9,18)] .n) .n))))) (.two (.join [] [(36,47)] .n) .n))) c
end
end Go.Qw
