/- Lemmas for the proof of the law; no condition. -/
import Derived.Test.YtahcfjokgnjinaaGreatDoorPlA
import Derived.Test.YtahcfjokgnjinaaGreatDoorProg
set_option linter.unusedVariables false
open Go.Proofs.Tryz renaming prog -> xB
open Go.Value renaming agg -> xw, bool -> xv, int -> xq, pointer -> xt, slice -> xr, string -> xu
open Go.IntKind renaming bits -> qk, i64 -> xx, u32 -> xz, u64 -> xA, u8 -> xy, wrap -> qc
open List renaming replicate -> qh, toArray -> yI
open Option renaming isNone -> qT
open Go.Instr renaming alloc -> qL, box -> qM, build -> vW, buildSlice -> qq, makeSlice -> qF, storeAt -> qf
open Go.Builtin renaming append_ -> qt, clear_ -> yw, copy_ -> yq
open Int renaming fdiv -> qX, tdiv -> wA, tmod -> wk
open BitVec renaming ofInt -> qD
open Go.Proofs.Tryz
set_option maxRecDepth 1000000
open Option renaming some -> dB, none -> eH
open Bool renaming true -> eR, false -> eS
open Go renaming Value -> eX, Addr -> f7
namespace Go.Qw
open Go Go.Vc Go.Proofs
instance:Coe Int eX:=⟨λx=>xq xx x⟩
instance:Coe Sl eX:=⟨λs=>xr s.ptr s.len s.cap⟩
instance:Coe ByteArray eX:=⟨.string⟩
instance:Coe (Option f7) eX:=⟨.pointer⟩
instance:Coe f7 eX:=⟨λa=>xt (dB a)⟩
instance:Coe Bool eX:=⟨.bool⟩
instance:Coe (Int×Int×Int×Int×Int×Int×Sl×Sl) (List eX):=⟨λx=>[x.1,x.2.1,x.2.2.1,x.2.2.2.1,x.2.2.2.2.1,x.2.2.2.2.2.1,x.2.2.2.2.2.2.1,x.2.2.2.2.2.2.2]⟩
instance:Coe (Int×Int×Int×Int×Int×Int×Sl×Sl) eX:=⟨λx=>xw (yI x)⟩
instance:Coe (Int×Int×Int) (List eX):=⟨λx=>[x.1,x.2.1,x.2.2]⟩
instance:Coe (Int×Int×Int) eX:=⟨λx=>xw (yI x)⟩
instance:Coe (Int×ByteArray×Sl×Int×Int×Int×Int×Sl×Sl) (List eX):=⟨λx=>[x.1,x.2.1,x.2.2.1,x.2.2.2.1,x.2.2.2.2.1,x.2.2.2.2.2.1,(xq xz x.2.2.2.2.2.2.1),x.2.2.2.2.2.2.2.1,x.2.2.2.2.2.2.2.2]⟩
instance:Coe (Int×ByteArray×Sl×Int×Int×Int×Int×Sl×Sl) eX:=⟨λx=>xw (yI x)⟩
instance:Coe (ByteArray×Int×Int×Sl) (List eX):=⟨λx=>[x.1,x.2.1,x.2.2.1,x.2.2.2]⟩
instance:Coe (ByteArray×Int×Int×Sl) eX:=⟨λx=>xw (yI x)⟩
instance:Coe (Int×Sl) (List eX):=⟨λx=>[x.1,x.2]⟩
instance:Coe (Int×Sl) eX:=⟨λx=>xw (yI x)⟩
instance:Coe (Int×Int×Int×Int×Int×Int×Int×Sl) (List eX):=⟨λx=>[x.1,x.2.1,x.2.2.1,x.2.2.2.1,x.2.2.2.2.1,x.2.2.2.2.2.1,(xq xz x.2.2.2.2.2.2.1),x.2.2.2.2.2.2.2]⟩
instance:Coe (Int×Int×Int×Int×Int×Int×Int×Sl) eX:=⟨λx=>xw (yI x)⟩
instance:Coe (Int×Int×Int×Sl×Sl) (List eX):=⟨λx=>[x.1,x.2.1,x.2.2.1,x.2.2.2.1,x.2.2.2.2]⟩
instance:Coe (Int×Int×Int×Sl×Sl) eX:=⟨λx=>xw (yI x)⟩
instance:Coe (Sl×Sl) (List eX):=⟨λx=>[x.1,x.2]⟩
instance:Coe (Sl×Sl) eX:=⟨λx=>xw (yI x)⟩
instance:Coe (Sl×Sl×Sl) (List eX):=⟨λx=>[x.1,x.2.1,x.2.2]⟩
instance:Coe (Sl×Sl×Sl) eX:=⟨λx=>xw (yI x)⟩
instance:Coe (Int×Int) (List eX):=⟨λx=>[x.1,x.2]⟩
instance:Coe (Int×Int) eX:=⟨λx=>xw (yI x)⟩
abbrev be(h:Heap)(a:f7)(k:Int->Prop):Prop:=∃x,cellOf h a=dB (xq xx x)/\k x
abbrev gv(i:IntKind)(h:Heap)(a:f7)(k:Int->Prop):Prop:=∃x:Int,cellOf h a=dB (.int i x)/\k x
abbrev bj(h:Heap)(a:f7)(k:Sl->Prop):Prop:=∃x:Sl,cellOf h a=dB (x:eX)/\k x
abbrev AE(h:Heap)(a:f7)(k:ByteArray->Prop):Prop:=∃x:ByteArray,cellOf h a=dB (xu x)/\k x
abbrev sB(h:Heap)(a:f7)(k:Bool->Prop):Prop:=∃x:Bool,cellOf h a=dB (xv x)/\k x
abbrev jU(h:Heap)(a:f7)(k:aM->Prop):Prop:=∃x:aM,cellOf h a=dB (.pointer x)/\k x
abbrev aQ(s:Sl)(i:Int)(k:f7->Prop):Prop:=∃a,(s.ptr=dB a/\0<=i/\i<((s.len:Nat):Int))/\k a
abbrev bS:=Int×Int×Int
abbrev cU:=Int×Int×Int×Int×Int×Int×Sl×Sl
abbrev iE:=ByteArray×Int×Int×Sl
abbrev fe:=Int×Int×Int×Int×Int×Int×Int×Sl
abbrev Dw:=Int×ByteArray×Sl×Int×Int×Int×Int×Sl×Sl
abbrev Tu6:=Int×Int×Int×Bool×Bool
abbrev CN:Rt:=.one (.agg [(.int .i64),(.int .i64),(.int .i64),(.int .i64),(.int .i64),(.int .i64),.slc,.slc])
abbrev aI:Rt:=.one (.sc .slc)
abbrev bw:Rt:=.one (.sc (.int .i64))
abbrev jt:Rt:=.one (.sc .ptr)
abbrev bN:Rt:=.one (.sc .bool)
abbrev iF:Rt:=.many []
abbrev cy:Ty:=.sc .slc
abbrev aZ:Ty:=.sc (.int .i64)
abbrev FX:Ty:=.sc .ptr
abbrev iR:Ty:=.sc .bool
abbrev Ua:Ty:=.sc .str
variable {R:Hb} {h:Heap}
def abV:ByteArray:=⟨#[0]⟩
def ahH:ByteArray:=⟨#[97]⟩
def ahI:ByteArray:=⟨#[98]⟩
def Zt:ByteArray:=⟨#[99,97,116,45,55]⟩
def ahJ:ByteArray:=⟨#[100]⟩
def HU:ByteArray:=⟨#[101,49,50,51,52,53,54,55,56,57,48,49]⟩
def rD:ByteArray:=⟨#[]⟩
abbrev aU:TI:=⟨.fn,(.sc .fn),1,8,[.nilFunc]⟩
abbrev ti1:TI:=⟨.int .i64,(.sc (.int .i64)),1,8,[(xq xx 0)]⟩
abbrev ti2:TI:=⟨.int .u8,(.sc (.int .u8)),1,1,[(xq xy 0)]⟩
abbrev ti3:TI:=⟨.str,(.sc .str),1,16,[(.string ⟨#[]⟩)]⟩
abbrev ti4:TI:=⟨.int .u64,(.sc (.int .u64)),1,8,[(xq xA 0)]⟩
abbrev ti5:TI:=⟨.int .i32,(.sc (.int .i32)),1,4,[(.int .i32 0)]⟩
abbrev ti6:TI:=⟨.other,(.sc .any),1,0,[(.tuple #[(xq xx 0),(xq xx 0)])]⟩
abbrev ti7:TI:=⟨.other,(.sc .any),1,0,[(.tuple #[(xt eH),(xq xx 0)])]⟩
abbrev ti8:TI:=⟨.other,(.sc .any),1,0,[(.tuple #[(xr eH 0 0),(xq xx 0)])]⟩
abbrev ti9:TI:=⟨.struct [(0,3),(1,71)],(.agg [(.int .i64),.slc]),2,32,[(xq xx 0),(xr eH 0 0)]⟩
abbrev Zu:TI:=⟨.other,(.sc .any),1,0,[(.tuple #[(xr eH 0 0),(.bool .false)])]⟩
abbrev aiY:TI:=⟨.struct [(0,2),(1,3),(2,4),(3,6)],(.agg [(.int .i64),(.int .i64),.bool,(.int .u8)]),4,24,[(xq xx 0),(xq xx 0),(.bool .false),(xq xy 0)]⟩
abbrev aiZ:TI:=⟨.struct [(0,9),(1,12)],(.agg [.str,(.int .u64)]),2,24,[(xu ⟨#[]⟩),(xq xA 0)]⟩
abbrev aja:TI:=⟨.struct [(0,17)],(.agg [.ptr]),1,8,[(xt eH)]⟩
abbrev ajb:TI:=⟨.struct [(0,3),(1,3),(2,3)],(.agg [(.int .i64),(.int .i64),(.int .i64)]),3,24,[(xq xx 0),(xq xx 0),(xq xx 0)]⟩
abbrev ajc:TI:=⟨.struct [(0,3),(1,3),(2,26),(5,3),(6,22),(7,27)],(.agg [(.int .i64),(.int .i64),(.int .i64),(.int .i64),(.int .i64),(.int .i64),.slc,.slc]),8,96,[(xq xx 0),(xq xx 0),(xq xx 0),(xq xx 0),(xq xx 0),(xq xx 0),(xr eH 0 0),(xr eH 0 0)]⟩
abbrev ajd:TI:=⟨.struct [(0,3),(1,3),(2,34)],(.agg [(.int .i64),(.int .i64),(.int .u32)]),3,24,[(xq xx 0),(xq xx 0),(xq xz 0)]⟩
abbrev aje:TI:=⟨.struct [(0,3),(1,9),(2,71),(3,3),(4,3),(5,3),(6,34),(7,22),(8,22)],(.agg [(.int .i64),.str,.slc,(.int .i64),(.int .i64),(.int .i64),(.int .u32),.slc,.slc]),9,128,[(xq xx 0),(xu ⟨#[]⟩),(xr eH 0 0),(xq xx 0),(xq xx 0),(xq xx 0),(xq xz 0),(xr eH 0 0),(xr eH 0 0)]⟩
abbrev ajf:TI:=⟨.struct [(0,29),(8,49),(9,3),(10,89)],(.arr .any),74,624,[(xq xx 0),(xq xx 0),(xq xx 0),(xq xx 0),(xq xx 0),(xq xx 0),(xr eH 0 0),(xr eH 0 0),(xt eH),(xq xx 0)]++qh 64 (xt eH)⟩
abbrev ajg:TI:=⟨.struct [(0,9),(1,3),(2,3),(3,22)],(.agg [.str,(.int .i64),(.int .i64),.slc]),4,56,[(xu ⟨#[]⟩),(xq xx 0),(xq xx 0),(xr eH 0 0)]⟩
abbrev ajh:TI:=⟨.struct [(0,23),(1,29),(9,22),(10,3),(11,3),(12,3)],(.agg [.ptr,(.int .i64),(.int .i64),(.int .i64),(.int .i64),(.int .i64),(.int .i64),.slc,.slc,.slc,(.int .i64),(.int .i64),(.int .i64)]),13,152,[(xt eH),(xq xx 0),(xq xx 0),(xq xx 0),(xq xx 0),(xq xx 0),(xq xx 0),(xr eH 0 0),(xr eH 0 0),(xr eH 0 0),(xq xx 0),(xq xx 0),(xq xx 0)]⟩
abbrev agw:TI:=⟨.struct [(0,49),(1,3),(2,56),(3,3),(4,56),(5,4),(6,4)],(.agg [.ptr,(.int .i64),.slc,(.int .i64),.slc,.bool,.bool]),7,80,[(xt eH),(xq xx 0),(xr eH 0 0),(xq xx 0),(xr eH 0 0),(.bool .false),(.bool .false)]⟩
abbrev agx:TI:=⟨.struct [(0,4),(1,4),(2,3),(3,3)],(.agg [.bool,.bool,(.int .i64),(.int .i64)]),4,24,[(.bool .false),(.bool .false),(xq xx 0),(xq xx 0)]⟩
abbrev agy:TI:=⟨.struct [(0,3),(1,3),(2,3),(3,26),(6,34),(7,71)],(.agg [(.int .i64),(.int .i64),(.int .i64),(.int .i64),(.int .i64),(.int .i64),(.int .u32),.slc]),8,80,[(xq xx 0),(xq xx 0),(xq xx 0),(xq xx 0),(xq xx 0),(xq xx 0),(xq xz 0),(xr eH 0 0)]⟩
abbrev agz:TI:=⟨.struct [(0,3),(1,3),(2,34),(3,174),(4,37),(5,22)],(.agg [(.int .i64),(.int .i64),(.int .u32),.ptr,.slc,.slc]),6,80,[(xq xx 0),(xq xx 0),(xq xz 0),(xt eH),(xr eH 0 0),(xr eH 0 0)]⟩
abbrev agA:TI:=⟨.struct [(0,233),(255,235)],(.arr .any),511,2304,qh 255 (xq xy 0)++qh 256 (xq xx 0)⟩
abbrev agB:TI:=⟨.struct [(0,166),(1,3),(2,56)],(.agg [.ptr,(.int .i64),.slc]),3,40,[(xt eH),(xq xx 0),(xr eH 0 0)]⟩
abbrev agC:TI:=⟨.struct [(0,26),(3,34),(4,56)],(.agg [(.int .i64),(.int .i64),(.int .i64),(.int .u32),.slc]),5,56,[(xq xx 0),(xq xx 0),(xq xx 0),(xq xz 0),(xr eH 0 0)]⟩
abbrev agD:TI:=⟨.struct [(0,3),(1,264)],(.agg [(.int .i64),(.flt .f64)]),2,16,[(xq xx 0),(.float Go.FloatKind.f64 0)]⟩
abbrev agE:TI:=⟨.struct [(0,22),(1,71)],(.agg [.slc,.slc]),2,48,[(xr eH 0 0),(xr eH 0 0)]⟩
abbrev agF:TI:=⟨.struct [(0,291),(1,22),(2,22)],(.agg [.slc,.slc,.slc]),3,72,[(xr eH 0 0),(xr eH 0 0),(xr eH 0 0)]⟩
abbrev agG:TI:=⟨.struct [(0,166),(1,26),(4,56),(5,287),(6,293),(9,56),(10,56)],(.agg [.ptr,(.int .i64),(.int .i64),(.int .i64),.slc,.slc,.slc,.slc,.slc,.slc,.slc]),11,200,[(xt eH),(xq xx 0),(xq xx 0),(xq xx 0),(xr eH 0 0),(xr eH 0 0),(xr eH 0 0),(xr eH 0 0),(xr eH 0 0),(xr eH 0 0),(xr eH 0 0)]⟩
abbrev agH:TI:=⟨.struct [(0,3),(1,3),(2,3),(3,71),(4,71)],(.agg [(.int .i64),(.int .i64),(.int .i64),.slc,.slc]),5,72,[(xq xx 0),(xq xx 0),(xq xx 0),(xr eH 0 0),(xr eH 0 0)]⟩
abbrev agI:TI:=⟨.struct [(0,260),(1,260),(2,3),(3,3),(4,4)],(.agg [(.cpx .f64),(.cpx .f64),(.int .i64),(.int .i64),.bool]),5,56,[(.complex Go.FloatKind.f64 0 0),(.complex Go.FloatKind.f64 0 0),(xq xx 0),(xq xx 0),(.bool .false)]⟩
abbrev agJ:TI:=⟨.struct [(0,287),(1,296),(2,56)],(.agg [.slc,.slc,.slc]),3,72,[(xr eH 0 0),(xr eH 0 0),(xr eH 0 0)]⟩
abbrev agK:TI:=⟨.struct [(0,3),(1,3)],(.agg [(.int .i64),(.int .i64)]),2,16,[(xq xx 0),(xq xx 0)]⟩
abbrev agL:TI:=⟨.array 256 4,(.arr .bool),256,256,qh 256 (.bool .false)⟩
abbrev agM:TI:=⟨.struct [(0,284)],(.agg [(.int .u64)]),1,8,[(xq xA 0)]⟩
abbrev agN:TI:=⟨.struct [(0,37),(1,296),(2,296)],(.agg [.slc,.slc,.slc]),3,72,[(xr eH 0 0),(xr eH 0 0),(xr eH 0 0)]⟩
abbrev agO:TI:=⟨.struct [(0,71),(1,4)],(.agg [.slc,.bool]),2,32,[(xr eH 0 0),(.bool .false)]⟩
abbrev agP:TI:=⟨.struct [(0,5),(1,5)],(.agg [(.int .u8),(.int .u8)]),2,2,[(xq xy 0),(xq xy 0)]⟩
abbrev agQ:TI:=⟨.struct [(0,17),(1,17),(2,17),(3,9)],(.agg [.ptr,.ptr,.ptr,.str]),4,40,[(xt eH),(xt eH),(xt eH),(xu ⟨#[]⟩)]⟩
abbrev agR:TI:=⟨.struct [(0,427)],(.agg []),0,0,[]⟩
abbrev agS:TI:=⟨.struct [(0,12),(1,12),(2,34),(3,430),(4,5),(5,5),(6,431),(7,432),(8,285),(9,433),(10,434)],(.agg [(.int .u64),(.int .u64),(.int .u32),(.int .u8),(.int .u8),(.int .u8),(.int .u8),.fn,.ptr,(.int .i32),(.int .i32)]),11,48,[(xq xA 0),(xq xA 0),(xq xz 0),(xq xy 0),(xq xy 0),(xq xy 0),(xq xy 0),.nilFunc,(xt eH),(.int .i32 0),(.int .i32 0)]⟩
noncomputable def tbl:kM:=[⟨.other,(.sc .any),1,0,[(.tuple #[])]⟩,aU,ti1,ti1,⟨.bool,(.sc .bool),1,1,[(.bool .false)]⟩,ti2,ti2,aiY,aiY,ti3,ti3,ti3,ti4,aiZ,aiZ,⟨.ptr 426,(.sc .ptr),1,8,[(xt eH)]⟩,⟨.ptr 429,(.sc .ptr),1,8,[(xt eH)]⟩,⟨.ptr 436,(.sc .ptr),1,8,[(xt eH)]⟩,aja,aja,⟨.other,(.sc .any),1,16,[.nilIface]⟩,ti5,⟨.slice 3,(.sc .slc),1,24,[(xr eH 0 0)]⟩,⟨.ptr 91,(.sc .ptr),1,8,[(xt eH)]⟩,aU,ajb,ajb,⟨.slice 94,(.sc .slc),1,24,[(xr eH 0 0)]⟩,ajc,ajc,aU,aU,⟨.slice 36,(.sc .slc),1,24,[(xr eH 0 0)]⟩,aU,⟨.int .u32,(.sc (.int .u32)),1,4,[(xq xz 0)]⟩,ajd,ajd,⟨.slice 22,(.sc .slc),1,24,[(xr eH 0 0)]⟩,aU,aU,ti1,ti6,aU,aU,aU,aU,⟨.other,(.sc .any),1,0,[(.tuple #[(.bool .false),(xq xx 0)])]⟩,aU,aU,⟨.ptr 121,(.sc .ptr),1,8,[(xt eH)]⟩,aU,ti7,aU,⟨.slice 57,(.sc .slc),1,24,[(xr eH 0 0)]⟩,aU,⟨.slice 56,(.sc .slc),1,24,[(xr eH 0 0)]⟩,⟨.slice 71,(.sc .slc),1,24,[(xr eH 0 0)]⟩,⟨.ptr 119,(.sc .ptr),1,8,[(xt eH)]⟩,aU,aU,aU,aU,aU,aU,aU,aU,⟨.other,(.sc .any),1,0,[(.tuple #[(.agg #[(xq xx 0),(xq xx 0),(xq xx 0)]),(xq xx 0),(xr eH 0 0)])]⟩,aU,aU,⟨.slice 73,(.sc .slc),1,24,[(xr eH 0 0)]⟩,aU,⟨.slice 5,(.sc .slc),1,24,[(xr eH 0 0)]⟩,aje,aje,aU,aU,aU,⟨.slice 9,(.sc .slc),1,24,[(xr eH 0 0)]⟩,aU,ti8,aU,aU,aU,⟨.other,(.sc .any),1,0,[(.tuple #[(xq xx 0),(xr eH 0 0),(.bool .false)])]⟩,aU,aU,aU,aU,aU,⟨.array 64 57,(.arr .ptr),64,512,qh 64 (xt eH)⟩,ajf,ajf,aU,ajg,ajg,aU,⟨.slice 99,(.sc .slc),1,24,[(xr eH 0 0)]⟩,aU,ti9,ti9,aU,aU,⟨.ptr 104,(.sc .ptr),1,8,[(xt eH)]⟩,ajh,ajh,aU,aU,aU,⟨.other,(.sc .any),1,0,[(.tuple #[(xr eH 0 0),(.bool .false),(xq xx 0)])]⟩,aU,aU,aU,⟨.other,(.sc .any),1,0,[(.tuple #[(.agg #[(xq xx 0),(xq xx 0),(xq xx 0),(xq xx 0),(xq xx 0),(xq xx 0),(xr eH 0 0),(xr eH 0 0)]),(.bool .false)])]⟩,aU,aU,aU,aU,aU,agw,agw,agx,agx,aU,aU,aU,Zu,aU,aU,aU,aU,aU,⟨.slice 141,(.sc .slc),1,24,[(xr eH 0 0)]⟩,aU,aU,aU,aU,aU,Zu,aU,aU,ti9,ti9,aU,aU,aU,aU,aU,aU,aU,aU,aU,aU,aU,aU,Zu,aU,aU,aU,aU,aU,aU,⟨.slice 164,(.sc .slc),1,24,[(xr eH 0 0)]⟩,aU,agy,agy,aU,⟨.ptr 238,(.sc .ptr),1,8,[(xt eH)]⟩,aU,aU,⟨.ptr 176,(.sc .ptr),1,8,[(xt eH)]⟩,ti7,aU,aU,aU,⟨.ptr 259,(.sc .ptr),1,8,[(xt eH)]⟩,agz,agz,ti8,aU,aU,⟨.ptr 242,(.sc .ptr),1,8,[(xt eH)]⟩,aU,aU,aU,aU,aU,aU,aU,aU,⟨.slice 29,(.sc .slc),1,24,[(xr eH 0 0)]⟩,aU,aU,aU,aU,aU,aU,aU,aU,⟨.other,(.sc .any),1,0,[(.tuple #[(xq xx 0),(.bool .false)])]⟩,aU,aU,ti7,aU,aU,aU,aU,aU,aU,aU,aU,aU,aU,aU,aU,aU,ti4,aU,aU,aU,aU,aU,ti8,aU,aU,aU,⟨.other,(.sc .any),1,0,[(.tuple #[(.agg #[(xq xx 0),(xq xx 0),(xq xx 0),(xq xx 0),(xq xx 0),(xq xx 0),(xq xz 0),(xr eH 0 0)]),(.bool .false)])]⟩,aU,aU,aU,aU,aU,aU,aU,⟨.array 255 5,(.arr (.int .u8)),255,255,qh 255 (xq xy 0)⟩,aU,⟨.array 256 3,(.arr (.int .i64)),256,2048,qh 256 (xq xx 0)⟩,aU,agA,agA,aU,aU,agB,agB,aU,aU,aU,aU,aU,aU,aU,aU,aU,aU,aU,aU,aU,aU,aU,agC,agC,⟨.cpx,(.sc (.cpx .f64)),1,16,[(.complex Go.FloatKind.f64 0 0)]⟩,aU,⟨.slice 267,(.sc .slc),1,24,[(xr eH 0 0)]⟩,⟨.array 64 4,(.arr .bool),64,64,qh 64 (.bool .false)⟩,⟨.flt,(.sc (.flt .f64)),1,8,[(.float Go.FloatKind.f64 0)]⟩,aU,agD,agD,aU,aU,aU,aU,aU,aU,aU,aU,ti1,ti6,aU,aU,aU,aU,aU,aU,ti4,⟨.ptr 5,(.sc .ptr),1,8,[(xt eH)]⟩,aU,⟨.slice 289,(.sc .slc),1,24,[(xr eH 0 0)]⟩,agE,agE,⟨.ptr 295,(.sc .ptr),1,8,[(xt eH)]⟩,⟨.slice 357,(.sc .slc),1,24,[(xr eH 0 0)]⟩,agF,agF,agG,agG,⟨.slice 4,(.sc .slc),1,24,[(xr eH 0 0)]⟩,⟨.other,(.sc .any),1,0,[(.tuple #[(xr eH 0 0),(xr eH 0 0),(xr eH 0 0),(xq xx 0)])]⟩,aU,aU,⟨.other,(.sc .any),1,0,[(.tuple #[(xr eH 0 0),(xr eH 0 0)])]⟩,aU,aU,aU,⟨.ptr 369,(.sc .ptr),1,8,[(xt eH)]⟩,aU,aU,aU,aU,aU,aU,aU,aU,aU,aU,aU,aU,aU,aU,aU,⟨.slice 322,(.sc .slc),1,24,[(xr eH 0 0)]⟩,agH,agH,⟨.other,(.sc .any),1,0,[(.tuple #[(.agg #[(xq xx 0),(xq xx 0),(xq xx 0),(xr eH 0 0),(xr eH 0 0)]),(.bool .false)])]⟩,aU,⟨.mp,(.sc .mp),1,8,[(.map eH)]⟩,Zu,aU,aU,aU,aU,⟨.ptr 334,(.sc .ptr),1,8,[(xt eH)]⟩,aU,agI,agI,aU,aU,aU,aU,aU,aU,aU,ti4,aU,aU,aU,⟨.ptr 3,(.sc .ptr),1,8,[(xt eH)]⟩,aU,aU,⟨.ptr 351,(.sc .ptr),1,8,[(xt eH)]⟩,agJ,agJ,aU,⟨.other,(.sc .any),1,0,[(.tuple #[(.agg #[(xr eH 0 0),(xr eH 0 0),(xr eH 0 0)]),(.bool .false)])]⟩,aU,aU,agK,agK,aU,aU,aU,aU,agL,agL,⟨.other,(.sc .any),1,0,[(.tuple #[(.agg (qh 256 (.bool .false)).toArray),(.bool .false)])]⟩,aU,aU,⟨.ptr 363,(.sc .ptr),1,8,[(xt eH)]⟩,agM,agM,aU,aU,aU,aU,aU,aU,aU,aU,aU,aU,aU,aU,aU,aU,aU,aU,aU,aU,aU,aU,aU,aU,aU,⟨.ptr 342,(.sc .ptr),1,8,[(xt eH)]⟩,ti6,aU,aU,⟨.ptr 399,(.sc .ptr),1,8,[(xt eH)]⟩,agN,agN,aU,⟨.other,(.sc .any),1,0,[(.tuple #[(.agg #[(xq xx 0),(xq xx 0)]),(.bool .false)])]⟩,aU,aU,⟨.other,(.sc .any),1,0,[(.tuple #[(.int .i32 0),(xq xx 0)])]⟩,aU,aU,aU,⟨.ptr 410,(.sc .ptr),1,8,[(xt eH)]⟩,agO,agO,aU,aU,aU,aU,aU,aU,aU,aU,aU,⟨.array 256 5,(.arr (.int .u8)),256,256,qh 256 (xq xy 0)⟩,agP,agP,⟨.array 16 422,(.arr (.int .u8)),32,32,qh 32 (xq xy 0)⟩,aU,agQ,agQ,⟨.array 0 16,(.arr .ptr),0,0,[]⟩,agR,agR,ti2,ti2,aU,ti5,ti5,agS,agS,⟨.other,(.sc .any),1,8,[(xt eH)]⟩]
noncomputable def C:Ctx:={P:=xB,T:=tbl,tup:=[(0,[]),(41,[(.sc (.int .i64)),(.sc (.int .i64))]),(46,[(.sc .bool),(.sc (.int .i64))]),(51,[(.sc .ptr),(.sc (.int .i64))]),(66,[(.agg [(.int .i64),(.int .i64),(.int .i64)]),(.sc (.int .i64)),(.sc .slc)]),(79,[(.sc .slc),(.sc (.int .i64))]),(83,[(.sc (.int .i64)),(.sc .slc),(.sc .bool)]),(108,[(.sc .slc),(.sc .bool),(.sc (.int .i64))]),(112,[(.agg [(.int .i64),(.int .i64),(.int .i64),(.int .i64),(.int .i64),(.int .i64),.slc,.slc]),(.sc .bool)]),(125,[(.sc .slc),(.sc .bool)]),(137,[(.sc .slc),(.sc .bool)]),(154,[(.sc .slc),(.sc .bool)]),(170,[(.sc .ptr),(.sc (.int .i64))]),(177,[(.sc .slc),(.sc (.int .i64))]),(198,[(.sc (.int .i64)),(.sc .bool)]),(201,[(.sc .ptr),(.sc (.int .i64))]),(221,[(.sc .slc),(.sc (.int .i64))]),(225,[(.agg [(.int .i64),(.int .i64),(.int .i64),(.int .i64),(.int .i64),(.int .i64),(.int .u32),.slc]),(.sc .bool)]),(277,[(.sc (.int .i64)),(.sc (.int .i64))]),(297,[(.sc .slc),(.sc .slc),(.sc .slc),(.sc (.int .i64))]),(300,[(.sc .slc),(.sc .slc)]),(323,[(.agg [(.int .i64),(.int .i64),(.int .i64),.slc,.slc]),(.sc .bool)]),(326,[(.sc .slc),(.sc .bool)]),(353,[(.agg [.slc,.slc,.slc]),(.sc .bool)]),(364,[(.arr .bool),(.sc .bool)]),(394,[(.sc (.int .i64)),(.sc (.int .i64))]),(401,[(.agg [(.int .i64),(.int .i64)]),(.sc .bool)]),(404,[(.sc (.int .i32)),(.sc (.int .i64))])],fns:=[eS,eS]++qh 355 eR++qh 22 eS++[eR]}
theorem akc:(List.range C.T.length).map (kM.seen C.P)=C.T.map kM.told:=j3
theorem ahK:C.P.follows .mixedOrders=eR:=j3
theorem akd:(C.P.funcs.toList.map λf=>!(f.name== "runtime.NumGoroutine")&&f.body.isSome)=C.fns:=j3
theorem af:C.Ok:={tbl:=akc,mixed:=ahK,fns:=akd}
noncomputable def mh(q:Sl)(n:Sl)(u:Int)(c:Int):Prop:=
 ae xB 7 #[q,n,(xq xx 8)] jt h λf v=>
 Br (qT f)
 (R eS v)
 (ae xB 9 #[f] aI v λr F=>
 ae xB 14 #[u,(xq xx (if(4:Int)<(r.len:Int)then(4:Int)else(r.len:Int)))] bw F λw h3=>
 bg (σ:=Unit) (λ_ D=>
 bg (σ:=Bool×Int) (λe j=>
 bg (σ:=Int) (λg o=>
 ae xB 17 #[f] (.many [aZ,aZ]) o λb a=>
 Br (g==1)
 (Br (b.2==5) (Br (b.1==0) (ae xB 18 #[] bN a λp s=>
 R p s) (R eS a)) (R eS a))
 (Br (b.2==0) (Br (b.1==(qc xx (g-2))) (ae xB 18 #[] bN a λt m=>
 R t m) (R eS a)) (R eS a)))
 (λA=>
 Br e.1
 (A (qc xx (e.2+1)) j)
 (A e.2 j)))
 (λz=>
 aL (σ:=Bool×Int) (λd E h8=>
 bg (σ:=Unit) (λ_ H=>
 ae xB 16 #[f,d.2] (.many [iR,aZ]) H λi k=>
 Br (i.2 !=0)
 (R eS k)
 (E (i.1,qc xx (d.2+1)) k))
 (λJ=>
 Br (d.2<(r.len:Int)) (Br d.1
 (J () h8)
 (z (d.1,d.2) h8)) (z (d.1,d.2) h8))) (eR,(0:Int)) D))
 (λB=>
 ae xB 14 #[c,(xq xx 65)] bw h3 λG I=>
 ae xB 13 #[f,w,G] (.many [aZ,aZ]) I λK y=>
 Br (K.2==0)
 (ae xB 16 #[f,w] (.many [iR,aZ]) y λx l=>
 Br (!x.1) (R eS l) (Br (x.2 !=0)
 (R eS l)
 (B () l)))
 (B () y)))
theorem sq(c:Sl)(b:Sl)(d:Int)(a:Int)(e:@mh R h c b d a):ac xB 4 #[c,b,d,a] h R:=aw af func4 (al.tn (al.tn (al.tn (al.tn (al.tn (.two (.join [] [(8,9),(11,15),(33,55)] .n) (al.tn (al.tn (.two (.join [(15,iR),(16,aZ)] [(8,9),(15,19),(55,72)] (.inn (.loop [(15,iR),(16,aZ)] [(8,9),(15,19),(55,72)] (.two (.join [] [(55,61)] .n) .n)))) (.two (.join [(16,aZ)] [(16,17),(72,75)] .n) .n)))))))))) e
noncomputable def oF(K:Sl)(D:Sl)(g:Int):Prop:=
 ae xB 31 #[K] (.many [(.agg [(.int .i64),(.int .i64),(.int .i64)]),aZ,cy]) h λl h1=>
 aT xB (qL 26 eR (.tuple #[])) h1 λm h2=>
 ag xB (qf 26 m l.1) h2 λ_ h3=>
 aL (σ:=Int) (λn K1 u=>
 Br (n<(l.2.2.len:Int))
 (aQ l.2.2 n λa4=>
 be u (a4.add (n.toNat*1)) λx5=>
 aQ l.2.2 n λa6=>
 ag xB (qf 3 (a6.add (n.toNat*1)) (qc xx (60+x5))) u λ_ h5=>
 K1 (qc xx (n+1)) h5)
 (bg (σ:=aM×Int) (λd h8=>
 bg (σ:=Unit) (λ_ Z=>
 ∃r:bS,aq Z m 0 r/\
 ae xB 34 #[r,D,g,eS] aI Z λt U=>
 aL (σ:=Int) (λc i k=>
 Br (c<(t.len:Int))
 (aQ t c λG=>
 ∃q:Dw,aq k (G.add (c.toNat*9)) 0 q/\
 aT xB (qL 73 eR (.tuple #[])) k λb F=>
 ag xB (qf 73 b q) F λ_ a=>
 be a b λf=>
 Br (f==1)
 (AE a (b.add 1) λx=>
 bj a (b.add 2) λE=>
 ae xB 35 #[d.1,x,E] bw a λ_ T=>
 i (qc xx (c+1)) T)
 (Br (f==3)
 (AE a (b.add 1) λv=>
 ae xB 36 #[d.1,v] bw a λ_ B=>
 i (qc xx (c+1)) B)
 (Br (f==11)
 (be a (b.add 3) λO=>
 ae xB 23 #[d.1,O] jt a λo p=>
 be p (b.add 4) λH=>
 ae xB 43 #[o,H] aI p λI V=>
 ae xB 42 #[I] (.many [aZ,cy,iR]) V λL e=>
 Br L.2.2
 (be e (b.add 4) λQ=>
 be e (b.add 5) λA=>
 gv .u32 e (b.add 6) λw=>
 ae xB 44 #[o,Q,A,(xq xz w)] bN e λ_ N=>
 i (qc xx (c+1)) N)
 (i (qc xx (c+1)) e))
 (Br (f==6)
 (be a (b.add 3) λz=>
 be a (b.add 4) λy=>
 ae xB 37 #[d.1,z,(qc xx (y+40))] bw a λ_ J=>
 i (qc xx (c+1)) J)
 (Br (f==9)
 (ae xB 9 #[d.1] aI a λP j=>
 Br ((P.len:Int)>1)
 (be j (b.add 3) λS=>
 ae xB 45 #[d.1,S] bw j λ_ M=>
 i (qc xx (c+1)) M)
 (i (qc xx (c+1)) j))
 (i (qc xx (c+1)) a))))))
 (R d.1 k)) (0:Int) U)
 (λK3=>
 Br (d.2 !=0) (R (xt eH) h8) (Br (qT d.1)
 (R (xt eH) h8)
 (K3 () h8))))
 (λK2=>
 ∃s:bS,aq u m 0 s/\
 ae xB 33 #[] jt u λr8 W=>
 (az.ok [(m,s.1),(m.add 1,s.2.1),(m.add 2,s.2.2)] W)/\
 ae xB 32 #[s,l.2.1,r8,l.2.2] (.many [FX,aZ]) W λY X=>
 (az.ok [] X)/\
 K2 (Y.1,Y.2) X))) (0:Int) h3
theorem AF(c:Sl)(b:Sl)(a:Int)(d:@oF R h c b a):ac xB 7 #[c,b,a] h R:=aw af func7 (al.tn (al.tn (.two (al.tn (.inn (.loop [(27,aZ)] [(10,11),(27,39)] .n))) (.two (.join [(11,FX),(12,aZ)] [(11,13),(39,47)] .n) (.two (.join [] [(6,7),(47,53)] .n) (.two (al.tn (.inn (.loop [(58,aZ)] [(14,19),(58,122)] .n))) .n)))))) d
noncomputable def lA(c:aM):Prop:=
 aT xB (qL 29 eR (.tuple #[])) h λd e=>
 Br (qT c)
 (ag xB (qf 29 d (xw #[(xq xx 0),(xq xx 0),(xq xx 0),(xq xx 0),(xq xx 0),(xq xx 0),(xr eH 0 0),(xr eH 0 0)])) e λ_ f=>
 ∃b:cU,aq f d 0 b/\
 R b f)
 (∃a3,(c=dB a3)/\
 ∃g:cU,aq e a3 0 g/\
 ae xB 46 #[g] CN e λj h3=>
 ag xB (qf 29 d j) h3 λ_ i=>
 ∃a:cU,aq i d 0 a/\
 R a i)
theorem nz(a:aM)(b:@lA R h a):ac xB 8 #[a] h R:=aw af func8 .n b
noncomputable def ul(a:aM):Prop:=
 Br (qT a)
 (R (xr eH 0 0) h)
 (∃b,(a=dB b)/\
 bj h (b.add 6) λx2=>
 ae xB 47 #[(.func (.func 23) #[a] #[]),x2] aI h λd c=>
 R d c)
theorem EU(a:aM)(b:@ul R h a):ac xB 9 #[a] h R:=aw af func9 .n b
noncomputable def sC(d:aM)(a:Int)(b:Int):Prop:=
 ae xB 9 #[d] aI h λs z=>
 aL (σ:=Sl×Int) (λf B q=>
 Br (f.2<(s.len:Int))
 (aQ s f.2 λa3=>
 be q (a3.add (f.2.toNat*1)) λy=>
 aB xB (qq 22 1 #[(0,y)]) aI q λv5 h3=>
 ∃u,(d=dB u)/\
 ∃v:cU,aq h3 u 0 v/\
 ae xB 49 #[(.func (.func 23) #[d] #[]),v5,v,a,b] aI h3 λw E=>
 aL (σ:=Sl×Int) (λg A p=>
 Br (g.2<(w.len:Int))
 (aQ w g.2 λr=>
 ∃j:Int×Sl,aq p (r.add (g.2.toNat*2)) 0 j/\
 aT xB (qL 99 eR (.tuple #[])) p λi x=>
 ag xB (qf 99 i j) x λ_ t=>
 be t i λn=>
 aB xB (qq 22 1 #[(0,n)]) aI t λk h8=>
 aB xB (qt #[22,22] 22 #[g.1,k]) aI h8 λc D=>
 A ((⟨c.ptr,c.len,c.cap⟩:Sl),qc xx (g.2+1)) D)
 (aB xB (qq 37 1 #[(0,g.1)]) aI p λl m=>
 aB xB (qt #[37,37] 37 #[f.1,l]) aI m λe o=>
 B ((⟨e.ptr,e.len,e.cap⟩:Sl),qc xx (f.2+1)) o)) ((⟨eH,0,0⟩:Sl),(0:Int)) E)
 (R f.1 q)) ((⟨eH,0,0⟩:Sl),(0:Int)) z
theorem Dx(c:aM)(a:Int)(b:Int)(d:@sC R h c a b):ac xB 11 #[c,a,b] h R:=aw af func11 (al.tn (al.tn (.two (al.tn (.inn (.loop [(7,cy),(16,aZ)] [(7,8),(9,11),(12,13),(16,47)] (al.tn (al.tn (.two (.inn (al.tn (al.tn (.two (al.tn (.inn (.loop [(10,cy),(32,aZ)] [(10,11),(12,13),(32,42)] .n))) .n)))) .n)))))) .n))) d
noncomputable def FY(b:aM)(c:Int)(a:Int):Prop:=
 bg (σ:=Unit) (λ_ L=>
 ae xB 8 #[b] CN L λf h3=>
 ae xB 9 #[b] aI h3 λM S=>
 aT xB (qM 104 (xw #[b,f.1,f.2.1,f.2.2.1,f.2.2.2.1,f.2.2.2.2.1,f.2.2.2.2.2.1,f.2.2.2.2.2.2.1,f.2.2.2.2.2.2.2,M,c,a,(xq xx 0)])) S λa5 s=>
 bg (σ:=Unit) (λ_ h8=>
 ae xB 54 #[a5] bw h8 λu E=>
 Br (u !=0)
 (R (.tuple #[(xq xx 0),u]) E)
 (∃p:f7,(dB a5=dB p)/\
 bj E ((p.add 1).add 7) λm=>
 aL (σ:=Int) (λd T e=>
 Br (d<(m.len:Int))
 (aQ m d λA=>
 ∃t:iE,aq e (A.add (d.toNat*4)) 0 t/\
 aT xB (qL 94 eR (.tuple #[])) e λg B=>
 ag xB (qf 94 g t) B λ_ q=>
 bj q (g.add 3) λy=>
 aL (σ:=Int) (λi O j=>
 Br (i<(y.len:Int))
 (∃l:iE,aq j g 0 l/\
 ae xB 55 #[a5,l,i] bw j λo k=>
 Br (o !=0)
 (∃r:f7,(dB a5=dB r)/\
 be k (r.add 12) λD=>
 R (.tuple #[D,o]) k)
 (O (qc xx (i+1)) k))
 (T (qc xx (d+1)) j)) (0:Int) q)
 (∃n:f7,(dB a5=dB n)/\
 be e (n.add 12) λw=>
 R (.tuple #[w,(xq xx 0)]) e)) (0:Int) E))
 (λN=>
 bg (σ:=Bool) (λK x=>
 Br K
 (R (.tuple #[(xq xx 0),(xq xx 1)]) x)
 (∃a9:f7,(dB a5=dB a9)/\
 bj x (a9.add 9) λF=>
 ae xB 53 #[(xq xx (F.len:Int)),c] bw x λz G=>
 Br (z>4096)
 (R (.tuple #[(xq xx 0),(xq xx 13)]) G)
 (N () G)))
 (λv=>
 Br (c<0) (v eR s) (∃I:f7,(dB a5=dB I)/\
 bj s (I.add 9) λQ=>
 Br (c>=(Q.len:Int)) (v eR s) (Br (a<0) (v eR s) (v (decide (a>64)) s))))))
 (λP=>
 Br (qT b) (R (.tuple #[(xq xx 0),(xq xx 14)]) h) (ae xB 52 #[b] bN h λJ H=>
 Br J
 (R (.tuple #[(xq xx 0),(xq xx 14)]) H)
 (P () H)))
theorem MQ(c:aM)(b:Int)(a:Int)(d:@FY R h c b a):ac xB 13 #[c,b,a] h R:=aw af func13 (al.tn (.two (.join [] [(6,8),(14,20)] .n) (al.tn (.two (.join [] [(6,8),(29,58)] (.inn (.two (.join [(29,iR)] [(29,49)] .n) .n))) (al.tn (.two (al.tn (.inn (.loop [(69,aZ)] [(6,8),(11,14),(69,92)] (al.tn (al.tn (.two (.inn (al.tn (al.tn (.inn (.loop [(76,aZ)] [(6,8),(12,14),(76,91)] .n))))) .n)))))) .n)))))) d
noncomputable def og(b:Int)(a:Int):Prop:=
 (a≠0)/\
 bg (σ:=Int) (λd e=>
 R d e)
 (λc=>
 Br ((wk b a)<0)
 (c (qc xx ((wk b a)+a)) h)
 (c (wk b a) h))
theorem xM(a:Int)(b:Int)(c:@og R h a b):ac xB 14 #[a,b] h R:=aw af func14 (al.tn (al.tn (.two (.join [(0,aZ)] [(0,1),(8,13)] .n) .n))) c
noncomputable def FZ(e:aM)(d:Int):Prop:=
 ae xB 56 #[e] bN h λL F=>
 Br L
 (R (.tuple #[eS,(xq xx 14)]) F)
 (ae xB 9 #[e] aI F λG H=>
 bg (σ:=Unit) (λ_ P=>
 ae xB 8 #[e] CN P λO K=>
 aT xB (qL 29 eR (.tuple #[])) K λg M=>
 ag xB (qf 29 g O) M λ_ h8=>
 bj h8 (g.add 7) λE=>
 aL (σ:=Int) (λs V z=>
 Br (s<(E.len:Int))
 (aQ E s λx=>
 ∃r:iE,aq z (x.add (s.toNat*4)) 0 r/\
 aT xB (qL 94 eR (.tuple #[])) z λf B=>
 ag xB (qf 94 f r) B λ_ o=>
 bj o (f.add 3) λn=>
 aL (σ:=Int) (λb U c=>
 Br (b<(n.len:Int))
 (aQ n b λt=>
 be c (t.add (b.toNat*1)) λu=>
 bg (σ:=Bool×Int) (λp i=>
 Br p.1 (R (.tuple #[eS,(xq xx 0)]) i) (Br (p.2 !=0)
 (R (.tuple #[eS,(xq xx 0)]) i)
 (U (qc xx (b+1)) i)))
 (λS=>
 ∃a:bS,aq c (g.add 2) 0 a/\
 be c (f.add 1) λy=>
 be c (f.add 1) λj=>
 ae xB 48 #[y,b,u] (.one (.sc (.int .u32))) c λA m=>
 (az.ok [(f.add 1,j),(g.add 2,a.1),((g.add 2).add 1,a.2.1),((g.add 2).add 2,a.2.2)] m)/\
 ae xB 11 #[e,j,b] aI m λv q=>
 (az.ok [(g.add 2,a.1),((g.add 2).add 1,a.2.1),((g.add 2).add 2,a.2.2)] q)/\
 ae xB 57 #[a,(xq xz A),v,d] (.many [cy,iR,aZ]) q λl k=>
 (az.ok [] k)/\
 S (l.2.1,l.2.2) k))
 (V (qc xx (s+1)) c)) (0:Int) o)
 (ae xB 58 #[e,d] bN z λw D=>
 R (.tuple #[w,(xq xx 0)]) D)) (0:Int) h8)
 (λT=>
 bg (σ:=Bool) (λN h3=>
 Br N
 (R (.tuple #[eS,(xq xx 1)]) h3)
 (ae xB 53 #[(xq xx (G.len:Int)),d] bw h3 λQ J=>
 Br (Q>4096)
 (R (.tuple #[eS,(xq xx 13)]) J)
 (T () J)))
 (λI=>
 Br (d<0) (I eR H) (I (decide (d>=(G.len:Int))) H))))
theorem MR(b:aM)(a:Int)(c:@FZ R h b a):ac xB 16 #[b,a] h R:=aw af func16 (al.tn (al.tn (al.tn (.two (.join [] [(4,6),(20,33)] (.inn (.two (.join [(20,iR)] [(20,28)] .n) .n))) (al.tn (.two (al.tn (.inn (.loop [(38,aZ)] [(4,6),(9,15),(38,75)] (al.tn (al.tn (.two (.inn (al.tn (al.tn (.inn (.loop [(45,aZ)] [(4,6),(10,15),(45,74)] (al.tn (al.tn (.two (.inn (al.tn (.two (.join [(13,iR),(14,aZ)] [(12,15),(50,68)] .n) .n))) .n)))))))) .n)))))) .n)))))) c
noncomputable def Ce(a:aM):Prop:=
 ae xB 56 #[a] bN h λj f=>
 Br j
 (R (.tuple #[(xq xx 0),(xq xx 14)]) f)
 (bg (σ:=Int) (λc e=>
 Br (c==0)
 (R (.tuple #[(xq xx 0),(xq xx 5)]) e)
 (R (.tuple #[(qc xx (c-1)),(xq xx 0)]) e))
 (λd=>
 aL (σ:=Int) (λb k i=>
 ae xB 16 #[a,b] (.many [iR,aZ]) i λg h3=>
 Br (!g.1) (d b h3) (Br (g.2 !=0)
 (d b h3)
 (k (qc xx (b+1)) h3))) (0:Int) f))
theorem Kc(a:aM)(b:@Ce R h a):ac xB 17 #[a] h R:=aw af func17 (al.tn (al.tn (al.tn (.two (.join [(4,aZ)] [(4,7),(9,23)] (.inn (.loop [(4,aZ)] [(4,7),(9,23)] .n))) .n)))) b
noncomputable def oh:Prop:=
 ae xB 33 #[] jt h λi j=>
 aB xB (qq 22 1 #[(0,(xq xx 5))]) aI j λg f=>
 ae xB 32 #[(xw #[(xq xx 1),(xq xx 1),(xq xx 1)]),(xq xx 0),i,g] (.many [FX,aZ]) f λb h3=>
 ae xB 16 #[b.1,(xq xx 0)] (.many [iR,aZ]) h3 λc a=>
 Br (b.2==0) (Br (c.2==0) (Br c.1 (ae xB 59 #[b.1] aI a λd e=>
 R (xv ((d.len:Int)==0)) e) (R eS a)) (R eS a)) (R eS a)
theorem xN(a:@oh R h):ac xB 18 #[] h R:=aw af func18 .n a
noncomputable def sD(a:aM):Prop:=
 Br (qT a)
 (R (xt eH) h)
 (∃b,(a=dB b)/\
 jU h (b.add 8) λx2=>
 R x2 h)
theorem Dy(a:aM)(b:@sD R h a):ac xB 19 #[a] h R:=aw af func19 .n b
noncomputable def sE(b:aM)(a:Int):Prop:=
 bg (σ:=Unit) (λ_ d=>
 ∃c,(b=dB c)/\
 (0<=a/\a<((64:Nat):Int))/\
 jU d ((c.add 10).add (a.toNat*1)) λx3=>
 R x3 d)
 (λe=>
 Br (qT b) (R (xt eH) h) (Br (a<0) (R (xt eH) h) (Br (a>=64)
 (R (xt eH) h)
 (e () h))))
theorem Dz(b:aM)(a:Int)(c:@sE R h b a):ac xB 23 #[b,a] h R:=aw af func23 (al.tn (.two (.join [] [(4,15)] .n) .n)) c
noncomputable def uX(a:aM):Prop:=
 Br (qT a)
 (R (xr eH 0 0) h)
 (∃b,(a=dB b)/\
 bj h (b.add 2) λx2=>
 ae xB 67 #[x2] aI h λd c=>
 R d c)
theorem GK(a:aM)(b:@uX R h a):ac xB 24 #[a] h R:=aw af func24 .n b
noncomputable def AG(a:aM):Prop:=
 Br (!(qT a)) (∃b,(a=dB b)/\
 sB h b λx2=>
 R (xv (!x2)) h) (R eS h)
theorem HV(a:aM)(b:@AG R h a):ac xB 26 #[a] h R:=aw af func26 .n b
noncomputable def Kr(c:aM)(b:cU):Prop:=
 aT xB (qM 29 b) h λa d=>
 ∃x2:cU,aq d a 0 x2/\
 ∃x3:cU,aq d a 0 x3/\
 ae xB 68 #[x2] aI d λg e=>
 (az.ok [(a,x3.1),(a.add 1,x3.2.1),(a.add 2,x3.2.2.1),(a.add 3,x3.2.2.2.1),(a.add 4,x3.2.2.2.2.1),(a.add 5,x3.2.2.2.2.2.1),(a.add 6,x3.2.2.2.2.2.2.1),(a.add 7,x3.2.2.2.2.2.2.2)] e)/\
 ae xB 69 #[c,x3] aI e λj h3=>
 (az.ok [] h3)/\
 aB xB (qt #[56,56] 56 #[g,j]) aI h3 λi f=>
 (az.ok [] f)/\
 R i f
theorem RQ(b:aM)(a:cU)(c:@Kr R h b a):ac xB 30 #[b,a] h R:=aw af func30 .n c
noncomputable def ol(b:Sl):Prop:=
 aT xB (qL 26 eR (.tuple #[])) h λu x=>
 ae xB 71 #[b,(xq xx 0)] bw x λA D=>
 ae xB 71 #[b,(xq xx 1)] bw D λy h3=>
 ae xB 71 #[b,(xq xx 2)] bw h3 λE H=>
 ae xB 70 #[A,y,E] (.one (.agg [(.int .i64),(.int .i64),(.int .i64)])) H λJ B=>
 aT xB (qL 26 eR (.tuple #[])) B λd v=>
 ag xB (qf 26 d J) v λ_ w=>
 aL (σ:=Sl×Int) (λk F h8=>
 ae xB 71 #[b,(xq xx 4)] bw h8 λI G=>
 ae xB 14 #[I,(xq xx 4)] bw G λz e=>
 Br (k.2<(qc xx (2+z)))
 (ae xB 71 #[b,(qc xx (5+k.2))] bw e λn r=>
 ae xB 14 #[n,(xq xx 50)] bw r λo m=>
 aB xB (qq 22 1 #[(0,(qc xx (8+o)))]) aI m λl p=>
 aB xB (qt #[22,22] 22 #[k.1,l]) aI p λf s=>
 F ((⟨f.ptr,f.len,f.cap⟩:Sl),qc xx (k.2+1)) s)
 (∃a:bS,aq e d 0 a/\
 ae xB 71 #[b,(xq xx 3)] bw e λt j=>
 (az.ok [(d,a.1),(d.add 1,a.2.1),(d.add 2,a.2.2)] j)/\
 ae xB 14 #[t,(xq xx 7)] bw j λq i=>
 (az.ok [(d,a.1),(d.add 1,a.2.1),(d.add 2,a.2.2)] i)/\
 ag xB (qf 26 u a) i λ_ g=>
 (az.ok [] g)/\
 ∃c:bS,aq g u 0 c/\
 R (.tuple #[c,q,k.1]) g)) ((⟨eH,0,0⟩:Sl),(0:Int)) w
theorem xO(a:Sl)(b:@ol R h a):ac xB 31 #[a] h R:=aw af func31 (al.tn (al.tn (al.tn (al.tn (.two (al.tn (.inn (.loop [(7,cy),(8,aZ)] [(7,9),(16,35)] .n))) .n))))) b
noncomputable def DA(E:bS)(a:Int)(c:aM)(b:Sl):Prop:=
 aT xB (qM 26 E) h λk O=>
 ae xB 72 #[b] (.many [cy,iR]) O λm G=>
 bg (σ:=Unit) (λ_ M=>
 bg (σ:=aM) (λd N=>
 aL (σ:=Int) (λj V h8=>
 Br (j<(m.1.len:Int))
 (aQ m.1 j λI=>
 be h8 (I.add (j.toNat*1)) λl=>
 aQ b l λx=>
 be h8 (x.add (l.toNat*1)) λo=>
 ∃s,(d=dB s)/\
 ∃v:cU,aq h8 s 0 v/\
 ae xB 68 #[v] aI h8 λD H=>
 (az.ok [(x.add (l.toNat*1),o)] H)/\
 Br (o<(D.len:Int))
 (R (.tuple #[(xt eH),(xq xx 7)]) H)
 (V (qc xx (j+1)) H))
 (aL (σ:=Int) (λi U e=>
 Br (i<(m.1.len:Int))
 (aQ m.1 i λF=>
 be e (F.add (i.toNat*1)) λf=>
 aQ b f λa22=>
 be e (a22.add (f.toNat*1)) λA=>
 ∃r,(d=dB r)/\
 ae xB 75 #[A,c] jt e λy t=>
 (az.ok [] t)/\
 (0<=f/\f<((64:Nat):Int))/\
 ag xB (qf 57 ((r.add 10).add (f.toNat*1)) y) t λ_ q=>
 (az.ok [] q)/\
 U (qc xx (i+1)) q)
 (∃p,(d=dB p)/\
 ∃n:cU,aq e p 0 n/\
 ae xB 77 #[n,m.1] aI e λB z=>
 ae xB 76 #[(.func (.func 23) #[d] #[]),B] bw z λu w=>
 Br (u !=0)
 (R (.tuple #[(xt eH),u]) w)
 (R (.tuple #[d,(xq xx 0)]) w))) (0:Int) h8)) (0:Int) N)
 (λS=>
 ∃g:bS,aq M k 0 g/\
 ae xB 74 #[c] bw M λP K=>
 (az.ok [(k,g.1),(k.add 1,g.2.1),(k.add 2,g.2.2)] K)/\
 ∃L:eX,(aP xB (vW 91 #[(0,(xw #[(xq xx 1),(xq xx 0),g.1,g.2.1,g.2.2,a,m.1,(xr eH 0 0)])),(1,c),(2,P)]) L)/\
 aT xB (qM 91 L) K λa9 J=>
 (az.ok [(k,g.1),(k.add 1,g.2.1),(k.add 2,g.2.2)] J)/\
 S (dB a9) J))
 (λT=>
 Br (!m.2) (R (.tuple #[(xt eH),(xq xx 1)]) G) (∃x3:bS,aq G k 0 x3/\
 ae xB 73 #[x3] bN G λQ h3=>
 Br (!Q) (R (.tuple #[(xt eH),(xq xx 1)]) h3) (Br (a<0) (R (.tuple #[(xt eH),(xq xx 1)]) h3) (Br (a>16) (R (.tuple #[(xt eH),(xq xx 1)]) h3) (Br (qT c)
 (R (.tuple #[(xt eH),(xq xx 1)]) h3)
 (T () h3))))))
theorem Lw(d:bS)(a:Int)(c:aM)(b:Sl)(e:@DA R h d a c b):ac xB 32 #[d,a,c,b] h R:=aw af func32 (al.tn (al.tn (.two (.join [] [(8,10),(23,42)] .n) (.two (.join [(12,FX)] [(12,13),(42,51)] .n) (.two (al.tn (.inn (.loop [(53,aZ)] [(8,10),(14,15),(53,69)] .n))) (.two (al.tn (.inn (.loop [(71,aZ)] [(16,17),(71,87)] .n))) .n)))))) e
noncomputable def Ks:Prop:=
 aT xB (qM 121 (xw #[eS,eS,(xq xx 0),(xq xx 0)])) h λa b=>
 R a b
theorem RR(a:@Ks R h):ac xB 33 #[] h R:=aw af func33 .n a
noncomputable def oG(B:bS)(b:Sl)(f:Int)(c:Bool):Prop:=
 aT xB (qM 26 B) h λO P=>
 bg (σ:=Sl) (λG v=>
 R G v)
 (λN=>
 aL (σ:=Sl×Int) (λa L D=>
 bg (σ:=Unit) (λ_ h3=>
 bg (σ:=Sl) (λu n=>
 ∃m:bS,aq n O 0 m/\
 aQ b a.2 λd=>
 be n (d.add (a.2.toNat*1)) λe=>
 ((5:Int)≠0)/\
 aQ b (qc xx (a.2+1)) λz=>
 be n (z.add ((qc xx (a.2+1)).toNat*1)) λr=>
 aQ b (qc xx (a.2+2)) λA=>
 be n (A.add ((qc xx (a.2+2)).toNat*1)) λE=>
 ae xB 79 #[m,(qc xx (wA e 5)),r,E] (.one (.agg [(.int .i64),.str,.slc,(.int .i64),(.int .i64),(.int .i64),(.int .u32),.slc,.slc])) n λs o=>
 (az.ok [(d.add (a.2.toNat*1),e)] o)/\
 aB xB (qq 69 1 #[(0,s)]) aI o λw k=>
 (az.ok [(d.add (a.2.toNat*1),e)] k)/\
 aB xB (qt #[69,69] 69 #[u,w]) aI k λi j=>
 (az.ok [(d.add (a.2.toNat*1),e)] j)/\
 L ((⟨i.ptr,i.len,i.cap⟩:Sl),qc xx (a.2+3)) j)
 (λW=>
 bg (σ:=Bool) (λQ l=>
 Br Q
 (aQ b a.2 λp=>
 be l (p.add (a.2.toNat*1)) λq=>
 ((5:Int)≠0)/\
 aQ b (qc xx (a.2+1)) λF=>
 be l (F.add ((qc xx (a.2+1)).toNat*1)) λI=>
 aQ b (qc xx (a.2+2)) λH=>
 be l (H.add ((qc xx (a.2+2)).toNat*1)) λx=>
 ae xB 78 #[(qc xx (wA q 5)),I,x] (.one (.agg [(.int .i64),.str,.slc,(.int .i64),(.int .i64),(.int .i64),(.int .u32),.slc,.slc])) l λy J=>
 (az.ok [(p.add (a.2.toNat*1),q)] J)/\
 aB xB (qq 69 1 #[(0,y)]) aI J λt K=>
 (az.ok [(p.add (a.2.toNat*1),q)] K)/\
 aB xB (qt #[69,69] 69 #[a.1,t]) aI K λg h8=>
 (az.ok [(p.add (a.2.toNat*1),q)] h8)/\
 L ((⟨g.ptr,g.len,g.cap⟩:Sl),qc xx (a.2+3)) h8)
 (W (⟨a.1.ptr,a.1.len,a.1.cap⟩:Sl) l))
 (λM=>
 Br c (aQ b a.2 λa4=>
 be h3 (a4.add (a.2.toNat*1)) λU=>
 ae xB 14 #[U,(xq xx 5)] bw h3 λS V=>
 M (S==4) V) (M eS h3))))
 (λT=>
 Br ((qc xx (a.2+2))<(b.len:Int)) (Br ((a.1.len:Int)<f)
 (T () D)
 (N (⟨a.1.ptr,a.1.len,a.1.cap⟩:Sl) D)) (N (⟨a.1.ptr,a.1.len,a.1.cap⟩:Sl) D))) ((⟨eH,0,0⟩:Sl),(0:Int)) P)
theorem AH(c:bS)(d:Sl)(b:Int)(a:Bool)(e:@oG R h c d b a):ac xB 34 #[c,d,b,a] h R:=aw af func34 (al.tn (al.tn (.two (.join [(9,cy)] [(9,72)] (al.tn (.inn (.loop [(9,cy),(10,aZ)] [(9,72)] (.two (.join [] [(11,22)] .n) (.two (.inn (.two (.join [(9,cy)] [(9,10),(24,52)] (.two (.join [(32,iR)] [(24,33)] .n) .n)) .n)) .n)))))) .n))) e
noncomputable def uY(a:aM)(e:ByteArray)(k:Sl):Prop:=
 ae xB 80 #[a,e,k] bw h λr1 Z=>
 Br (r1 !=0)
 (R r1 Z)
 (∃a2,(a=dB a2)/\
 be Z (a2.add 1) λx3=>
 aT xB (qL 94 eR (.tuple #[])) Z λa4 h2=>
 ag xB (qf 94 a4 (xw #[e,x3,(xq xx (k.len:Int)),(xr eH 0 0)])) h2 λ_ h3=>
 bg (σ:=Sl×Bool) (λu h6=>
 Br (!u.2)
 (R (xq xx 8) h6)
 (ag xB (qf 22 (a4.add 3) u.1) h6 λ_ h7=>
 ∃G:iE,aq h7 a4 0 G/\
 ae xB 83 #[a,G,k] (.many [cy,iR]) h7 λH h8=>
 aT xB (qL 131 eR (.tuple #[])) h8 λi h9=>
 ag xB (qf 131 i H.1) h9 λ_ g=>
 Br (!H.2)
 (R (xq xx 8) g)
 (bg (σ:=f7×Sl) (λf K=>
 ∃v:cU,aq K f.1 0 v/\
 ae xB 68 #[v] aI K λab W=>
 aT xB (qL 3 eR (.tuple #[])) W λp Y=>
 ag xB (qf 3 p (xq xx (ab.len:Int))) Y λ_ Q=>
 ae xB 86 #[a,f.2,(.func (.func 85) #[] #[p,i])] bN Q λV y=>
 Br (!V)
 (R (xq xx 7) y)
 (ae xB 87 #[a,f.2,(.func (.func 85) #[] #[p,i])] bw y λs n=>
 Br (s !=0)
 (R s n)
 (bj n i λT=>
 ae xB 76 #[(.func (.func 23) #[a] #[]),T] bw n λN q=>
 Br (N !=0)
 (R N q)
 (∃B:cU,aq q f.1 0 B/\
 ae xB 88 #[a,B,f.2] bw q λad U=>
 R ad U))))
 (λK2=>
 ∃c,(a=dB c)/\
 ∃b:cU,aq g c 0 b/\
 ∃d:iE,aq g a4 0 d/\
 (ae xB 84 #[b,d] CN g λD m=>
 (az.ok [] m)/\
 (ae xB 9 #[a] aI m λr x=>
 (az.ok [] x)/\
 aT xB (qL 29 eR (.tuple #[])) x λJ F=>
 (az.ok [] F)/\
 ag xB (qf 29 J D) F λ_ O=>
 (az.ok [] O)/\
 K2 (J,(⟨r.ptr,r.len,r.cap⟩:Sl)) O)/\(aT xB (qL 29 eR (.tuple #[])) m λa22 w=>
 (az.ok [] w)/\
 ae xB 9 #[a] aI w λl t=>
 (az.ok [] t)/\
 ag xB (qf 29 a22 D) t λ_ P=>
 (az.ok [] P)/\
 K2 (a22,(⟨l.ptr,l.len,l.cap⟩:Sl)) P))/\(aT xB (qL 29 eR (.tuple #[])) g λz E=>
 (az.ok [(a4,d.1),(a4.add 1,d.2.1),(a4.add 2,d.2.2.1),(a4.add 3,d.2.2.2),(c,b.1),(c.add 1,b.2.1),(c.add 2,b.2.2.1),(c.add 3,b.2.2.2.1),(c.add 4,b.2.2.2.2.1),(c.add 5,b.2.2.2.2.2.1),(c.add 6,b.2.2.2.2.2.2.1),(c.add 7,b.2.2.2.2.2.2.2)] E)/\
 ae xB 84 #[b,d] CN E λS L=>
 (az.ok [] L)/\
 ae xB 9 #[a] aI L λo I=>
 (az.ok [] I)/\
 ag xB (qf 29 z S) I λ_ A=>
 (az.ok [] A)/\
 K2 (z,(⟨o.ptr,o.len,o.cap⟩:Sl)) A)))))
 (λK1=>
 ∃a5,(a=dB a5)/\
 ∃M:bS,aq h3 (a5.add 2) 0 M/\
 be h3 (a4.add 1) λx7=>
 ∃a8,(a=dB a8)/\
 ∃x9:bS,aq h3 (a8.add 2) 0 x9/\
 ae xB 82 #[x9,(xq xx (k.len:Int))] bw h3 λX h4=>
 (az.ok [(a4.add 1,x7),(a5.add 2,M.1),((a5.add 2).add 1,M.2.1),((a5.add 2).add 2,M.2.2)] h4)/\
 ae xB 81 #[M,x7,X] (.many [cy,iR]) h4 λj h5=>
 (az.ok [] h5)/\
 K1 ((⟨j.1.ptr,j.1.len,j.1.cap⟩:Sl),j.2) h5))
theorem GL(c:aM)(a:ByteArray)(b:Sl)(d:@uY R h c a b):ac xB 35 #[c,a,b] h R:=aw af func35 (al.tn (al.tn (al.tn (.two (.join [(9,cy),(10,iR)] [(9,11),(34,53)] .n) (al.tn (al.tn (al.tn (al.tn (.two (.join [(12,(.sc .adr)),(13,cy)] [(12,14),(66,74)] .n) .n))))))))) d
noncomputable def rE(a:aM)(b:ByteArray):Prop:=
 ae xB 89 #[a] bN h λp l=>
 Br p
 (R (xq xx 14) l)
 (ae xB 90 #[a,b] bw l λg d=>
 Br (g<0)
 (R (xq xx 5) d)
 (∃a3,(a=dB a3)/\
 be d a3 λo=>
 Br (o>=2147483647)
 (R (xq xx 7) d)
 (∃a5,(a=dB a5)/\
 ∃m:cU,aq d a5 0 m/\
 ae xB 46 #[m] CN d λr h3=>
 aT xB (qL 29 eR (.tuple #[])) h3 λc t=>
 ag xB (qf 29 c r) t λ_ n=>
 be n c λu=>
 ag xB (qf 3 c (qc xx (u+1))) n λ_ k=>
 bj k (c.add 7) λj=>
 ae xB 91 #[j,g,(qc xx (g+1))] aI k λf q=>
 ag xB (qf 27 (c.add 7) f) q λ_ h8=>
 ∃e:cU,aq h8 c 0 e/\
 ae xB 92 #[a,e] bw h8 λi s=>
 R i s)))
theorem CO(b:aM)(a:ByteArray)(c:@rE R h b a):ac xB 36 #[b,a] h R:=aw af func36 .n c
noncomputable def Kt(c:aM)(a:Int)(b:Int):Prop:=
 ae xB 93 #[c] bN h λy v=>
 Br y
 (R (xq xx 14) v)
 (ae xB 8 #[c] CN v λB E=>
 aT xB (qL 29 eR (.tuple #[])) E λa3 h3=>
 ag xB (qf 29 a3 B) h3 λ_ H=>
 ae xB 94 #[a,b] bN H λF r=>
 Br (!F)
 (R (xq xx 1) r)
 (bj r (a3.add 6) λJ=>
 ae xB 50 #[J,a] bN r λD k=>
 Br D
 (R (xq xx 4) k)
 (be k a3 λG=>
 Br (G>=2147483647)
 (R (xq xx 7) k)
 (ae xB 19 #[c] jt k λI z=>
 ae xB 75 #[b,I] jt z λA h8=>
 ae xB 95 #[c,a,A] iF h8 λ_ x=>
 be x a3 λu=>
 ag xB (qf 3 a3 (qc xx (u+1))) x λ_ e=>
 bj e (a3.add 6) λq=>
 aB xB (qq 22 1 #[(0,a)]) aI e λs p=>
 aB xB (qt #[22,22] 22 #[q,s]) aI p λm o=>
 ag xB (qf 22 (a3.add 6) m) o λ_ f=>
 bj f (a3.add 6) λl=>
 ae xB 96 #[l] iF f λ_ j=>
 ∃g:cU,aq j a3 0 g/\
 ae xB 92 #[c,g] bw j λi d=>
 bg (σ:=Unit) (λ_ t=>
 R i t)
 (λw=>
 Br (i==7)
 (ae xB 95 #[c,a,(xt eH)] iF d λ_ n=>
 w () n)
 (w () d))))))
theorem RS(c:aM)(b:Int)(a:Int)(d:@Kt R h c b a):ac xB 37 #[c,b,a] h R:=aw af func37 (al.tn (al.tn (al.tn (al.tn (al.tn (al.tn (al.tn (al.tn (al.tn (.two (.join [] [(50,55)] .n) .n)))))))))) d
noncomputable def um(c:aM):Prop:=
 ae xB 89 #[c] bN h λm e=>
 Br m
 (R (xr eH 0 0) e)
 (∃g,(c=dB g)/\
 bj e (g.add 7) λx3=>
 aL (σ:=Sl×Int) (λb r f=>
 Br (b.2<(x3.len:Int))
 (aQ x3 b.2 λa5=>
 ∃j:iE,aq f (a5.add (b.2.toNat*4)) 0 j/\
 aT xB (qL 94 eR (.tuple #[])) f λi h3=>
 ag xB (qf 94 i j) h3 λ_ k=>
 AE k i λo=>
 ae xB 97 #[o] (.one Ua) k λp q=>
 aB xB (qq 77 1 #[(0,p)]) aI q λd l=>
 aB xB (qt #[77,77] 77 #[b.1,d]) aI l λa n=>
 r ((⟨a.ptr,a.len,a.cap⟩:Sl),qc xx (b.2+1)) n)
 (R b.1 f)) ((⟨eH,0,0⟩:Sl),(0:Int)) e)
theorem EV(a:aM)(b:@um R h a):ac xB 38 #[a] h R:=aw af func38 (al.tn (al.tn (al.tn (.two (al.tn (.inn (.loop [(3,cy),(14,aZ)] [(3,4),(5,6),(14,25)] .n))) .n)))) b
end Go.Qw
namespace Go.Qw
open Go Go.Vc Go.Proofs
variable {R:Hb} {h:Heap}
noncomputable def Ku(a:Sl):Prop:=
 Br ((a.len:Int) !=64)
 (R (.tuple #[(xq xx 0),(xr eH 0 0),eS]) h)
 (aQ a (3:Int) λb=>
 gv .u8 h (b.add ((3:Int).toNat*1)) λx2=>
 (0<=(4:Int)/\(4:Int)<=(59:Int)/\(59:Int)<=(a.cap:Int))/\
 ae xB 101 #[(.slice (if a.cap=(4:Int).toNat then a.ptr else a.ptr.map (·.add ((4:Int).toNat*1))) ((59:Int).toNat-(4:Int).toNat) (a.cap-(4:Int).toNat))] aI h λd c=>
 (az.ok [(b.add ((3:Int).toNat*1),(xq xy x2))] c)/\
 ae xB 102 #[(qc xx x2),d] aI c λg f=>
 ae xB 64 #[a,g] bN f λe h3=>
 Br (!e)
 (R (.tuple #[(xq xx 0),(xr eH 0 0),eS]) h3)
 (R (.tuple #[(qc xx x2),d,eR]) h3))
theorem RT(a:Sl)(b:@Ku R h a):ac xB 42 #[a] h R:=aw af func42 .n b
noncomputable def nA(b:aM)(a:Int):Prop:=
 bg (σ:=Unit) (λ_ c=>
 ∃a4,(b=dB a4)/\
 bj c (a4.add 2) λk=>
 aQ k a λf=>
 bj c (f.add (a.toNat*1)) λi=>
 ae xB 101 #[i] aI c λj e=>
 R j e)
 (λg=>
 Br (qT b) (R (xr eH 0 0) h) (Br (a<0) (R (xr eH 0 0) h) (∃d,(b=dB d)/\
 bj h (d.add 2) λx2=>
 Br (a>=(x2.len:Int))
 (R (xr eH 0 0) h)
 (g () h))))
theorem rF(b:aM)(a:Int)(c:@nA R h b a):ac xB 43 #[b,a] h R:=aw af func43 (al.tn (.two (.join [] [(4,20)] .n) .n)) c
noncomputable def sF(e:aM)(c:Int)(a:Int)(b:Int):Prop:=
 bg (σ:=Unit) (λ_ l=>
 aL (σ:=Int) (λd o f=>
 Br (d<4)
 (∃a5,(e=dB a5)/\
 bj f (a5.add 2) λn=>
 aQ n c λm=>
 bj f (m.add (c.toNat*1)) λk=>
 aQ k (qc xx (a+d)) λa9=>
 gv .u8 f (a9.add ((qc xx (a+d)).toNat*1)) λi=>
 (0<=(qc xx (8*d)))/\
 aQ k (qc xx (a+d)) λg=>
 ag xB (qf 5 (g.add ((qc xx (a+d)).toNat*1)) (xq xy (qc xy ((qD (qk xy) i^^^(qD (qk xy) (qc xy (qX b (2^min (qc xx (8*d)).toNat (qk xz)))))).toNat:Nat)))) f λ_ h3=>
 (az.ok [] h3)/\
 o (qc xx (d+1)) h3)
 (R eR f)) (0:Int) l)
 (λp=>
 Br (qT e) (R eS h) (Br (c<0) (R eS h) (∃j,(e=dB j)/\
 bj h (j.add 2) λx2=>
 Br (c>=(x2.len:Int)) (R eS h) (Br (a<0) (R eS h) (Br (a>60) (R eS h) (Br (b==0)
 (R eS h)
 (p () h)))))))
theorem DB(d:aM)(c:Int)(b:Int)(a:Int)(e:@sF R h d c b a):ac xB 44 #[d,c,b,(xq xz a)] h R:=aw af func44 (al.tn (.two (.join [] [(8,9),(10,37)] .n) (.two (al.tn (.inn (.loop [(37,aZ)] [(9,10),(37,60)] .n))) .n))) e
noncomputable def AI(b:aM)(a:Int):Prop:=
 ae xB 93 #[b] bN h λg c=>
 Br g
 (R (xq xx 14) c)
 (ae xB 9 #[b] aI c λi e=>
 ae xB 50 #[i,a] bN e λk h3=>
 Br (!k)
 (R (xq xx 5) h3)
 (ae xB 23 #[b,a] jt h3 λf j=>
 ae xB 103 #[f] iF j λ_ d=>
 R (xq xx 0) d))
theorem DC(b:aM)(a:Int)(c:@AI R h b a):ac xB 45 #[b,a] h R:=aw af func45 .n c
noncomputable def MS(j:cU):Prop:=
 aT xB (qM 29 j) h λa y=>
 aT xB (qL 29 eR (.tuple #[])) y λs n=>
 bg (σ:=Unit) (λ_ r=>
 bj r (a.add 7) λx=>
 aL (σ:=Int) (λc A h8=>
 Br (c<(x.len:Int))
 (bj h8 (a.add 7) λg=>
 bj h8 (a.add 7) λi=>
 aQ i c λo=>
 bj h8 ((o.add (c.toNat*4)).add 3) λl=>
 ae xB 104 #[l] aI h8 λm u=>
 (az.ok [(a.add 7,i),(a.add 7,g)] u)/\
 aQ g c λk=>
 ag xB (qf 22 ((k.add (c.toNat*4)).add 3) m) u λ_ f=>
 (az.ok [] f)/\
 A (qc xx (c+1)) f)
 (∃d:cU,aq h8 a 0 d/\
 ag xB (qf 29 s d) h8 λ_ e=>
 ∃b:cU,aq e s 0 b/\
 R b e)) (0:Int) r)
 (λB=>
 bj n (a.add 6) λx3=>
 bj n (a.add 7) λq=>
 ae xB 104 #[x3] aI n λw h3=>
 (az.ok [(a.add 7,q)] h3)/\
 ae xB 105 #[q] aI h3 λz v=>
 (az.ok [] v)/\
 ag xB (qf 22 (a.add 6) w) v λ_ t=>
 (az.ok [] t)/\
 ag xB (qf 27 (a.add 7) z) t λ_ p=>
 (az.ok [] p)/\
 B () p)
theorem Ub(a:cU)(b:@MS R h a):ac xB 46 #[a] h R:=aw af func46 (al.tn (.two (.join [] [(4,12)] .n) (.two (al.tn (.inn (.loop [(15,aZ)] [(3,4),(15,31)] .n))) .n))) b
noncomputable def MT(c:cE)(a:Sl):Prop:=
 aL (σ:=Sl×Int) (λb e f=>
 Br (b.2<(a.len:Int))
 (aQ a b.2 λm=>
 be f (m.add (b.2.toNat*1)) λx3=>
 gY C c.1 (c.2.1.toList++[(xq xx x3)]++c.2.2.toList) jt f λi g=>
 Br (!(qT i)) (ae xB 61 #[i] bN g λn h3=>
 Br (!n)
 (aB xB (qq 22 1 #[(0,x3)]) aI h3 λk l=>
 aB xB (qt #[22,22] 22 #[b.1,k]) aI l λd j=>
 e ((⟨d.ptr,d.len,d.cap⟩:Sl),qc xx (b.2+1)) j)
 (e ((⟨b.1.ptr,b.1.len,b.1.cap⟩:Sl),qc xx (b.2+1)) h3)) (e ((⟨b.1.ptr,b.1.len,b.1.cap⟩:Sl),qc xx (b.2+1)) g))
 (R b.1 f)) ((⟨eH,0,0⟩:Sl),(0:Int)) h
theorem Uc(b:cE)(a:Sl)(c:@MT R h b a):ac xB 47 #[(.func (.func b.1) b.2.1 b.2.2),a] h R:=aw af func47 (al.tn (al.tn (.two (al.tn (.inn (.loop [(5,cy),(11,aZ)] [(5,6),(7,9),(11,30)] .n))) .n))) c
noncomputable def Kv(b:Int)(c:Int)(a:Int):Prop:=
 R (xq xz (qc xz ((qc xz ((qc xz (128*(qc xz b)))+(qc xz (16*(qc xz c)))))+(qc xz a)))) h
theorem RU(b:Int)(c:Int)(a:Int)(d:@Kv R h b c a):ac xB 48 #[b,c,a] h R:=aw af func48 .n d
noncomputable def Ga(d:cE)(a:Sl)(t:cU)(c:Int)(e:Int):Prop:=
 aT xB (qM 29 t) h λi D=>
 aL (σ:=Sl×Int) (λj H n=>
 Br (j.2<(a.len:Int))
 (aQ a j.2 λa3=>
 be n (a3.add (j.2.toNat*1)) λA=>
 bg (σ:=Sl×Int×Int) (λq F=>
 aL (σ:=Sl×Int) (λb y o=>
 Br (b.2<q.2.1)
 (aQ q.1 b.2 λv=>
 ∃l:fe,aq o (v.add (b.2.toNat*8)) 0 l/\
 aT xB (qL 164 eR (.tuple #[])) o λf B=>
 ag xB (qf 164 f l) B λ_ h8=>
 be h8 f λr=>
 Br (r==c) (be h8 (f.add 1) λu=>
 Br (u==e)
 (be h8 (f.add 2) λp=>
 bj h8 (f.add 7) λs=>
 aB xB (qq 96 1 #[(0,(xw #[p,s]))]) aI h8 λw I=>
 aB xB (qt #[96,96] 96 #[b.1,w]) aI I λk x=>
 y ((⟨k.ptr,k.len,k.cap⟩:Sl),qc xx (b.2+1)) x)
 (y ((⟨b.1.ptr,b.1.len,b.1.cap⟩:Sl),qc xx (b.2+1)) h8)) (y ((⟨b.1.ptr,b.1.len,b.1.cap⟩:Sl),qc xx (b.2+1)) h8))
 (H ((⟨b.1.ptr,b.1.len,b.1.cap⟩:Sl),qc xx (j.2+1)) o)) ((⟨j.1.ptr,j.1.len,j.1.cap⟩:Sl),q.2.2) F)
 (λG=>
 ∃g:cU,aq n i 0 g/\
 gY C d.1 (d.2.1.toList++[(xq xx A)]++d.2.2.toList) jt n λE h3=>
 (az.ok [(i,g.1),(i.add 1,g.2.1),(i.add 2,g.2.2.1),(i.add 3,g.2.2.2.1),(i.add 4,g.2.2.2.2.1),(i.add 5,g.2.2.2.2.2.1),(i.add 6,g.2.2.2.2.2.2.1),(i.add 7,g.2.2.2.2.2.2.2)] h3)/\
 ae xB 106 #[E,g] aI h3 λm z=>
 (az.ok [] z)/\
 G ((⟨m.ptr,m.len,m.cap⟩:Sl),(m.len:Int),(0:Int)) z))
 (R j.1 n)) ((⟨eH,0,0⟩:Sl),(0:Int)) D
theorem MU(d:cE)(c:Sl)(e:cU)(a:Int)(b:Int)(f:@Ga R h d c e a b):ac xB 49 #[(.func (.func d.1) d.2.1 d.2.2),c,e,a,b] h R:=aw af func49 (al.tn (al.tn (.two (al.tn (.inn (.loop [(11,cy),(18,aZ)] [(11,12),(13,14),(15,16),(18,52)] (al.tn (al.tn (.two (.inn (al.tn (.two (.join [(26,cy),(27,aZ),(28,aZ)] [(22,29)] .n) (.inn (.loop [(11,cy),(28,aZ)] [(11,12),(15,16),(28,51)] .n))))) .n)))))) .n))) f
noncomputable def jJ(b:Sl)(a:Int):Prop:=
 ae xB 107 #[b,a] bw h λc d=>
 R (decide (c>=0)) d
theorem mi(b:Sl)(a:Int)(c:@jJ R h b a):ac xB 50 #[b,a] h R:=aw af func50 .n c
noncomputable def Gb(d:bS)(a:Int)(b:Sl):Prop:=
 aT xB (qM 26 d) h λc g=>
 ∃x2:bS,aq g c 0 x2/\
 ae xB 109 #[] jt g λk e=>
 (az.ok [(c,x2.1),(c.add 1,x2.2.1),(c.add 2,x2.2.2)] e)/\
 ae xB 110 #[x2,(xq xz a),b] aI e λj h3=>
 (az.ok [] h3)/\
 ae xB 108 #[k,j] bw h3 λi f=>
 (az.ok [] f)/\
 R i f
theorem MV(c:bS)(a:Int)(b:Sl)(d:@Gb R h c a b):ac xB 51 #[c,(xq xz a),b] h R:=aw af func51 .n d
noncomputable def un(a:aM):Prop:=
 Br (!(qT a)) (∃d,(a=dB d)/\
 jU h (d.add 8) λx2=>
 ae xB 26 #[x2] bN h λi b=>
 (az.ok [] b)/\
 Br (!i) ((az.ok [] b)/\
 R eR b) (∃a4,(a=dB a4)/\
 jU b (a4.add 8) λj=>
 ∃c,(a=dB c)/\
 be b (c.add 9) λf=>
 ae xB 74 #[j] bw b λg e=>
 (az.ok [(c.add 9,f)] e)/\
 R (xv (g !=f)) e)) ((az.ok [] h)/\
 (az.ok [] h)/\
 R eS h)
theorem EW(a:aM)(b:@un R h a):ac xB 52 #[a] h R:=aw af func52 .n b
noncomputable def HW(a:Int)(b:Int):Prop:=
 ae xB 111 #[a,b] bN h λf e=>
 Br (!f)
 (R (xq xx 0) e)
 (aL (σ:=Int×Int) (λc g d=>
 Br (decide (c.2<(if(qc xx (a-b))<b then qc xx (a-b)else b)))
 (((qc xx (c.2+1))≠0)/\
 Br (decide ((qc xx (wA (qc xx (c.1*(qc xx (a-c.2)))) (qc xx (c.2+1))))>4096))
 (R (xq xx 4097) d)
 (g (qc xx (wA (qc xx (c.1*(qc xx (a-c.2)))) (qc xx (c.2+1))),qc xx (c.2+1)) d))
 (R c.1 d)) ((1:Int),(0:Int)) e)
theorem Pr(a:Int)(b:Int)(c:@HW R h a b):ac xB 53 #[a,b] h R:=aw af func53 (al.tn (al.tn (al.tn (.two (al.tn (.inn (.loop [(5,aZ),(16,aZ)] [(4,7),(16,30)] .n))) .n)))) c
noncomputable def oH(a:aM):Prop:=
 ∃l,(a=dB l)/\
 bj h (l.add 9) λx2=>
 aL (σ:=Int) (λd p f=>
 Br (d<(x2.len:Int))
 (aQ x2 d λa4=>
 be f (a4.add (d.toNat*1)) λr=>
 ∃o,(a=dB o)/\
 jU f o λq=>
 ae xB 23 #[q,r] jt f λj n=>
 ∃a9,(a=dB a9)/\
 ∃e:cU,aq n (a9.add 1) 0 e/\
 ae xB 30 #[j,e] aI n λb h3=>
 ae xB 24 #[j] aI h3 λg s=>
 ae xB 63 #[g,b,(.func (.func 64) #[] #[])] bN s λi m=>
 Br i
 (p (qc xx (d+1)) m)
 (ae xB 65 #[j,b] bw m λc k=>
 Br (c !=0)
 (R c k)
 (p (qc xx (d+1)) k)))
 (R (xq xx 0) f)) (0:Int) h
theorem AJ(a:aM)(b:@oH R h a):ac xB 54 #[a] h R:=aw af func54 (al.tn (.two (al.tn (.inn (.loop [(13,aZ)] [(2,3),(4,8),(13,40)] .n))) .n)) b
noncomputable def oI(a:aM)(d:iE)(e:Int):Prop:=
 aT xB (qM 94 d) h λm l=>
 ∃x2:iE,aq l m 0 x2/\
 ae xB 112 #[a,x2,e] (.many [FX,aZ]) l λb i=>
 Br (b.2 !=0)
 (R b.2 i)
 (ae xB 113 #[a,b.1] bw i λc h3=>
 Br (c==14)
 (R c h3)
 (∃a5,(a=dB a5)/\
 jU h3 a5 λg=>
 ∃j,(b.1=dB j)/\
 bj h3 (j.add 5) λn=>
 ae xB 114 #[(.func (.func 23) #[g] #[]),n] bw h3 λk f=>
 (az.ok [(a5,g)] f)/\
 Br (k !=0)
 (R k f)
 (R c f)))
theorem AK(a:aM)(b:iE)(c:Int)(d:@oI R h a b c):ac xB 55 #[a,b,c] h R:=aw af func55 .n d
noncomputable def Kw(a:aM):Prop:=
 Br (qT a) (R eR h) (ae xB 52 #[a] bN h λb c=>
 R b c)
theorem RV(a:aM)(b:@Kw R h a):ac xB 56 #[a] h R:=aw af func56 .n b
noncomputable def Gc(r:bS)(c:Int)(a:Sl)(m:Int):Prop:=
 aT xB (qM 26 r) h λk v=>
 ∃x2:bS,aq v k 0 x2/\
 ae xB 73 #[x2] bN v λD y=>
 Br (!D)
 (R (.tuple #[(xr eH 0 0),eS,(xq xx 1)]) y)
 (ae xB 115 #[(xq xx (a.len:Int)),m] (.many [cy,aZ]) y λl h3=>
 Br (l.2 !=0)
 (R (.tuple #[(xr eH 0 0),eS,l.2]) h3)
 (∃z:bS,aq h3 k 0 z/\
 ae xB 116 #[z] bw h3 λw J=>
 ae xB 109 #[] jt J λE F=>
 ae xB 117 #[E,w] jt F λA u=>
 ∃x:bS,aq u k 0 x/\
 ae xB 118 #[x] aI u λj B=>
 aL (σ:=Int) (λd H h8=>
 Br (d<(j.len:Int))
 (aQ j d λt=>
 bj h8 (t.add (d.toNat*1)) λo=>
 ae xB 119 #[A,o] bN h8 λ_ I=>
 H (qc xx (d+1)) I)
 (∃f:bS,aq h8 k 0 f/\
 ae xB 120 #[f,(xq xz c),a] aI h8 λp n=>
 aL (σ:=Int) (λb G e=>
 Br (b<(l.1.len:Int))
 (aQ l.1 b λq=>
 bj e (q.add (b.toNat*1)) λg=>
 ae xB 121 #[A,p,g,w] bN e λs i=>
 Br (!s)
 (R (.tuple #[g,eR,(xq xx 0)]) i)
 (G (qc xx (b+1)) i))
 (R (.tuple #[(xr eH 0 0),eS,(xq xx 0)]) e)) (0:Int) n)) (0:Int) B))
theorem MW(d:bS)(b:Int)(a:Sl)(c:Int)(e:@Gc R h d b a c):ac xB 57 #[d,(xq xz b),a,c] h R:=aw af func57 (al.tn (al.tn (al.tn (al.tn (al.tn (al.tn (.two (al.tn (.inn (.loop [(40,aZ)] [(15,16),(40,48)] .n))) (al.tn (.two (al.tn (.inn (.loop [(54,aZ)] [(8,11),(18,19),(54,66)] .n))) .n))))))))) e
noncomputable def HX(d:aM)(g:Int):Prop:=
 ae xB 8 #[d] CN h λl n=>
 aT xB (qL 29 eR (.tuple #[])) n λa p=>
 ag xB (qf 29 a l) p λ_ h3=>
 ae xB 9 #[d] aI h3 λj q=>
 aL (σ:=Int×Int) (λc k e=>
 Br (c.2<(j.len:Int))
 (aQ j c.2 λa5=>
 be e (a5.add (c.2.toNat*1)) λo=>
 ∃b:cU,aq e a 0 b/\
 ae xB 23 #[d,o] jt e λr i=>
 (az.ok [(a,b.1),(a.add 1,b.2.1),(a.add 2,b.2.2.1),(a.add 3,b.2.2.2.1),(a.add 4,b.2.2.2.2.1),(a.add 5,b.2.2.2.2.2.1),(a.add 6,b.2.2.2.2.2.2.1),(a.add 7,b.2.2.2.2.2.2.2)] i)/\
 ae xB 122 #[r,b] bN i λm f=>
 (az.ok [] f)/\
 Br m
 (k (qc xx (c.1+1),qc xx (c.2+1)) f)
 (k (c.1,qc xx (c.2+1)) f))
 (R (decide (c.1>g)) e)) ((0:Int),(0:Int)) q
theorem Ps(b:aM)(a:Int)(c:@HX R h b a):ac xB 58 #[b,a] h R:=aw af func58 (al.tn (al.tn (al.tn (.two (al.tn (.inn (.loop [(6,aZ),(14,aZ)] [(6,7),(8,9),(14,26)] .n))) .n)))) c
noncomputable def Gd(c:aM):Prop:=
 aT xB (qM 23 c) h λa d=>
 jU d a λx2=>
 ae xB 56 #[x2] bN d λj b=>
 Br j
 (R (xr eH 0 0) b)
 (jU b a λf=>
 ae xB 38 #[f] aI b λe h3=>
 ae xB 123 #[e,(.func (.func 124) #[] #[a])] aI h3 λi g=>
 R i g)
theorem MX(a:aM)(b:@Gd R h a):ac xB 59 #[a] h R:=aw af func59 .n b
noncomputable def uo(a:aM):Prop:=
 Br (!(qT a)) (∃b,(a=dB b)/\
 sB h (b.add 6) λx2=>
 R x2 h) (R eS h)
theorem EX(a:aM)(b:@uo R h a):ac xB 61 #[a] h R:=aw af func61 .n b
noncomputable def hJ(b:Sl)(d:Sl)(a:cE):Prop:=
 Br ((b.len:Int) !=(d.len:Int))
 (R eS h)
 (aL (σ:=Int) (λc i e=>
 Br (c<(b.len:Int))
 (aQ b c λj=>
 bj e (j.add (c.toNat*1)) λx3=>
 aQ d c λa4=>
 bj e (a4.add (c.toNat*1)) λf=>
 gY C a.1 (a.2.1.toList++[(xr x3.ptr x3.len x3.cap),(xr f.ptr f.len f.cap)]++a.2.2.toList) bN e λk g=>
 Br (!k)
 (R eS g)
 (i (qc xx (c+1)) g))
 (R eR e)) (0:Int) h)
theorem lI(c:Sl)(b:Sl)(a:cE)(d:@hJ R h c b a):ac xB 63 #[c,b,(.func (.func a.1) a.2.1 a.2.2)] h R:=aw af func63 (al.tn (al.tn (.two (al.tn (.inn (.loop [(17,aZ)] [(6,10),(17,32)] .n))) .n))) d
noncomputable def Ge(a:Sl)(b:Sl):Prop:=
 aB xB (convert 71 9 a) (.one Ua) h λe f=>
 aB xB (convert 71 9 b) (.one Ua) f λd c=>
 R (xv (e.toList==d.toList)) c
theorem MY(a:Sl)(b:Sl)(c:@Ge R h a b):ac xB 64 #[a,b] h R:=aw af func64 .n c
noncomputable def pF(a:aM)(b:Sl):Prop:=
 aL (σ:=Int) (λk G c=>
 Br (k<(b.len:Int))
 (aQ b k λD=>
 bj c (D.add (k.toNat*1)) λx3=>
 Br ((x3.len:Int) !=64)
 (R (xq xx 1) c)
 (G (qc xx (k+1)) c))
 (bg (σ:=Unit) (λ_ y=>
 ∃d,(a=dB d)/\
 jU y d λr=>
 ae xB 127 #[r] bN y λs w=>
 Br (!s)
 (ae xB 67 #[b] aI w λp z=>
 ∃e,(a=dB e)/\
 ag xB (qf 56 (e.add 4) p) z λ_ A=>
 ∃j,(a=dB j)/\
 ag xB (qf 4 (j.add 5) eR) A λ_ h8=>
 R (xq xx 14) h8)
 (ae xB 67 #[b] aI w λo H=>
 ∃g,(a=dB g)/\
 ag xB (qf 56 (g.add 2) o) H λ_ t=>
 ∃f,(a=dB f)/\
 ag xB (qf 3 (f.add 3) (xq xx 0)) t λ_ q=>
 ae xB 128 #[a] bw q λl m=>
 R l m))
 (λE=>
 bg (σ:=Bool) (λF i=>
 Br F
 (R (xq xx 5) i)
 (∃v,(a=dB v)/\
 be i (v.add 1) λB=>
 Br ((b.len:Int)>B)
 (R (xq xx 7) i)
 (∃a9,(a=dB a9)/\
 jU i a9 λu=>
 ae xB 26 #[u] bN i λn h3=>
 Br (!n)
 (R (xq xx 14) h3)
 (E () h3))))
 (λx=>
 Br (qT a) (x eR c) (∃a4,(a=dB a4)/\
 sB c (a4.add 6) λI=>
 x I c))))) (0:Int) h
theorem Bt(b:aM)(a:Sl)(c:@pF R h b a):ac xB 65 #[b,a] h R:=aw af func65 (al.tn (.two (al.tn (.inn (.loop [(9,aZ)] [(4,5),(6,7),(9,17)] .n))) (.two (.join [] [(4,5),(17,41)] (.inn (.two (.join [(17,iR)] [(17,26)] .n) .n))) .n))) c
noncomputable def Kx(b:Sl):Prop:=
 aL (σ:=Sl×Int) (λa g d=>
 Br (a.2<(b.len:Int))
 (aQ b a.2 λj=>
 bj d (j.add (a.2.toNat*1)) λx3=>
 ae xB 101 #[x3] aI d λf e=>
 aB xB (qq 56 1 #[(0,f)]) aI e λv5 h3=>
 aB xB (qt #[56,56] 56 #[a.1,v5]) aI h3 λc i=>
 g ((⟨c.ptr,c.len,c.cap⟩:Sl),qc xx (a.2+1)) i)
 (R a.1 d)) ((⟨eH,0,0⟩:Sl),(0:Int)) h
theorem RW(a:Sl)(b:@Kx R h a):ac xB 67 #[a] h R:=aw af func67 (al.tn (al.tn (.two (al.tn (.inn (.loop [(3,cy),(8,aZ)] [(3,4),(5,6),(8,18)] .n))) .n))) b
noncomputable def HY(d:cU):Prop:=
 aT xB (qM 29 d) h λe j=>
 ∃x2:cU,aq j e 0 x2/\
 ae xB 130 #[x2] aI j λb k=>
 ((48:Int)≠0)/\
 aL (σ:=Sl×Int) (λa m h3=>
 Br (decide (a.2<(qc xx (wA (qc xx ((qc xx ((b.len:Int)+48))-1)) 48))))
 (be h3 e λn=>
 (0<=(qc xx (a.2*48))/\(qc xx (a.2*48))<=(if(qc xx ((qc xx (a.2+1))*48))<(b.len:Int)then qc xx ((qc xx (a.2+1))*48)else(b.len:Int))/\(if(qc xx ((qc xx (a.2+1))*48))<(b.len:Int)then qc xx ((qc xx (a.2+1))*48)else(b.len:Int))<=(b.cap:Int))/\
 ae xB 131 #[n,a.2,(qc xx (wA (qc xx ((qc xx ((b.len:Int)+48))-1)) 48)),(.slice (if b.cap=(qc xx (a.2*48)).toNat then b.ptr else b.ptr.map (·.add ((qc xx (a.2*48)).toNat*1))) ((if(qc xx ((qc xx (a.2+1))*48))<(b.len:Int)then qc xx ((qc xx (a.2+1))*48)else(b.len:Int)).toNat-(qc xx (a.2*48)).toNat) (b.cap-(qc xx (a.2*48)).toNat))] aI h3 λo i=>
 (az.ok [] i)/\
 aB xB (qq 56 1 #[(0,o)]) aI i λl f=>
 (az.ok [] f)/\
 aB xB (qt #[56,56] 56 #[a.1,l]) aI f λc g=>
 (az.ok [] g)/\
 m ((⟨c.ptr,c.len,c.cap⟩:Sl),qc xx (a.2+1)) g)
 (R a.1 h3)) ((⟨eH,0,0⟩:Sl),(0:Int)) k
theorem Pt(a:cU)(b:@HY R h a):ac xB 68 #[a] h R:=aw af func68 (al.tn (al.tn (al.tn (al.tn (.two (al.tn (.inn (.loop [(5,cy),(16,aZ)] [(5,8),(16,39)] .n))) .n))))) b
noncomputable def HZ(d:aM)(e:cU):Prop:=
 aT xB (qM 29 e) h λm g=>
 ∃x2:cU,aq g m 0 x2/\
 ae xB 106 #[d,x2] aI g λi q=>
 aL (σ:=Sl×Int) (λb r h3=>
 Br (b.2<(i.len:Int))
 (aQ i b.2 λa5=>
 ∃k:fe,aq h3 (a5.add (b.2.toNat*8)) 0 k/\
 aT xB (qL 164 eR (.tuple #[])) h3 λj s=>
 ag xB (qf 164 j k) s λ_ l=>
 ∃f:fe,aq l j 0 f/\
 ae xB 132 #[f] aI l λp n=>
 aB xB (qq 56 1 #[(0,p)]) aI n λc o=>
 aB xB (qt #[56,56] 56 #[b.1,c]) aI o λa h8=>
 r ((⟨a.ptr,a.len,a.cap⟩:Sl),qc xx (b.2+1)) h8)
 (R b.1 h3)) ((⟨eH,0,0⟩:Sl),(0:Int)) q
theorem Pu(b:aM)(a:cU)(c:@HZ R h b a):ac xB 69 #[b,a] h R:=aw af func69 (al.tn (al.tn (.two (al.tn (.inn (.loop [(5,cy),(12,aZ)] [(5,6),(7,8),(12,22)] .n))) .n))) c
noncomputable def oJ(b:Int)(c:Int)(d:Int):Prop:=
 aT xB (qL 26 eR (.tuple #[])) h λe l=>
 ae xB 14 #[b,(xq xx 6)] bw l λj g=>
 ae xB 14 #[c,(xq xx 3)] bw g λm h3=>
 ae xB 14 #[d,(xq xx 9)] bw h3 λi k=>
 ag xB (qf 26 e (xw #[(qc xx (1+j)),(qc xx (1+m)),(qc xx (1+i))])) k λ_ f=>
 ∃a:bS,aq f e 0 a/\
 R a f
theorem AL(a:Int)(c:Int)(b:Int)(d:@oJ R h a c b):ac xB 70 #[a,c,b] h R:=aw af func70 .n d
noncomputable def rG(b:Sl)(a:Int):Prop:=
 Br (a<(b.len:Int))
 (aQ b a λc=>
 be h (c.add (a.toNat*1)) λx2=>
 R x2 h)
 (R (xq xx 0) h)
theorem CP(b:Sl)(a:Int)(c:@rG R h b a):ac xB 71 #[b,a] h R:=aw af func71 .n c
noncomputable def DD(a:Sl):Prop:=
 aL (σ:=Sl×Int) (λb f c=>
 Br (b.2<(a.len:Int))
 (aQ a b.2 λj=>
 be c (j.add (b.2.toNat*1)) λx3=>
 bg (σ:=Unit) (λ_ e=>
 Br (x3>0)
 (aB xB (qq 22 1 #[(0,b.2)]) aI e λv5 h3=>
 aB xB (qt #[22,22] 22 #[b.1,v5]) aI h3 λd i=>
 f ((⟨d.ptr,d.len,d.cap⟩:Sl),qc xx (b.2+1)) i)
 (f ((⟨b.1.ptr,b.1.len,b.1.cap⟩:Sl),qc xx (b.2+1)) e))
 (λg=>
 Br (x3<0) (R (.tuple #[(xr eH 0 0),eS]) c) (Br (x3>512)
 (R (.tuple #[(xr eH 0 0),eS]) c)
 (g () c))))
 (Br ((a.len:Int)<=64) (R (.tuple #[b.1,(decide ((b.1.len:Int)>0))]) c) (R (.tuple #[b.1,eS]) c))) ((⟨eH,0,0⟩:Sl),(0:Int)) h
theorem Lx(a:Sl)(b:@DD R h a):ac xB 72 #[a] h R:=aw af func72 (al.tn (al.tn (.two (al.tn (.inn (.loop [(4,cy),(9,aZ)] [(2,7),(9,27)] (al.tn (al.tn (.two (.inn (al.tn (.two (.join [] [(2,4),(14,20)] .n) .n))) .n)))))) .n))) b
noncomputable def QN(c:bS):Prop:=
 aT xB (qM 26 c) h λb a=>
 be a b λx2=>
 Br (x2>=1) (be a b λx3=>
 Br (x3<=16) (be a (b.add 1) λe=>
 Br (e>=1) (be a (b.add 1) λg=>
 Br (g<=4) (be a (b.add 2) λd=>
 Br (d>=1) (be a (b.add 2) λf=>
 R (decide (f<=24)) a) (R eS a)) (R eS a)) (R eS a)) (R eS a)) (R eS a)
theorem Wy(a:bS)(b:@QN R h a):ac xB 73 #[a] h R:=aw af func73 .n b
noncomputable def uq(a:aM):Prop:=
 Br (qT a)
 (R (xq xx 0) h)
 (∃b,(a=dB b)/\
 be h (b.add 3) λx2=>
 R x2 h)
theorem EY(a:aM)(b:@uq R h a):ac xB 74 #[a] h R:=aw af func74 .n b
noncomputable def Ky(a:Int)(b:aM):Prop:=
 bg (σ:=Unit) (λ_ f=>
 aT xB (qM 119 (xw #[b,a,(xr eH 0 0),(xq xx 0),(xr eH 0 0),eS,eS])) f λe c=>
 R e c)
 (λd=>
 Br (a<1) (R (xt eH) h) (Br (a>512) (R (xt eH) h) (Br (qT b)
 (R (xt eH) h)
 (d () h))))
theorem RX(a:Int)(b:aM)(c:@Ky R h a b):ac xB 75 #[a,b] h R:=aw af func75 (al.tn (.two (.join [] [(4,15)] .n) .n)) c
noncomputable def QO(a:cE)(d:Sl):Prop:=
 aL (σ:=Sl×Int) (λc u i=>
 Br (c.2<(d.len:Int))
 (aQ d c.2 λq=>
 ∃x3:Int×Sl,aq i (q.add (c.2.toNat*2)) 0 x3/\
 aT xB (qL 141 eR (.tuple #[])) i λa4 s=>
 ag xB (qf 141 a4 x3) s λ_ h3=>
 bg (σ:=Unit) (λ_ l=>
 be l a4 λj=>
 aB xB (qq 22 1 #[(0,j)]) aI l λe h8=>
 aB xB (qt #[22,22] 22 #[c.1,e]) aI h8 λb v=>
 u ((⟨b.ptr,b.len,b.cap⟩:Sl),qc xx (c.2+1)) v)
 (λt=>
 bg (σ:=Int) (λo k=>
 Br (o !=0)
 (R o k)
 (t () k))
 (λy=>
 be h3 a4 λw=>
 bj h3 (a4.add 1) λm=>
 gY C a.1 (a.2.1.toList++[(xq xx w)]++a.2.2.toList) jt h3 λr p=>
 (az.ok [(a4.add 1,m)] p)/\
 ae xB 133 #[r,m] bw p λx n=>
 (az.ok [] n)/\
 y x n)))
 (ae xB 114 #[(.func (.func a.1) a.2.1 a.2.2),c.1] bw i λg f=>
 R g f)) ((⟨eH,0,0⟩:Sl),(0:Int)) h
theorem Wz(a:cE)(b:Sl)(c:@QO R h a b):ac xB 76 #[(.func (.func a.1) a.2.1 a.2.2),b] h R:=aw af func76 (al.tn (al.tn (.two (al.tn (.inn (.loop [(5,cy),(11,aZ)] [(4,6),(7,9),(11,31)] (al.tn (al.tn (.two (.inn (al.tn (.two (.join [] [(4,5),(8,9),(15,25)] (.two (.join [(8,aZ)] [(8,9),(15,22)] .n) .n)) .n))) .n)))))) .n))) c
noncomputable def Kz(e:cU)(a:Sl):Prop:=
 aT xB (qM 29 e) h λk i=>
 ∃x2:cU,aq i k 0 x2/\
 ae xB 68 #[x2] aI i λj p=>
 aL (σ:=Sl×Int) (λc r h3=>
 Br (c.2<(a.len:Int))
 (aQ a c.2 λa5=>
 be h3 (a5.add (c.2.toNat*1)) λn=>
 aL (σ:=Sl×Int) (λb q g=>
 Br (b.2<(j.len:Int))
 (aQ j b.2 λm=>
 bj g (m.add (b.2.toNat*1)) λs=>
 aB xB (qq 131 1 #[(0,(xw #[n,s]))]) aI g λf o=>
 aB xB (qt #[131,131] 131 #[b.1,f]) aI o λd l=>
 q ((⟨d.ptr,d.len,d.cap⟩:Sl),qc xx (b.2+1)) l)
 (r ((⟨b.1.ptr,b.1.len,b.1.cap⟩:Sl),qc xx (c.2+1)) g)) ((⟨c.1.ptr,c.1.len,c.1.cap⟩:Sl),(0:Int)) h3)
 (R c.1 h3)) ((⟨eH,0,0⟩:Sl),(0:Int)) p
theorem RY(b:cU)(a:Sl)(c:@Kz R h b a):ac xB 77 #[b,a] h R:=aw af func77 (al.tn (al.tn (al.tn (.two (al.tn (.inn (.loop [(6,cy),(15,aZ)] [(6,7),(8,9),(10,11),(15,33)] (al.tn (al.tn (.two (.inn (al.tn (al.tn (.inn (.loop [(6,cy),(21,aZ)] [(6,7),(10,11),(21,32)] .n))))) .n)))))) .n)))) c
noncomputable def pG(ar:bS)(M:Int)(a:Int)(c:Int):Prop:=
 aT xB (qM 26 ar) h λq h1=>
 aT xB (qL 73 eR (.tuple #[])) h1 λb h2=>
 ae xB 14 #[M,(xq xx 26)] bw h2 λj h3=>
 Br (j<8)
 (((5:Int)≠0)/\
 be h3 q λD=>
 be h3 (q.add 2) λE=>
 ae xB 134 #[a] (.one Ua) h3 λr6 h4=>
 (az.ok [(q.add 2,E),(q,D)] h4)/\
 ae xB 14 #[(qc xx (wA a 5)),(qc xx ((qc xx ((qc xx (3*D))*E))+2))] bw h4 λr7 h5=>
 (az.ok [(q.add 2,E),(q,D)] h5)/\
 ae xB 135 #[r7,c] aI h5 λr8 h6=>
 (az.ok [(q.add 2,E),(q,D)] h6)/\
 ag xB (qf 73 b (xw #[(xq xx 1),r6,r8,(xq xx 0),(xq xx 0),(xq xx 0),(xq xz 0),(xr eH 0 0),(xr eH 0 0)])) h6 λ_ K=>
 (az.ok [] K)/\
 ∃r:Dw,aq K b 0 r/\
 R r K)
 (Br (j<11)
 (ae xB 134 #[a] (.one Ua) h3 λT h8=>
 ag xB (qf 73 b (xw #[(xq xx 2),T,(xr eH 0 0),(xq xx 0),(xq xx 0),(xq xx 0),(xq xz 0),(xr eH 0 0),(xr eH 0 0)])) h8 λ_ h9=>
 ∃f:Dw,aq h9 b 0 f/\
 R f h9)
 (Br (j<13)
 (ae xB 134 #[a] (.one Ua) h3 λay Y=>
 ag xB (qf 73 b (xw #[(xq xx 3),ay,(xr eH 0 0),(xq xx 0),(xq xx 0),(xq xx 0),(xq xz 0),(xr eH 0 0),(xr eH 0 0)])) Y λ_ w=>
 ∃n:Dw,aq w b 0 n/\
 R n w)
 (Br (j==13)
 (ag xB (qf 73 b (xw #[(xq xx 4),rD,(xr eH 0 0),(xq xx 0),(xq xx 0),(xq xx 0),(xq xz 0),(xr eH 0 0),(xr eH 0 0)])) h3 λ_ u=>
 ∃e:Dw,aq u b 0 e/\
 R e u)
 (Br (j==14)
 (ae xB 134 #[a] (.one Ua) h3 λa6 ad=>
 ag xB (qf 73 b (xw #[(xq xx 5),a6,(xr eH 0 0),(xq xx 0),(xq xx 0),(xq xx 0),(xq xz 0),(xr eH 0 0),(xr eH 0 0)])) ad λ_ A=>
 ∃i:Dw,aq A b 0 i/\
 R i A)
 (Br (j==15)
 (ae xB 14 #[a,(xq xx 9)] bw h3 λF O=>
 ae xB 14 #[c,(xq xx 60)] bw O λap J=>
 ag xB (qf 73 b (xw #[(xq xx 6),rD,(xr eH 0 0),F,(qc xx (6+ap)),(xq xx 0),(xq xz 0),(xr eH 0 0),(xr eH 0 0)])) J λ_ B=>
 ∃k:Dw,aq B b 0 k/\
 R k B)
 (Br (j==16)
 (ae xB 14 #[a,(xq xx 8)] bw h3 λa5 Z=>
 ag xB (qf 73 b (xw #[(xq xx 7),rD,(xr eH 0 0),a5,(xq xx 0),(xq xx 0),(xq xz 0),(xr eH 0 0),(xr eH 0 0)])) Z λ_ z=>
 ∃g:Dw,aq z b 0 g/\
 R g z)
 (Br (j==17)
 (ae xB 14 #[a,(xq xx 8)] bw h3 λP am=>
 ae xB 14 #[c,(xq xx 60)] bw am λI U=>
 ag xB (qf 73 b (xw #[(xq xx 8),rD,(xr eH 0 0),P,(qc xx (6+I)),(xq xx 0),(xq xz 0),(xr eH 0 0),(xr eH 0 0)])) U λ_ y=>
 ∃o:Dw,aq y b 0 o/\
 R o y)
 (Br (j==18)
 (ae xB 14 #[a,(xq xx 8)] bw h3 λH V=>
 ag xB (qf 73 b (xw #[(xq xx 9),rD,(xr eH 0 0),H,(xq xx 0),(xq xx 0),(xq xz 0),(xr eH 0 0),(xr eH 0 0)])) V λ_ v=>
 ∃p:Dw,aq v b 0 p/\
 R p v)
 (Br (j<22)
 (ae xB 14 #[a,(xq xx 3)] bw h3 λah G=>
 ae xB 14 #[c,(xq xx 20)] bw G λao W=>
 ag xB (qf 73 b (xw #[(xq xx 10),rD,(xr eH 0 0),(xq xx 0),ah,ao,(xq xz 0),(xr eH 0 0),(xr eH 0 0)])) W λ_ x=>
 ∃d:Dw,aq x b 0 d/\
 R d x)
 (Br (j==22)
 (ae xB 14 #[a,(xq xx 9)] bw h3 λax a4=>
 ae xB 14 #[c,(xq xx 70)] bw a4 λS L=>
 ag xB (qf 73 b (xw #[(xq xx 10),rD,(xr eH 0 0),(xq xx 0),(qc xx (ax-1)),(qc xx (S-1)),(xq xz 0),(xr eH 0 0),(xr eH 0 0)])) L λ_ t=>
 ∃m:Dw,aq t b 0 m/\
 R m t)
 (ae xB 14 #[a,(xq xx 7)] bw h3 λQ N=>
 ((7:Int)≠0)/\
 ae xB 14 #[(qc xx (wA a 7)),(xq xx 40)] bw N λa3 a0=>
 ae xB 14 #[c,(xq xx 61)] bw a0 λab X=>
 ag xB (qf 73 b (xw #[(xq xx 11),rD,(xr eH 0 0),Q,a3,ab,(xq xz (qc xz ((qc xz ((qc xz c)*2654435761))+(qc xz a)))),(xr eH 0 0),(xr eH 0 0)])) X λ_ s=>
 ∃l:Dw,aq s b 0 l/\
 R l s)))))))))))
theorem Bu(d:bS)(c:Int)(b:Int)(a:Int)(e:@pG R h d c b a):ac xB 79 #[d,c,b,a] h R:=aw af func79 .n e
noncomputable def pH(a:aM)(b:ByteArray)(k:Sl):Prop:=
 ae xB 89 #[a] bN h λr m=>
 Br r
 (R (xq xx 14) m)
 (ae xB 136 #[b] bN m λt n=>
 Br (!t)
 (R (xq xx 3) n)
 (ae xB 90 #[a,b] bw n λs h3=>
 Br (s>=0)
 (R (xq xx 4) h3)
 (bg (σ:=Bool) (λf q=>
 Br f
 (R (xq xx 6) q)
 (ae xB 9 #[a] aI q λi c=>
 Br ((i.len:Int)==0) (R (xq xx 7) c) (∃d,(a=dB d)/\
 be c (d.add 1) λj=>
 Br (j>16777215) (R (xq xx 7) c) (∃e,(a=dB e)/\
 be c e λg=>
 Br (g>=2147483647)
 (R (xq xx 7) c)
 (R (xq xx 0) c)))))
 (λp=>
 ∃a4,(a=dB a4)/\
 be h3 (a4.add 2) λw=>
 ∃o,(a=dB o)/\
 be h3 ((o.add 2).add 2) λv=>
 Br (decide ((k.len:Int)>(qc xx ((qc xx (w*v))*8)))) (p eR h3) (∃l,(a=dB l)/\
 bj h3 (l.add 7) λu=>
 p (decide ((u.len:Int)>=12)) h3)))))
theorem Bv(c:aM)(a:ByteArray)(b:Sl)(d:@pH R h c a b):ac xB 80 #[c,a,b] h R:=aw af func80 (al.tn (.two (.inn (al.tn (al.tn (al.tn (al.tn (al.tn (al.tn (.two (.join [(19,iR)] [(19,46)] .n) .n)))))))) .n)) d
noncomputable def Gg(f:bS)(a:Int)(b:Int):Prop:=
 aT xB (qM 26 f) h λi m=>
 aL (σ:=Sl×Int) (λc k d=>
 Br (c.2<b)
 (∃x3:bS,aq d i 0 x3/\
 ae xB 137 #[x3,a,c.2] (.many [aZ,iR]) d λg h3=>
 Br (!g.2)
 (R (.tuple #[(xr eH 0 0),eS]) h3)
 (aB xB (qq 22 1 #[(0,g.1)]) aI h3 λv5 l=>
 aB xB (qt #[22,22] 22 #[c.1,v5]) aI l λe j=>
 k ((⟨e.ptr,e.len,e.cap⟩:Sl),qc xx (c.2+1)) j))
 (R (.tuple #[c.1,eR]) d)) ((⟨eH,0,0⟩:Sl),(0:Int)) m
theorem MZ(c:bS)(a:Int)(b:Int)(d:@Gg R h c a b):ac xB 81 #[c,a,b] h R:=aw af func81 (al.tn (al.tn (.two (al.tn (.inn (.loop [(8,cy),(13,aZ)] [(6,12),(13,30)] .n))) .n))) d
noncomputable def Gh(c:bS)(a:Int):Prop:=
 aT xB (qM 26 c) h λd g=>
 bg (σ:=Unit) (λ_ h3=>
 ∃e:bS,aq h3 d 0 e/\
 ae xB 138 #[e] bw h3 λf j=>
 (f≠0)/\
 R (qc xx ((qc xx (wA (qc xx (a-1)) f))+1)) j)
 (λi=>
 ∃x2:bS,aq g d 0 x2/\
 ae xB 73 #[x2] bN g λk b=>
 Br (!k) (R (xq xx 0) b) (Br (a<=0)
 (R (xq xx 0) b)
 (i () b)))
theorem Na(b:bS)(a:Int)(c:@Gh R h b a):ac xB 82 #[b,a] h R:=aw af func82 (al.tn (.two (.join [] [(4,12)] .n) .n)) c
noncomputable def pI(f:aM)(I:iE)(O:Sl):Prop:=
 aT xB (qM 94 I) h λi h1=>
 ae xB 9 #[f] aI h1 λr2 W=>
 ∃a3,(f=dB a3)/\
 ∃V:bS,aq W (a3.add 2) 0 V/\
 ae xB 139 #[V,O] aI W λZ h3=>
 aL (σ:=Sl×Int) (λe K1 m=>
 Br (e.2<(Z.len:Int))
 (aQ Z e.2 λa7=>
 bj m (a7.add (e.2.toNat*1)) λx8=>
 be m (i.add 1) λx9=>
 bj m (i.add 3) λD=>
 aQ D e.2 λE=>
 be m (E.add (e.2.toNat*1)) λS=>
 ae xB 48 #[x9,e.2,S] (.one (.sc (.int .u32))) m λl T=>
 (az.ok [(i.add 3,D)] T)/\
 ∃q,(f=dB q)/\
 ∃n:bS,aq T (q.add 2) 0 n/\
 ae xB 140 #[n,(xq xz l),x8] (.many [FX,aZ]) T λj F=>
 Br (j.2 !=0)
 (R (.tuple #[(xr eH 0 0),eS]) F)
 (be F (i.add 1) λN=>
 ae xB 141 #[N,e.2,r2] aI F λP H=>
 ∃o,(f=dB o)/\
 be H (o.add 2) λJ=>
 ∃v,(f=dB v)/\
 be H (v.add 5) λG=>
 aL (σ:=Sl×Int) (λb K2 h8=>
 Br (b.2<(qc xx (J+G)))
 (bg (σ:=f7) (λd r=>
 ∃c:fe,aq r d 0 c/\
 ae xB 143 #[P,b.2] bw r λK p=>
 (az.ok [(d,c.1),(d.add 1,c.2.1),(d.add 2,c.2.2.1),(d.add 3,c.2.2.2.1),(d.add 4,c.2.2.2.2.1),(d.add 5,c.2.2.2.2.2.1),(d.add 6,(xq xz c.2.2.2.2.2.2.1)),(d.add 7,c.2.2.2.2.2.2.2)] p)/\
 ae xB 132 #[c] aI p λU y=>
 (az.ok [] y)/\
 aB xB (qq 131 1 #[(0,(xw #[K,U]))]) aI y λL t=>
 (az.ok [] t)/\
 aB xB (qt #[131,131] 131 #[b.1,L]) aI t λk x=>
 (az.ok [] x)/\
 K2 ((⟨k.ptr,k.len,k.cap⟩:Sl),qc xx (b.2+1)) x)
 (λX=>
 be h8 (i.add 1) λg=>
 ∃a25,(f=dB a25)/\
 ∃a:bS,aq h8 (a25.add 2) 0 a/\
 (ae xB 142 #[j.1,b.2] aI h8 λM Y=>
 (az.ok [(a25.add 2,a.1),((a25.add 2).add 1,a.2.1),((a25.add 2).add 2,a.2.2),(i.add 1,g)] Y)/\
 aT xB (qL 164 eR (.tuple #[])) Y λa28 B=>
 (az.ok [(a25.add 2,a.1),((a25.add 2).add 1,a.2.1),((a25.add 2).add 2,a.2.2),(i.add 1,g)] B)/\
 ag xB (qf 164 a28 (xw #[g,e.2,b.2,a.1,a.2.1,a.2.2,(xq xz l),M])) B λ_ w=>
 (az.ok [] w)/\
 X a28 w)/\(aT xB (qL 164 eR (.tuple #[])) h8 λz s=>
 (az.ok [(a25.add 2,a.1),((a25.add 2).add 1,a.2.1),((a25.add 2).add 2,a.2.2),(i.add 1,g)] s)/\
 ae xB 142 #[j.1,b.2] aI s λQ u=>
 (az.ok [(a25.add 2,a.1),((a25.add 2).add 1,a.2.1),((a25.add 2).add 2,a.2.2),(i.add 1,g)] u)/\
 ag xB (qf 164 z (xw #[g,e.2,b.2,a.1,a.2.1,a.2.2,(xq xz l),Q])) u λ_ A=>
 (az.ok [] A)/\
 X z A)))
 (K1 ((⟨b.1.ptr,b.1.len,b.1.cap⟩:Sl),qc xx (e.2+1)) h8)) ((⟨e.1.ptr,e.1.len,e.1.cap⟩:Sl),(0:Int)) H))
 (R (.tuple #[e.1,eR]) m)) ((⟨eH,0,0⟩:Sl),(0:Int)) h3
theorem Bw(b:aM)(c:iE)(a:Sl)(d:@pI R h b c a):ac xB 83 #[b,c,a] h R:=aw af func83 (al.tn (al.tn (al.tn (.two (al.tn (.inn (.loop [(9,cy),(28,aZ)] [(6,8),(9,18),(28,100)] (al.tn (al.tn (.two (.inn (al.tn (al.tn (al.tn (al.tn (al.tn (al.tn (.inn (.loop [(9,cy),(72,aZ)] [(9,10),(16,18),(72,99)] (al.tn (al.tn (.two (.inn (al.tn (.two (.join [(17,(.sc .adr))] [(17,18),(75,89)] .n) .n))) .n)))))))))))) .n)))))) .n)))) d
noncomputable def Ia(j:cU)(k:iE):Prop:=
 aT xB (qM 29 j) h λr u=>
 aT xB (qM 94 k) u λt w=>
 aT xB (qL 29 eR (.tuple #[])) w λa3 h3=>
 ∃p:cU,aq h3 r 0 p/\
 ae xB 46 #[p] CN h3 λA z=>
 aT xB (qL 29 eR (.tuple #[])) z λb v=>
 ag xB (qf 29 b A) v λ_ o=>
 be o b λx=>
 ag xB (qf 3 b (qc xx (x+1))) o λ_ q=>
 be q (b.add 1) λs=>
 ag xB (qf 3 (b.add 1) (qc xx (s+1))) q λ_ h8=>
 bj h8 (b.add 7) λB=>
 ∃g:iE,aq h8 t 0 g/\
 aB xB (qq 27 1 #[(0,g)]) aI h8 λm y=>
 aB xB (qt #[27,27] 27 #[B,m]) aI y λi n=>
 ag xB (qf 27 (b.add 7) i) n λ_ f=>
 bj f (b.add 7) λl=>
 ae xB 144 #[l,(.func (.func 145) #[] #[])] iF f λ_ d=>
 ∃c:cU,aq d b 0 c/\
 ag xB (qf 29 a3 c) d λ_ e=>
 ∃a:cU,aq e a3 0 a/\
 R a e
theorem Pv(a:cU)(b:iE)(c:@Ia R h a b):ac xB 84 #[a,b] h R:=aw af func84 .n c
noncomputable def sG(a:Int)(c:f7)(d:f7):Prop:=
 be h c λk=>
 bj h d λx2=>
 aL (σ:=Int×Int) (λb g e=>
 Br (b.2<(x2.len:Int))
 (aQ x2 b.2 λa4=>
 ∃i:Int×Sl,aq e (a4.add (b.2.toNat*2)) 0 i/\
 aT xB (qL 141 eR (.tuple #[])) e λf j=>
 ag xB (qf 141 f i) j λ_ h3=>
 be h3 f λl=>
 Br (l==a)
 (g (qc xx (b.1+1),qc xx (b.2+1)) h3)
 (g (b.1,qc xx (b.2+1)) h3))
 (R b.1 e)) (k,(0:Int)) h
theorem DE(a:Int)(c:f7)(b:f7)(d:@sG R h a c b):ac xB 85 #[a,c,b] h R:=aw af func85 (al.tn (al.tn (.two (al.tn (.inn (.loop [(5,aZ),(11,aZ)] [(5,6),(7,8),(11,22)] .n))) .n))) d
noncomputable def ur(c:aM)(a:Sl)(b:cE):Prop:=
 aT xB (qM 23 c) h λd g=>
 aT xB (qM 142 (.func (.func b.1) b.2.1 b.2.2)) g λf e=>
 ae xB 147 #[a,(.func (.func 148) #[] #[d,f])] bN e λi h3=>
 R (xv (!i)) h3
theorem EZ(c:aM)(a:Sl)(b:cE)(d:@ur R h c a b):ac xB 86 #[c,a,(.func (.func b.1) b.2.1 b.2.2)] h R:=aw af func86 .n d
noncomputable def sH(g:aM)(a:Sl)(d:cE):Prop:=
 aL (σ:=Int) (λi p f=>
 Br (i<(a.len:Int))
 (aQ a i λm=>
 be f (m.add (i.toNat*1)) λx3=>
 bg (σ:=Int) (λe l=>
 Br (e !=0)
 (R e l)
 (p (qc xx (i+1)) l))
 (λo=>
 ∃a4,(g=dB a4)/\
 (0<=x3/\x3<((64:Nat):Int))/\
 jU f ((a4.add 10).add (x3.toNat*1)) λk=>
 ∃b,(g=dB b)/\
 ∃c:cU,aq f b 0 c/\
 gY C d.1 (d.2.1.toList++[(xq xx x3)]++d.2.2.toList) bw f λq j=>
 (az.ok [(b,c.1),(b.add 1,c.2.1),(b.add 2,c.2.2.1),(b.add 3,c.2.2.2.1),(b.add 4,c.2.2.2.2.1),(b.add 5,c.2.2.2.2.2.1),(b.add 6,c.2.2.2.2.2.2.1),(b.add 7,c.2.2.2.2.2.2.2),((a4.add 10).add (x3.toNat*1),k)] j)/\
 ae xB 150 #[k,c,q] bw j λn h3=>
 (az.ok [] h3)/\
 o n h3))
 (R (xq xx 0) f)) (0:Int) h
theorem DF(c:aM)(a:Sl)(b:cE)(d:@sH R h c a b):ac xB 87 #[c,a,(.func (.func b.1) b.2.1 b.2.2)] h R:=aw af func87 (al.tn (.two (al.tn (.inn (.loop [(12,aZ)] [(6,7),(8,10),(12,34)] (al.tn (al.tn (.two (.inn (al.tn (.two (.join [(9,aZ)] [(9,10),(16,30)] .n) .n))) .n)))))) .n)) d
noncomputable def ut(b:aM)(c:cU)(a:Sl):Prop:=
 aT xB (qM 29 c) h λd i=>
 ∃x2:cU,aq i d 0 x2/\
 ae xB 77 #[x2,a] aI i λn j=>
 ae xB 76 #[(.func (.func 23) #[b] #[]),n] bw j λe h3=>
 Br (e !=0)
 (R e h3)
 (∃f:cU,aq h3 d 0 f/\
 ae xB 46 #[f] CN h3 λm l=>
 ∃g,(b=dB g)/\
 ag xB (qf 29 g m) l λ_ k=>
 R (xq xx 0) k)
theorem Fa(c:aM)(b:cU)(a:Sl)(d:@ut R h c b a):ac xB 88 #[c,b,a] h R:=aw af func88 .n d
noncomputable def uZ(a:aM):Prop:=
 Br (qT a) (R eR h) (ae xB 52 #[a] bN h λb c=>
 R b c)
theorem GM(a:aM)(b:@uZ R h a):ac xB 89 #[a] h R:=aw af func89 .n b
noncomputable def uu(b:aM)(a:ByteArray):Prop:=
 aT xB (qM 9 a) h λe d=>
 ∃c,(b=dB c)/\
 bj d (c.add 7) λx3=>
 ae xB 151 #[x3,(.func (.func 152) #[] #[e])] bw d λg f=>
 R g f
theorem Fb(b:aM)(a:ByteArray)(c:@uu R h b a):ac xB 90 #[b,a] h R:=aw af func90 .n c
noncomputable def ju(a:Sl)(d:Int)(b:Int):Prop:=
 aB xB (Instr.sliceAt 27 a (dB d) (dB b) (dB (xq xx (a.len:Int)))) aI h λ_ f=>
 Br (d==b)
 (R a f)
 ((0<=d/\d<=(a.cap:Int))/\
 (0<=b/\b<=(a.len:Int))/\
 aB xB (qt #[27,27] 27 #[(xr a.ptr d.toNat a.cap),(.slice (if a.cap=b.toNat then a.ptr else a.ptr.map (·.add (b.toNat*4))) (a.len-b.toNat) (a.cap-b.toNat))]) aI f λc e=>
 (az.ok [] e)/\
 (0<=(c.len:Int)/\(c.len:Int)<=(a.len:Int)/\(a.len:Int)<=(c.cap:Int))/\
 ag xB (yw #[27] 0 #[(.slice (if c.cap=(c.len:Int).toNat then c.ptr else c.ptr.map (·.add ((c.len:Int).toNat*4))) ((a.len:Int).toNat-(c.len:Int).toNat) (c.cap-(c.len:Int).toNat))]) e λ_ h3=>
 R c h3)
theorem nj(b:Sl)(c:Int)(a:Int)(d:@ju R h b c a):ac xB 91 #[b,c,a] h R:=aw af func91 .n d
noncomputable def rH(a:aM)(j:cU):Prop:=
 aT xB (qM 29 j) h λe w=>
 ae xB 89 #[a] bN w λx n=>
 Br x
 (R (xq xx 14) n)
 (bg (σ:=Unit) (λ_ t=>
 bj t (e.add 6) λE=>
 ae xB 47 #[(.func (.func 23) #[a] #[]),E] aI t λb q=>
 ∃i:cU,aq q e 0 i/\
 ae xB 68 #[i] aI q λo u=>
 aT xB (qL 3 eR (.tuple #[])) u λc v=>
 ag xB (qf 3 c (xq xx (o.len:Int))) v λ_ h8=>
 bg (σ:=Unit) (λ_ p=>
 ae xB 87 #[a,b,(.func (.func 153) #[] #[c])] bw p λf d=>
 Br (f !=0)
 (R f d)
 (∃g:cU,aq d e 0 g/\
 ae xB 88 #[a,g,b] bw d λm k=>
 R m k))
 (λz=>
 Br ((b.len:Int)==0) (R (xq xx 7) h8) (ae xB 86 #[a,b,(.func (.func 153) #[] #[c])] bN h8 λl s=>
 Br (!l)
 (R (xq xx 7) s)
 (z () s))))
 (λA=>
 ∃x3:cU,aq n e 0 x3/\
 ae xB 129 #[x3] bN n λy h3=>
 (az.ok [] h3)/\
 Br (!y) (R (xq xx 1) h3) (be h3 e λB=>
 ∃r,(a=dB r)/\
 be h3 r λD=>
 Br (B !=(qc xx (D+1)))
 (R (xq xx 1) h3)
 (A () h3))))
theorem CQ(b:aM)(a:cU)(c:@rH R h b a):ac xB 92 #[b,a] h R:=aw af func92 (al.tn (al.tn (.two (.join [] [(4,5),(11,25)] .n) (al.tn (al.tn (al.tn (.two (.join [] [(4,5),(34,44)] .n) .n))))))) c
noncomputable def KA(a:aM):Prop:=
 Br (qT a) (R eR h) (ae xB 52 #[a] bN h λb c=>
 R b c)
theorem RZ(a:aM)(b:@KA R h a):ac xB 93 #[a] h R:=aw af func93 .n b
noncomputable def Gi(b:Int)(a:Int):Prop:=
 Br (b>=0) (Br (b<64) (Br (a>=1) (R (decide (a<=512)) h) (R eS h)) (R eS h)) (R eS h)
theorem Nb(b:Int)(a:Int)(c:@Gi R h b a):ac xB 94 #[b,a] h R:=aw af func94 .n c
noncomputable def ot(b:aM)(a:Int)(c:aM):Prop:=
 Br (!(qT b)) (Br (a>=0) (Br (a<64)
 (∃d,(b=dB d)/\
 (0<=a/\a<((64:Nat):Int))/\
 ag xB (qf 57 ((d.add 10).add (a.toNat*1)) c) h λ_ e=>
 R (.tuple #[]) e)
 (R (.tuple #[]) h)) (R (.tuple #[]) h)) (R (.tuple #[]) h)
theorem sI(c:aM)(a:Int)(b:aM)(d:@ot R h c a b):ac xB 95 #[c,a,b] h R:=aw af func95 .n d
noncomputable def DG(D:bS)(a:Int)(l:Sl):Prop:=
 aT xB (qM 26 D) h λd J=>
 bg (σ:=Unit) (λ_ M=>
 bg (σ:=Unit) (λ_ I=>
 ∃t:bS,aq I d 0 t/\
 ae xB 163 #[t,(xq xz a),l] (.many [cy,aZ]) I λj h8=>
 Br (j.2 !=0)
 (R (.tuple #[(xr eH 0 0),j.2]) h8)
 (be h8 d λE=>
 aL (σ:=Sl×Int) (λc W G=>
 Br (c.2<E)
 (be G (d.add 2) λq=>
 aB xB (qF 71 q q) aI G λi s=>
 ∃p:bS,aq s d 0 p/\
 ae xB 164 #[p,(xq xz a),c.2] aI s λm B=>
 aL (σ:=Int) (λg V e=>
 Br (g<(m.len:Int))
 (aQ m g λv=>
 be e (v.add (g.toNat*1)) λo=>
 aQ j.1 o λA=>
 bj e (A.add (o.toNat*1)) λn=>
 aL (σ:=Int) (λb S f=>
 Br (b<(n.len:Int))
 (aQ n b λz=>
 gv .u8 f (z.add (b.toNat*1)) λF=>
 aQ i b λw=>
 gv .u8 f (w.add (b.toNat*1)) λu=>
 aQ i b λa28=>
 ag xB (qf 5 (a28.add (b.toNat*1)) (xq xy (qc xy ((qD (qk xy) u^^^(qD (qk xy) F)).toNat:Nat)))) f λ_ H=>
 S (qc xx (b+1)) H)
 (V (qc xx (g+1)) f)) (0:Int) e)
 (aB xB (qt #[71,71] 71 #[c.1,i]) aI e λk y=>
 W ((⟨k.ptr,k.len,k.cap⟩:Sl),qc xx (c.2+1)) y)) (0:Int) B)
 (R (.tuple #[c.1,(xq xx 0)]) G)) ((⟨eH,0,0⟩:Sl),(0:Int)) h8))
 (λQ=>
 ∃r:bS,aq M d 0 r/\
 ae xB 162 #[l] aI M λO K=>
 (az.ok [(d,r.1),(d.add 1,r.2.1),(d.add 2,r.2.2)] K)/\
 ae xB 161 #[r,(xq xz a),O] bN K λT x=>
 (az.ok [] x)/\
 Br (!T)
 (R (.tuple #[(xr eH 0 0),(xq xx 9)]) x)
 (Q () x)))
 (λU=>
 ∃x2:bS,aq J d 0 x2/\
 ae xB 73 #[x2] bN J λN L=>
 Br (!N) (R (.tuple #[(xr eH 0 0),(xq xx 1)]) L) (ae xB 158 #[l,(.func (.func 159) #[] #[d])] bN L λP h3=>
 Br P
 (R (.tuple #[(xr eH 0 0),(xq xx 1)]) h3)
 (U () h3)))
theorem Ly(c:bS)(a:Int)(b:Sl)(d:@DG R h c a b):ac xB 99 #[c,(xq xz a),b] h R:=aw af func99 (al.tn (.two (.join [] [(6,8),(17,25)] .n) (.two (.join [] [(6,8),(25,31)] .n) (al.tn (al.tn (al.tn (.two (al.tn (.inn (.loop [(10,cy),(43,aZ)] [(10,13),(14,17),(43,81)] (al.tn (al.tn (.two (.inn (al.tn (al.tn (.two (al.tn (.inn (.loop [(54,aZ)] [(14,17),(54,77)] (al.tn (al.tn (.two (.inn (al.tn (al.tn (.inn (.loop [(63,aZ)] [(15,17),(63,76)] .n))))) .n)))))) .n)))) .n)))))) .n))))))) d
noncomputable def Gj(a:Sl):Prop:=
 Br (qT a.ptr)
 (R (xr eH 0 0) h)
 (aB xB (qq 71 0 #[]) aI h λd e=>
 aB xB (qt #[71,71] 71 #[d,a]) aI e λc b=>
 R c b)
theorem Nc(a:Sl)(b:@Gj R h a):ac xB 101 #[a] h R:=aw af func101 .n b
noncomputable def Nd(a:Int)(b:Sl):Prop:=
 bg (σ:=Unit) (λ_ i=>
 aB xB (qF 71 (xq xx 64) (xq xx 64)) aI i λc l=>
 aB xB (qq 71 4 #[(0,(xq xy 87)),(1,(xq xy 115)),(2,(xq xy 1)),(3,(xq xy (qc xy a)))]) aI l λv3 h3=>
 aB xB (yq #[71,71] 3 #[c,v3]) bw h3 λ_ p=>
 (0<=(4:Int)/\(4:Int)<=(c.len:Int))/\
 aB xB (yq #[71,71] 3 #[(.slice (if c.cap=(4:Int).toNat then c.ptr else c.ptr.map (·.add ((4:Int).toNat*1))) (c.len-(4:Int).toNat) (c.cap-(4:Int).toNat)),b]) bw p λ_ k=>
 (0<=(59:Int)/\(59:Int)<=(c.cap:Int))/\
 ae xB 165 #[(xr c.ptr ((59:Int).toNat) c.cap)] (.one (.sc (.int .u32))) k λj f=>
 aL (σ:=Int) (λd m e=>
 Br (d<4)
 ((0<=(qc xx (8*d)))/\
 aQ c (qc xx (59+d)) λg=>
 ag xB (qf 5 (g.add ((qc xx (59+d)).toNat*1)) (xq xy (qc xy (qX j (2^min (qc xx (8*d)).toNat (qk xz)))))) e λ_ h8=>
 m (qc xx (d+1)) h8)
 (aQ c (63:Int) λa9=>
 ag xB (qf 5 (a9.add ((63:Int).toNat*1)) (xq xy 165)) e λ_ o=>
 R c o)) (0:Int) f)
 (λn=>
 Br (a<1) (R (xr eH 0 0) h) (Br (a>255) (R (xr eH 0 0) h) (Br ((b.len:Int)>55)
 (R (xr eH 0 0) h)
 (n () h))))
theorem Ud(b:Int)(a:Sl)(c:@Nd R h b a):ac xB 102 #[b,a] h R:=aw af func102 (al.tn (.two (.join [] [(4,5),(8,19)] .n) (al.tn (al.tn (al.tn (al.tn (.two (al.tn (.inn (.loop [(32,aZ)] [(7,8),(32,45)] .n))) .n))))))) c
noncomputable def uv(a:aM):Prop:=
 Br (!(qT a))
 (∃b,(a=dB b)/\
 ag xB (qf 4 (b.add 6) eR) h λ_ g=>
 ∃c,(a=dB c)/\
 ag xB (qf 56 (c.add 2) (xr eH 0 0)) g λ_ e=>
 ∃a3,(a=dB a3)/\
 ag xB (qf 3 (a3.add 3) (xq xx 0)) e λ_ h3=>
 ∃a4,(a=dB a4)/\
 ag xB (qf 56 (a4.add 4) (xr eH 0 0)) h3 λ_ f=>
 ∃a5,(a=dB a5)/\
 ag xB (qf 4 (a5.add 5) eS) f λ_ d=>
 R (.tuple #[]) d)
 (R (.tuple #[]) h)
theorem Fc(a:aM)(b:@uv R h a):ac xB 103 #[a] h R:=aw af func103 .n b
noncomputable def oK(a:Sl):Prop:=
 Br (qT a.ptr)
 (R (xr eH 0 0) h)
 (aB xB (qq 22 0 #[]) aI h λd e=>
 aB xB (qt #[22,22] 22 #[d,a]) aI e λc b=>
 R c b)
theorem AM(a:Sl)(b:@oK R h a):ac xB 104 #[a] h R:=aw af func104 .n b
noncomputable def jB(a:Sl):Prop:=
 Br (qT a.ptr)
 (R (xr eH 0 0) h)
 (aB xB (qq 27 0 #[]) aI h λd e=>
 aB xB (qt #[27,27] 27 #[d,a]) aI e λc b=>
 R c b)
theorem nB(a:Sl)(b:@jB R h a):ac xB 105 #[a] h R:=aw af func105 .n b
noncomputable def DH(i:aM)(m:cU):Prop:=
 aT xB (qM 29 m) h λs v=>
 ae xB 24 #[i] aI v λq x=>
 aL (σ:=Sl×Int) (λa z h3=>
 Br ((qc xx (a.2+1))>=(q.len:Int))
 (ae xB 168 #[a.1,(.func (.func 169) #[] #[])] iF h3 λ_ B=>
 ae xB 170 #[a.1,(.func (.func 171) #[] #[])] aI B λD w=>
 R D w)
 (bg (σ:=Sl) (λc j=>
 z ((⟨c.ptr,c.len,c.cap⟩:Sl),qc xx (a.2+1)) j)
 (λo=>
 aQ q (qc xx (a.2+1)) λy=>
 bj h3 (y.add ((qc xx (a.2+1)).toNat*1)) λA=>
 ae xB 166 #[A] (.many [(.agg [(.int .i64),(.int .i64),(.int .i64),(.int .i64),(.int .i64),(.int .i64),(.int .u32),.slc]),iR]) h3 λr t=>
 aT xB (qL 164 eR (.tuple #[])) t λa9 u=>
 ag xB (qf 164 a9 r.1) u λ_ h8=>
 Br r.2 (∃f:cU,aq h8 s 0 f/\
 ∃e:fe,aq h8 a9 0 e/\
 ae xB 167 #[f,e] bN h8 λn p=>
 Br n
 (∃d:fe,aq p a9 0 d/\
 aB xB (qq 161 1 #[(0,d)]) aI p λg k=>
 aB xB (qt #[161,161] 161 #[a.1,g]) aI k λb l=>
 o (⟨b.ptr,b.len,b.cap⟩:Sl) l)
 (o (⟨a.1.ptr,a.1.len,a.1.cap⟩:Sl) p)) (o (⟨a.1.ptr,a.1.len,a.1.cap⟩:Sl) h8)))) ((⟨eH,0,0⟩:Sl),(-1:Int)) x
theorem Lz(b:aM)(a:cU)(c:@DH R h b a):ac xB 106 #[b,a] h R:=aw af func106 (al.tn (.scope 0 [(6,cy),(7,aZ)] [(4,5),(6,10),(12,40)] [.n,.n,.n] [(al.tn (al.tn (.two (.join [(6,cy)] [(6,7),(8,10),(18,36)] .n) .n)))] [(1,[.n])])) c
noncomputable def lB(b:Sl)(d:Int):Prop:=
 aL (σ:=Int) (λa e c=>
 Br (a<(b.len:Int))
 (aQ b a λf=>
 be c (f.add (a.toNat*1)) λx3=>
 Br (d==x3)
 (R a c)
 (e (qc xx (a+1)) c))
 (R (xq xx (-1:Int)) c)) (0:Int) h
theorem nC(b:Sl)(a:Int)(c:@lB R h b a):ac xB 107 #[b,a] h R:=aw af func107 (al.tn (.two (al.tn (.inn (.loop [(8,aZ)] [(4,6),(8,19)] .n))) .n)) c
noncomputable def Nf(b:aM)(a:Sl):Prop:=
 ae xB 172 #[b,a] aI h λc d=>
 R (xq xx (c.len:Int)) d
theorem Ue(b:aM)(a:Sl)(c:@Nf R h b a):ac xB 108 #[b,a] h R:=aw af func108 .n c
noncomputable def Uf:Prop:=
 ae xB 173 #[] (.one (.arr (.int .u8))) h λg j=>
 aT xB (qL 233 eR (.tuple #[])) j λa f=>
 ag xB (qf 233 a (xw (g.map (Sc.enc (.int .u8))).toArray)) f λ_ h3=>
 ∃x3:List (Int),(x3.length=255/\aq h3 a 0 (x3.map (Sc.enc (.int .u8))))/\
 ∃b:List (Int),(b.length=255/\aq h3 a 0 (b.map (Sc.enc (.int .u8))))/\
 ae xB 174 #[(xw (b.map (Sc.enc (.int .u8))).toArray)] (.one (.arr (.int .i64))) h3 λk e=>
 (az.ok (nl a 0 (x3.map (Sc.enc (.int .u8))) []) e)/\
 ∃d:eX,(aP xB (vW 238 #[(0,(xw (x3.map (Sc.enc (.int .u8))).toArray)),(1,(xw (k.map (Sc.enc (.int .i64))).toArray))]) d)/\
 aT xB (qM 238 d) e λi c=>
 (az.ok (nl a 0 (x3.map (Sc.enc (.int .u8))) []) c)/\
 R i c
theorem Zv(a:@Uf R h):ac xB 109 #[] h R:=aw af func109 .n a
noncomputable def Cf(f:bS)(c:Int)(a:Sl):Prop:=
 aT xB (qM 26 f) h λg i=>
 ∃x2:bS,aq i g 0 x2/\
 ae xB 118 #[x2] aI i λe q=>
 aL (σ:=Sl×Int) (λb j h3=>
 Br (b.2<(a.len:Int))
 (aQ a b.2 λa5=>
 be h3 (a5.add (b.2.toNat*1)) λo=>
 ∃k:bS,aq h3 g 0 k/\
 ae xB 175 #[k,(xq xz c),o] aI h3 λm l=>
 Br (!(qT m.ptr))
 (aB xB (qq 56 1 #[(0,m)]) aI l λv9 p=>
 aB xB (qt #[56,56] 56 #[b.1,v9]) aI p λd n=>
 j ((⟨d.ptr,d.len,d.cap⟩:Sl),qc xx (b.2+1)) n)
 (j ((⟨b.1.ptr,b.1.len,b.1.cap⟩:Sl),qc xx (b.2+1)) l))
 (R b.1 h3)) ((⟨e.ptr,e.len,e.cap⟩:Sl),(0:Int)) q
theorem Kd(c:bS)(a:Int)(b:Sl)(d:@Cf R h c a b):ac xB 110 #[c,(xq xz a),b] h R:=aw af func110 (al.tn (al.tn (.two (al.tn (.inn (.loop [(7,cy),(15,aZ)] [(7,8),(9,11),(15,30)] .n))) .n))) d
noncomputable def Ib(a:Int)(b:Int):Prop:=
 Br (a>=0) (Br (a<=64) (Br (b>=0) (R (decide (b<=a)) h) (R eS h)) (R eS h)) (R eS h)
theorem Pw(a:Int)(b:Int)(c:@Ib R h a b):ac xB 111 #[a,b] h R:=aw af func111 .n c
noncomputable def pJ(a:aM)(J:iE)(b:Int):Prop:=
 aT xB (qM 94 J) h λe u=>
 bg (σ:=aM) (λA k=>
 bg (σ:=Sl×Int) (λx E=>
 Br (x.2 !=0)
 (R (.tuple #[(xt eH),(xq xx 11)]) E)
 (bg (σ:=Unit) (λ_ j=>
 bg (σ:=Unit) (λ_ P=>
 R (.tuple #[A,(xq xx 0)]) P)
 (λZ=>
 ∃q,(a=dB q)/\
 jU j q λI=>
 be j (e.add 1) λH=>
 ae xB 11 #[I,H,b] aI j λL o=>
 (az.ok [] o)/\
 ∃D,(A=dB D)/\
 ag xB (qf 37 (D.add 4) L) o λ_ r=>
 (az.ok [] r)/\
 Z () r))
 (λK3=>
 bg (σ:=Int) (λO B=>
 Br (O !=0)
 (R (.tuple #[(xt eH),(xq xx 11)]) B)
 (K3 () B))
 (λK4=>
 ∃p,(a=dB p)/\
 ∃y:bS,aq E ((p.add 1).add 2) 0 y/\
 ∃m,(A=dB m)/\
 gv .u32 E (m.add 2) λF=>
 ae xB 140 #[y,(xq xz F),x.1] (.many [FX,aZ]) E λw h8=>
 (az.ok [] h8)/\
 ∃z,(A=dB z)/\
 ag xB (qf 174 (z.add 3) w.1) h8 λ_ U=>
 (az.ok [] U)/\
 K4 w.2 U))))
 (λY=>
 ∃c,(a=dB c)/\
 ∃d:bS,aq k ((c.add 1).add 2) 0 d/\
 ∃l,(A=dB l)/\
 gv .u32 k (l.add 2) λs=>
 ∃f,(a=dB f)/\
 jU k f λi=>
 ∃t,(a=dB t)/\
 bj k (t.add 9) λM=>
 ∃v,(a=dB v)/\
 ∃n:cU,aq k (v.add 1) 0 n/\
 be k (e.add 1) λK=>
 ae xB 49 #[(.func (.func 23) #[i] #[]),M,n,K,b] aI k λN S=>
 (az.ok [(f,i),(l.add 2,(xq xz s)),((c.add 1).add 2,d.1),(((c.add 1).add 2).add 1,d.2.1),(((c.add 1).add 2).add 2,d.2.2)] S)/\
 ae xB 99 #[d,(xq xz s),N] (.many [cy,aZ]) S λg Q=>
 (az.ok [(f,i)] Q)/\
 Y ((⟨g.1.ptr,g.1.len,g.1.cap⟩:Sl),g.2) Q))
 (λK1=>
 be u (e.add 1) λx2=>
 be u (e.add 1) λx3=>
 bj u (e.add 3) λG=>
 aQ G b λa5=>
 be u (a5.add (b.toNat*1)) λX=>
 ae xB 48 #[x3,b,X] (.one (.sc (.int .u32))) u λW T=>
 (az.ok [(e.add 3,G),(e.add 1,x2)] T)/\
 aT xB (qM 176 (xw #[x2,b,(xq xz W),(xt eH),(xr eH 0 0),(xr eH 0 0)])) T λV h3=>
 (az.ok [(e.add 3,G),(e.add 1,x2)] h3)/\
 K1 (dB V) h3)
theorem Bx(a:aM)(b:iE)(c:Int)(d:@pJ R h a b c):ac xB 112 #[a,b,c] h R:=aw af func112 (al.tn (.two (.join [(8,FX)] [(8,9),(11,25)] .n) (.two (.join [(9,cy),(10,aZ)] [(9,11),(25,55)] .n) (al.tn (.two (.join [] [(6,8),(10,11),(57,76)] (.two (.join [(10,aZ)] [(10,11),(57,74)] .n) .n)) (.two (.join [] [(76,87)] .n) .n)))))) d
noncomputable def pK(b:aM)(c:aM):Prop:=
 aL (σ:=Unit) (λ_ p g=>
 ∃m,(b=dB m)/\
 ∃x3:bS,aq g ((m.add 1).add 2) 0 x3/\
 ∃a4,(c=dB a4)/\
 gv .u32 g (a4.add 2) λr=>
 ∃n,(c=dB n)/\
 bj g (n.add 4) λq=>
 ∃l,(b=dB l)/\
 be g (l.add 10) λo=>
 ae xB 57 #[x3,(xq xz r),q,o] (.many [cy,iR,aZ]) g λa d=>
 (az.ok [] d)/\
 Br (a.2.2 !=0)
 (R a.2.2 d)
 (Br (!a.2.1)
 (R (xq xx 0) d)
 (∃e,(c=dB e)/\
 bj d (e.add 5) λk=>
 ∃f,(b=dB f)/\
 be d (f.add 11) λj=>
 Br ((k.len:Int)>=j)
 (R (xq xx 12) d)
 (ae xB 176 #[b,c,a.1] bw d λi h3=>
 Br (i !=0)
 (R i h3)
 (p () h3))))) () h
theorem By(a:aM)(b:aM)(c:@pK R h a b):ac xB 113 #[a,b] h R:=aw af func113 (al.tn (.inn (.loop [] [(4,56)] .n))) c
noncomputable def Ng(a:cE)(b:Sl):Prop:=
 ae xB 104 #[b] aI h λf o=>
 ae xB 96 #[f] iF o λ_ l=>
 ae xB 177 #[f] aI l λi h3=>
 aL (σ:=Int) (λc n d=>
 Br (c<(i.len:Int))
 (aQ i c λa5=>
 be d (a5.add (c.toNat*1)) λj=>
 gY C a.1 (a.2.1.toList++[(xq xx j)]++a.2.2.toList) jt d λm k=>
 ae xB 178 #[m] bw k λg e=>
 Br (g !=0)
 (R g e)
 (n (qc xx (c+1)) e))
 (R (xq xx 0) d)) (0:Int) h3
theorem Ug(b:cE)(a:Sl)(c:@Ng R h b a):ac xB 114 #[(.func (.func b.1) b.2.1 b.2.2),a] h R:=aw af func114 (al.tn (al.tn (al.tn (.two (al.tn (.inn (.loop [(15,aZ)] [(4,5),(6,8),(15,27)] .n))) .n)))) c
noncomputable def Nh(c:Int)(a:Int):Prop:=
 ae xB 111 #[c,a] bN h λr m=>
 Br (!r)
 (R (.tuple #[(xr eH 0 0),(xq xx 1)]) m)
 (ae xB 53 #[c,a] bw m λu n=>
 Br (u>4096)
 (R (.tuple #[(xr eH 0 0),(xq xx 13)]) n)
 (aB xB (qF 22 a a) aI n λv3 h3=>
 aL (σ:=Int) (λd y p=>
 Br (d<(v3.len:Int))
 (aQ v3 d λa5=>
 ag xB (qf 3 (a5.add (d.toNat*1)) d) p λ_ w=>
 y (qc xx (d+1)) w)
 (ae xB 104 #[v3] aI p λv q=>
 aB xB (qq 37 1 #[(0,v)]) aI q λk s=>
 aL (σ:=Sl) (λl x h8=>
 ae xB 179 #[v3,c] bN h8 λt o=>
 Br t
 (ae xB 104 #[v3] aI o λf g=>
 aB xB (qq 37 1 #[(0,f)]) aI g λj i=>
 aB xB (qt #[37,37] 37 #[l,j]) aI i λb e=>
 x (⟨b.ptr,b.len,b.cap⟩:Sl) e)
 (R (.tuple #[l,(xq xx 0)]) o)) (⟨k.ptr,k.len,k.cap⟩:Sl) s)) (0:Int) h3))
theorem Uh(a:Int)(b:Int)(c:@Nh R h a b):ac xB 115 #[a,b] h R:=aw af func115 (al.tn (al.tn (al.tn (.two (al.tn (.inn (.loop [(23,aZ)] [(7,8),(23,31)] .n))) (al.tn (.two (.inn (.loop [(8,cy)] [(8,9),(34,42)] .n)) .n)))))) c
noncomputable def Ni(c:bS):Prop:=
 aT xB (qM 26 c) h λb d=>
 ∃x2:bS,aq d b 0 x2/\
 ae xB 73 #[x2] bN d λf a=>
 Br (!f)
 (R (xq xx 0) a)
 (be a b λe=>
 be a (b.add 1) λg=>
 R (qc xx (e+g)) a)
theorem Ui(a:bS)(b:@Ni R h a):ac xB 116 #[a] h R:=aw af func116 .n b
noncomputable def Nj(b:aM)(a:Int):Prop:=
 bg (σ:=Unit) (λ_ d=>
 bg (σ:=aM) (λf h3=>
 aT xB (qM 242 (xw #[f,a,(xr eH 0 0)])) h3 λa4 i=>
 R a4 i)
 (λc=>
 Br (qT b)
 (ae xB 109 #[] jt d λj e=>
 c j e)
 (c b d)))
 (λg=>
 Br (a<0) (R (xt eH) h) (Br (a>64)
 (R (xt eH) h)
 (g () h)))
theorem Uj(a:aM)(b:Int)(c:@Nj R h a b):ac xB 117 #[a,b] h R:=aw af func117 (al.tn (.two (.join [] [(4,11)] .n) (.two (.join [(0,FX)] [(0,1),(11,14)] .n) .n))) c
noncomputable def Nk(o:bS):Prop:=
 aT xB (qM 26 o) h λb t=>
 ∃x2:bS,aq t b 0 x2/\
 ae xB 73 #[x2] bN t λx v=>
 Br (!x)
 (R (xr eH 0 0) v)
 (ae xB 109 #[] jt v λz h3=>
 be h3 (b.add 1) λD=>
 aL (σ:=Sl×Int) (λe B g=>
 Br (e.2<D)
 (bg (σ:=Sl) (λf s=>
 be s b λp=>
 aL (σ:=Int) (λa F h8=>
 Br (a<p)
 (ae xB 181 #[z,(qc xx ((qc xx (e.2+1))*(qc xx (a+1))))] (.one (.sc (.int .u8))) h8 λm E=>
 aQ f a λj=>
 ag xB (qf 5 (j.add (a.toNat*1)) (xq xy m)) E λ_ q=>
 F (qc xx (a+1)) q)
 (aB xB (qq 56 1 #[(0,f)]) aI h8 λk n=>
 aB xB (qt #[56,56] 56 #[e.1,k]) aI n λd i=>
 B ((⟨d.ptr,d.len,d.cap⟩:Sl),qc xx (e.2+1)) i)) (0:Int) s)
 (λA=>
 ∃w:bS,aq g b 0 w/\
 be g b λl=>
 ae xB 116 #[w] bw g λy u=>
 (az.ok [(b,l)] u)/\
 ae xB 180 #[y,(qc xx (l+e.2))] aI u λc r=>
 (az.ok [(b,l)] r)/\
 A (⟨c.ptr,c.len,c.cap⟩:Sl) r))
 (R e.1 g)) ((⟨eH,0,0⟩:Sl),(0:Int)) h3)
theorem Uk(a:bS)(b:@Nk R h a):ac xB 118 #[a] h R:=aw af func118 (al.tn (al.tn (al.tn (al.tn (.two (al.tn (.inn (.loop [(4,cy),(14,aZ)] [(4,8),(14,45)] (al.tn (al.tn (.two (.inn (al.tn (.two (.join [(6,cy)] [(6,7),(17,24)] .n) (.two (al.tn (.inn (.loop [(26,aZ)] [(7,8),(26,40)] .n))) .n)))) .n)))))) .n))))) b
noncomputable def Cg(a:aM)(e:Sl):Prop:=
 ae xB 182 #[a,e] (.many [cy,iR]) h λc k=>
 bg (σ:=Unit) (λ_ h3=>
 ∃a4,(a=dB a4)/\
 jU h3 a4 λg=>
 ∃f,(a=dB f)/\
 bj h3 (f.add 2) λn=>
 aB xB (qq 56 1 #[(0,c.1)]) aI h3 λq o=>
 (az.ok [(f.add 2,n),(a4,g)] o)/\
 aB xB (qt #[56,56] 56 #[n,q]) aI o λv9 l=>
 (az.ok [(a4,g)] l)/\
 ae xB 172 #[g,v9] aI l λd i=>
 (az.ok [] i)/\
 ∃b,(a=dB b)/\
 ag xB (qf 56 (b.add 2) d) i λ_ j=>
 (az.ok [] j)/\
 R eR j)
 (λr=>
 Br (!c.2) (R eS k) (ae xB 183 #[c.1] bw k λp m=>
 Br (p<0)
 (R eS m)
 (r () m)))
theorem Ke(a:aM)(b:Sl)(c:@Cg R h a b):ac xB 119 #[a,b] h R:=aw af func119 (al.tn (al.tn (.two (.join [] [(4,5),(13,20)] .n) .n))) c
noncomputable def Gk(j:bS)(c:Int)(a:Sl):Prop:=
 aT xB (qM 26 j) h λq t=>
 aL (σ:=Sl×Int) (λf w k=>
 Br (f.2<(a.len:Int))
 (aQ a f.2 λa3=>
 bj k (a3.add (f.2.toNat*1)) λl=>
 aL (σ:=Sl×Int) (λb o h3=>
 Br (b.2<(l.len:Int))
 (aQ l b.2 λv=>
 be h3 (v.add (b.2.toNat*1)) λx=>
 ∃m:bS,aq h3 q 0 m/\
 ae xB 175 #[m,(xq xz c),x] aI h3 λn p=>
 Br (!(qT n.ptr))
 (aB xB (qq 56 1 #[(0,n)]) aI p λi u=>
 aB xB (qt #[56,56] 56 #[b.1,i]) aI u λe r=>
 o ((⟨e.ptr,e.len,e.cap⟩:Sl),qc xx (b.2+1)) r)
 (o ((⟨b.1.ptr,b.1.len,b.1.cap⟩:Sl),qc xx (b.2+1)) p))
 (aB xB (qq 55 1 #[(0,b.1)]) aI h3 λg s=>
 aB xB (qt #[55,55] 55 #[f.1,g]) aI s λd h8=>
 w ((⟨d.ptr,d.len,d.cap⟩:Sl),qc xx (f.2+1)) h8)) ((⟨eH,0,0⟩:Sl),(0:Int)) k)
 (R f.1 k)) ((⟨eH,0,0⟩:Sl),(0:Int)) t
theorem Nl(c:bS)(b:Int)(a:Sl)(d:@Gk R h c b a):ac xB 120 #[c,(xq xz b),a] h R:=aw af func120 (al.tn (al.tn (.two (al.tn (.inn (.loop [(7,cy),(16,aZ)] [(7,8),(9,11),(12,14),(16,42)] (al.tn (al.tn (.two (.inn (al.tn (al.tn (.two (al.tn (.inn (.loop [(10,cy),(22,aZ)] [(10,11),(12,14),(22,37)] .n))) .n)))) .n)))))) .n))) d
noncomputable def Gl(b:aM)(e:Sl)(c:Sl)(a:Int):Prop:=
 ae xB 184 #[b] jt h λg s=>
 aL (σ:=Int) (λd n j=>
 Br (d<(e.len:Int))
 (aQ e d λa3=>
 bj j (a3.add (d.toNat*1)) λl=>
 ae xB 50 #[c,d] bN j λv h3=>
 Br v
 (n (qc xx (d+1)) h3)
 (aL (σ:=Int) (λf u k=>
 Br (f<(l.len:Int))
 (aQ l f λt=>
 bj k (t.add (f.toNat*1)) λq=>
 ae xB 185 #[g] bw k λr m=>
 Br (r==a)
 (R eR m)
 (ae xB 119 #[g,q] bN m λ_ o=>
 u (qc xx (f+1)) o))
 (n (qc xx (d+1)) k)) (0:Int) h3))
 (ae xB 185 #[g] bw j λi p=>
 R (xv (i==a)) p)) (0:Int) s
theorem Nm(a:aM)(d:Sl)(b:Sl)(c:Int)(e:@Gl R h a d b c):ac xB 121 #[a,d,b,c] h R:=aw af func121 (al.tn (al.tn (.two (al.tn (.inn (.loop [(18,aZ)] [(8,9),(10,12),(13,14),(18,41)] (al.tn (al.tn (.two (.inn (al.tn (al.tn (al.tn (.inn (.loop [(28,aZ)] [(8,9),(13,14),(28,40)] .n)))))) .n)))))) .n))) e
noncomputable def Ic(c:aM)(e:cU):Prop:=
 aT xB (qM 29 e) h λg i=>
 ∃x2:cU,aq i g 0 x2/\
 ae xB 129 #[x2] bN i λp k=>
 Br (!p)
 (R eS k)
 (ae xB 24 #[c] aI k λq h3=>
 ∃l:cU,aq h3 g 0 l/\
 ae xB 68 #[l] aI h3 λj s=>
 aL (σ:=Int) (λb r f=>
 Br (b<(j.len:Int))
 (aQ j b λn=>
 bj f (n.add (b.toNat*1)) λt=>
 aT xB (qL 71 eR (.tuple #[])) f λa m=>
 ag xB (qf 71 a t) m λ_ o=>
 ae xB 186 #[q,(.func (.func 187) #[] #[a])] bN o λd h8=>
 Br (!d)
 (R eS h8)
 (r (qc xx (b+1)) h8))
 (R eR f)) (0:Int) s)
theorem Px(b:aM)(a:cU)(c:@Ic R h b a):ac xB 122 #[b,a] h R:=aw af func122 (al.tn (al.tn (al.tn (.two (al.tn (.inn (.loop [(16,aZ)] [(4,5),(7,8),(16,25)] .n))) .n)))) c
noncomputable def jV(a:Sl)(b:cE):Prop:=
 ae xB 188 #[a,(.func (.func b.1) b.2.1 b.2.2)] bw h λe i=>
 Br (e==(-1:Int))
 (R a i)
 (aL (σ:=Int×Int) (λc g d=>
 Br (c.2<(a.len:Int))
 (aQ a c.2 λa3=>
 AE d (a3.add (c.2.toNat*1)) λf=>
 gY C b.1 (b.2.1.toList++[(xu f)]++b.2.2.toList) bN d λm h3=>
 Br (!m)
 (aQ a c.1 λk=>
 ag xB (qf 9 (k.add (c.1.toNat*1)) f) h3 λ_ l=>
 g (qc xx (c.1+1),qc xx (c.2+1)) l)
 (g (c.1,qc xx (c.2+1)) h3))
 ((0<=c.1/\c.1<=(a.len:Int))/\
 ag xB (yw #[77] 0 #[(.slice (if a.cap=c.1.toNat then a.ptr else a.ptr.map (·.add (c.1.toNat*1))) (a.len-c.1.toNat) (a.cap-c.1.toNat))]) d λ_ j=>
 (0<=c.1/\c.1<=(a.cap:Int))/\
 R (xr a.ptr c.1.toNat a.cap) j)) (e,qc xx (e+1)) i)
theorem nV(b:Sl)(a:cE)(c:@jV R h b a):ac xB 123 #[b,(.func (.func a.1) a.2.1 a.2.2)] h R:=aw af func123 (al.tn (al.tn (al.tn (.two (al.tn (.inn (.loop [(5,aZ),(6,aZ)] [(5,8),(16,36)] .n))) .n)))) c
noncomputable def uw(a:aM):Prop:=
 Br (qT a)
 (R (xq xx 0) h)
 (∃b,(a=dB b)/\
 be h (b.add 1) λx2=>
 R x2 h)
theorem Fe(a:aM)(b:@uw R h a):ac xB 126 #[a] h R:=aw af func126 .n b
noncomputable def ux(a:aM):Prop:=
 ae xB 26 #[a] bN h λk b=>
 Br (!k)
 (R eS b)
 (∃j,(a=dB j)/\
 sB b (j.add 1) λx3=>
 Br (!x3)
 (R eR b)
 (∃a4,(a=dB a4)/\
 be b (a4.add 2) λn=>
 Br (n==0)
 (∃g,(a=dB g)/\
 ag xB (qf 4 g eR) b λ_ f=>
 ∃i,(a=dB i)/\
 be f (i.add 3) λl=>
 ∃a9,(a=dB a9)/\
 ag xB (qf 3 (a9.add 3) (qc xx (l+1))) f λ_ h3=>
 R eS h3)
 (∃d,(a=dB d)/\
 be b (d.add 2) λe=>
 ∃c,(a=dB c)/\
 ag xB (qf 3 (c.add 2) (qc xx (e-1))) b λ_ m=>
 R eR m)))
theorem Ff(a:aM)(b:@ux R h a):ac xB 127 #[a] h R:=aw af func127 .n b
noncomputable def uy(a:aM):Prop:=
 ∃b,(a=dB b)/\
 ag xB (qf 56 (b.add 4) (xr eH 0 0)) h λ_ e=>
 ∃c,(a=dB c)/\
 ag xB (qf 4 (c.add 5) eS) e λ_ d=>
 R (xq xx 0) d
theorem Fg(a:aM)(b:@uy R h a):ac xB 128 #[a] h R:=aw af func128 .n b
noncomputable def Nn(o:cU):Prop:=
 aT xB (qM 29 o) h λc F=>
 bg (σ:=Unit) (λ_ E=>
 bg (σ:=Unit) (λ_ h8=>
 bj h8 (c.add 7) λg=>
 aL (σ:=Int) (λa S z=>
 Br (a<(g.len:Int))
 (aQ g a λu=>
 ∃k:iE,aq z (u.add (a.toNat*4)) 0 k/\
 aT xB (qL 94 eR (.tuple #[])) z λd B=>
 ag xB (qf 94 d k) B λ_ f=>
 bg (σ:=Unit) (λ_ j=>
 bj j (c.add 7) λe=>
 (0<=a/\a<=(e.cap:Int))/\
 ae xB 193 #[(xr e.ptr a.toNat e.cap),(.func (.func 194) #[] #[d])] bN j λv l=>
 Br v
 (R eS l)
 (S (qc xx (a+1)) l))
 (λI=>
 ∃i:cU,aq f c 0 i/\
 ∃m:iE,aq f d 0 m/\
 ae xB 192 #[i,m] bN f λp b=>
 (az.ok [] b)/\
 Br (!p) (R eS b) (Br (a>0) (bj b (c.add 7) λt=>
 aQ t (qc xx (a-1)) λq=>
 AE b (q.add ((qc xx (a-1)).toNat*4)) λy=>
 AE b d λs=>
 Br (!(Op.bytesLess y.toList s.toList))
 (R eS b)
 (I () b)) (I () b))))
 (R eR z)) (0:Int) h8)
 (λP=>
 bj E (c.add 6) λD=>
 ae xB 191 #[D,(xq xx 63)] bN E λw n=>
 Br (!w) (R eS n) (bj n (c.add 7) λr=>
 Br ((r.len:Int)>12)
 (R eS n)
 (P () n))))
 (λQ=>
 be F c λx2=>
 ae xB 190 #[x2,(xq xx 1),(xq xx 2147483647)] bN F λM x=>
 Br (!M) (R eS x) (be x (c.add 1) λK=>
 ae xB 190 #[K,(xq xx 0),(xq xx 16777216)] bN x λJ h3=>
 Br (!J) (R eS h3) (∃G:bS,aq h3 (c.add 2) 0 G/\
 ae xB 73 #[G] bN h3 λO A=>
 Br (!O) (R eS A) (be A (c.add 5) λL=>
 ae xB 190 #[L,(xq xx 0),(xq xx 16)] bN A λN H=>
 Br (!N)
 (R eS H)
 (Q () H)))))
theorem Ul(a:cU)(b:@Nn R h a):ac xB 129 #[a] h R:=aw af func129 (al.tn (.two (.join [] [(2,3),(5,27)] .n) (.two (.join [] [(2,3),(27,37)] .n) (.two (al.tn (.inn (.loop [(40,aZ)] [(2,5),(40,72)] (al.tn (al.tn (.two (.inn (al.tn (.two (.join [] [(2,3),(45,65)] .n) .n))) .n)))))) .n)))) b
end Go.Qw
namespace Go.Qw
open Go Go.Vc Go.Proofs
variable {R:Hb} {h:Heap}
noncomputable def KB(M:cU):Prop:=
 aT xB (qM 29 M) h λe h1=>
 ∃x2:cU,aq h1 e 0 x2/\
 ae xB 129 #[x2] bN h1 λr3 G=>
 Br (!r3)
 (R (xr eH 0 0) G)
 (bg (σ:=Sl) (λs8 s=>
 be s (e.add 2) λx9=>
 be s ((e.add 2).add 1) λab=>
 be s ((e.add 2).add 2) λad=>
 be s (e.add 5) λW=>
 bj s (e.add 6) λK=>
 aB xB (qq 71 5 #[(0,(xq xy (qc xy x9))),(1,(xq xy (qc xy ab))),(2,(xq xy (qc xy ad))),(3,(xq xy (qc xy W))),(4,(xq xy (qc xy (K.len:Int))))]) aI s λah h6=>
 aB xB (qt #[71,71] 71 #[s8,ah]) aI h6 λn h7=>
 bj h7 (e.add 6) λu=>
 aL (σ:=Sl×Int) (λd K2 h8=>
 Br (d.2<(u.len:Int))
 (aQ u d.2 λX=>
 be h8 (X.add (d.2.toNat*1)) λU=>
 aB xB (qq 71 1 #[(0,(xq xy (qc xy U)))]) aI h8 λap h9=>
 aB xB (qt #[71,71] 71 #[d.1,ap]) aI h9 λi L=>
 K2 ((⟨i.ptr,i.len,i.cap⟩:Sl),qc xx (d.2+1)) L)
 (bj h8 (e.add 7) λS=>
 aB xB (qq 71 1 #[(0,(xq xy (qc xy (S.len:Int))))]) aI h8 λZ V=>
 aB xB (qt #[71,71] 71 #[d.1,Z]) aI V λq B=>
 bj B (e.add 7) λy=>
 aL (σ:=Sl×Int) (λc K3 r=>
 Br (c.2<(y.len:Int))
 (aQ y c.2 λN=>
 ∃w:iE,aq r (N.add (c.2.toNat*4)) 0 w/\
 aT xB (qL 94 eR (.tuple #[])) r λa Q=>
 ag xB (qf 94 a w) Q λ_ g=>
 bg (σ:=Sl) (λY k=>
 bg (σ:=Sl) (λl v=>
 bj v (a.add 3) λD=>
 aL (σ:=Sl×Int) (λb K6 o=>
 Br (b.2<(D.len:Int))
 (aQ D b.2 λO=>
 be o (O.add (b.2.toNat*1)) λJ=>
 aB xB (qq 71 1 #[(0,(xq xy (qc xy J)))]) aI o λv45 am=>
 aB xB (qt #[71,71] 71 #[b.1,v45]) aI am λv46 T=>
 K6 ((⟨v46.ptr,v46.len,v46.cap⟩:Sl),qc xx (b.2+1)) T)
 (K3 ((⟨b.1.ptr,b.1.len,b.1.cap⟩:Sl),qc xx (c.2+1)) o)) ((⟨l.ptr,l.len,l.cap⟩:Sl),(0:Int)) v)
 (λK5=>
 be k (a.add 1) λao=>
 be k (a.add 2) λz=>
 ae xB 195 #[Y,ao,(xq xx 3)] aI k λI x=>
 (az.ok [(a.add 2,z)] x)/\
 ae xB 195 #[I,z,(xq xx 2)] aI x λm t=>
 (az.ok [] t)/\
 K5 (⟨m.ptr,m.len,m.cap⟩:Sl) t))
 (λK4=>
 AE g a λf=>
 AE g a λp=>
 aB xB (qq 71 1 #[(0,(xq xy (qc xy (f.size:Int))))]) aI g λar A=>
 (az.ok [(a,p),(a,f)] A)/\
 aB xB (qt #[71,71] 71 #[c.1,ar]) aI A λH F=>
 (az.ok [(a,p),(a,f)] F)/\
 aB xB (qt #[71,9] 71 #[H,p]) aI F λj E=>
 (az.ok [(a,f)] E)/\
 K4 (⟨j.ptr,j.len,j.cap⟩:Sl) E))
 (R c.1 r)) ((⟨q.ptr,q.len,q.cap⟩:Sl),(0:Int)) B)) ((⟨n.ptr,n.len,n.cap⟩:Sl),(0:Int)) h7)
 (λK1=>
 be G e λx4=>
 be G (e.add 1) λx5=>
 ae xB 195 #[(xr eH 0 0),x4,(xq xx 4)] aI G λr6 h3=>
 (az.ok [(e.add 1,x5)] h3)/\
 ae xB 195 #[r6,x5,(xq xx 4)] aI h3 λP h4=>
 (az.ok [] h4)/\
 K1 (⟨P.ptr,P.len,P.cap⟩:Sl) h4))
theorem Sa(a:cU)(b:@KB R h a):ac xB 130 #[a] h R:=aw af func130 (al.tn (al.tn (.two (.join [(3,cy)] [(3,4),(13,19)] .n) (al.tn (.two (al.tn (.inn (.loop [(3,cy),(44,aZ)] [(3,4),(5,6),(44,54)] .n))) (al.tn (.two (al.tn (.inn (.loop [(3,cy),(64,aZ)] [(3,4),(7,8),(9,10),(64,99)] (al.tn (al.tn (.two (.inn (al.tn (.two (.join [(3,cy)] [(3,4),(68,78)] .n) (.two (.join [(3,cy)] [(3,4),(78,85)] .n) (al.tn (.inn (.loop [(3,cy),(88,aZ)] [(3,4),(9,10),(88,98)] .n))))))) .n)))))) .n))))))) b
noncomputable def No(a:Int)(b:Int)(c:Int)(d:Sl):Prop:=
 (0<=(24:Int))/\
 (0<=(16:Int))/\
 (0<=(8:Int))/\
 aB xB (qq 71 7 #[(0,(xq xy (qc xy (qX a (2^min (24:Int).toNat (qk xx)))))),(1,(xq xy (qc xy (qX a (2^min (16:Int).toNat (qk xx)))))),(2,(xq xy (qc xy (qX a (2^min (8:Int).toNat (qk xx)))))),(3,(xq xy (qc xy a))),(4,(xq xy (qc xy b))),(5,(xq xy (qc xy c))),(6,(xq xy (qc xy (d.len:Int))))]) aI h λg i=>
 aB xB (qt #[71,71] 71 #[g,d]) aI i λf e=>
 ae xB 102 #[(xq xx 2),f] aI e λj h3=>
 R j h3
theorem Um(c:Int)(a:Int)(b:Int)(d:Sl)(e:@No R h c a b d):ac xB 131 #[c,a,b,d] h R:=aw af func131 .n e
noncomputable def Ie(n:fe):Prop:=
 aT xB (qM 164 n) h λa r=>
 ∃x2:fe,aq r a 0 x2/\
 ae xB 196 #[x2] bN r λx j=>
 Br (!x)
 (R (xr eH 0 0) j)
 (be j a λu=>
 ae xB 197 #[(xr eH 0 0),u,(xq xx 3)] aI j λB h3=>
 be h3 (a.add 1) λz=>
 ae xB 197 #[B,z,(xq xx 1)] aI h3 λy s=>
 be s (a.add 2) λv=>
 ae xB 197 #[y,v,(xq xx 2)] aI s λw b=>
 be b (a.add 3) λp=>
 be b ((a.add 3).add 1) λl=>
 be b ((a.add 3).add 2) λi=>
 aB xB (qq 71 3 #[(0,(xq xy (qc xy p))),(1,(xq xy (qc xy l))),(2,(xq xy (qc xy i)))]) aI b λk t=>
 aB xB (qt #[71,71] 71 #[w,k]) aI t λd q=>
 gv .u32 q (a.add 6) λc=>
 ae xB 197 #[d,(qc xx c),(xq xx 4)] aI q λf h8=>
 bj h8 (a.add 7) λg=>
 aB xB (qt #[71,71] 71 #[f,g]) aI h8 λm A=>
 ae xB 102 #[(xq xx 1),m] aI A λe o=>
 R e o)
theorem Py(a:fe)(b:@Ie R h a):ac xB 132 #[a] h R:=aw af func132 .n b
noncomputable def mC(a:aM)(i:Sl):Prop:=
 bg (σ:=Unit) (λ_ h3=>
 bg (σ:=Unit) (λ_ h8=>
 ∃e,(a=dB e)/\
 be h8 (e.add 3) λm=>
 ∃f,(a=dB f)/\
 ag xB (qf 3 (f.add 3) (qc xx (m+1))) h8 λ_ B=>
 ∃a22,(a=dB a22)/\
 jU B a22 λq=>
 ae xB 127 #[q] bN B λs j=>
 Br (!s)
 (R (xq xx 14) j)
 (ae xB 128 #[a] bw j λk r=>
 R k r))
 (λJ=>
 ∃b,(a=dB b)/\
 bj h3 (b.add 2) λc=>
 ae xB 101 #[i] aI h3 λp D=>
 (az.ok [(b.add 2,c)] D)/\
 aB xB (qq 56 1 #[(0,p)]) aI D λl x=>
 (az.ok [(b.add 2,c)] x)/\
 aB xB (qt #[56,56] 56 #[c,l]) aI x λo t=>
 (az.ok [] t)/\
 ∃g,(a=dB g)/\
 ag xB (qf 56 (g.add 2) o) t λ_ w=>
 (az.ok [] w)/\
 J () w))
 (λG=>
 Br ((i.len:Int) !=64)
 (R (xq xx 1) h)
 (bg (σ:=Bool) (λE d=>
 Br E
 (R (xq xx 5) d)
 (∃a4,(a=dB a4)/\
 bj d (a4.add 2) λH=>
 ∃A,(a=dB A)/\
 be d (A.add 1) λI=>
 Br ((H.len:Int)>=I)
 (R (xq xx 7) d)
 (∃v,(a=dB v)/\
 jU d v λF=>
 ae xB 26 #[F] bN d λn y=>
 Br (!n)
 (R (xq xx 14) y)
 (G () y))))
 (λz=>
 Br (qT a) (z eR h) (∃u,(a=dB u)/\
 sB h (u.add 6) λx2=>
 z x2 h))))
theorem oL(b:aM)(a:Sl)(c:@mC R h b a):ac xB 133 #[b,a] h R:=aw af func133 (al.tn (.two (.join [] [(4,36)] (.inn (al.tn (al.tn (.two (.join [(9,iR)] [(9,18)] .n) .n))))) (.two (.join [] [(36,47)] .n) .n))) c
noncomputable def pL(a:Int):Prop:=
 aB xB (qq 77 5 #[(0,ahH),(1,ahI),(2,Zt),(3,ahJ),(4,HU)]) aI h λe f=>
 ae xB 14 #[a,(xq xx 5)] bw f λc b=>
 aQ e c λa3=>
 AE b (a3.add (c.toNat*1)) λd=>
 R d b
theorem Bz(a:Int)(b:@pL R h a):ac xB 134 #[a] h R:=aw af func134 .n b
noncomputable def pM(c:Int)(b:Int):Prop:=
 aL (σ:=Sl×Int) (λa g d=>
 Br (a.2<c)
 (((7:Int)≠0)/\
 (0<=(wk a.2 7))/\
 aB xB (qq 71 1 #[(0,(xq xy (qc xy (qc xx ((qX b (2^min (wk a.2 7).toNat (qk xx)))+(qc xx (a.2*(qc xx ((qD (qk xx) b|||(qD (qk xx) (1:Int))).toNat:Nat)))))))))]) aI d λf e=>
 aB xB (qt #[71,71] 71 #[a.1,f]) aI e λv3 h3=>
 g ((⟨v3.ptr,v3.len,v3.cap⟩:Sl),qc xx (a.2+1)) h3)
 (R a.1 d)) ((⟨eH,0,0⟩:Sl),(0:Int)) h
theorem BA(a:Int)(b:Int)(c:@pM R h a b):ac xB 135 #[a,b] h R:=aw af func135 (al.tn (al.tn (.two (al.tn (.inn (.loop [(5,cy),(6,aZ)] [(5,25)] .n))) .n))) c
noncomputable def KC(d:ByteArray):Prop:=
 aB xB (convert 9 71 d) aI h λf g=>
 aL (σ:=Int) (λb e a=>
 Br (b<(f.len:Int))
 (aQ f b λa3=>
 gv .u8 a (a3.add (b.toNat*1)) λc=>
 Br (c<97) (Br (c<48) (Br (c !=45)
 (R eS a)
 (e (qc xx (b+1)) a)) (Br (c>57) (Br (c !=45)
 (R eS a)
 (e (qc xx (b+1)) a)) (e (qc xx (b+1)) a))) (Br (c>122) (Br (c<48) (Br (c !=45)
 (R eS a)
 (e (qc xx (b+1)) a)) (Br (c>57) (Br (c !=45)
 (R eS a)
 (e (qc xx (b+1)) a)) (e (qc xx (b+1)) a))) (e (qc xx (b+1)) a)))
 (Br ((d.size:Int)>=1) (R (decide ((d.size:Int)<=12)) a) (R eS a))) (0:Int) g
theorem Sb(a:ByteArray)(b:@KC R h a):ac xB 136 #[a] h R:=aw af func136 (al.tn (.two (al.tn (.inn (.loop [(8,aZ)] [(2,3),(4,5),(8,31)] .n))) .n)) b
noncomputable def KD(g:bS)(a:Int)(b:Int):Prop:=
 aT xB (qM 26 g) h λc k=>
 aL (σ:=Int) (λd j e=>
 Br (d<16)
 (∃x3:bS,aq e c 0 x3/\
 ae xB 48 #[a,b,d] (.one (.sc (.int .u32))) e λi h3=>
 (az.ok [(c,x3.1),(c.add 1,x3.2.1),(c.add 2,x3.2.2)] h3)/\
 ae xB 198 #[x3,(xq xz i)] bN h3 λl f=>
 (az.ok [] f)/\
 Br l
 (R (.tuple #[d,eR]) f)
 (j (qc xx (d+1)) f))
 (R (.tuple #[(xq xx 0),eS]) e)) (0:Int) k
theorem Se(c:bS)(a:Int)(b:Int)(d:@KD R h c a b):ac xB 137 #[c,a,b] h R:=aw af func137 (al.tn (.two (al.tn (.inn (.loop [(9,aZ)] [(6,20)] .n))) .n)) d
noncomputable def AN(a:bS):Prop:=
 aT xB (qM 26 a) h λc b=>
 be b c λx2=>
 be b (c.add 2) λx3=>
 R (qc xx (x2*x3)) b
theorem DI(a:bS)(b:@AN R h a):ac xB 138 #[a] h R:=aw af func138 .n b
noncomputable def Gm(f:bS)(a:Sl):Prop:=
 aT xB (qM 26 f) h λe j=>
 ∃x2:bS,aq j e 0 x2/\
 ae xB 82 #[x2,(xq xx (a.len:Int))] bw j λq r=>
 aL (σ:=Sl×Int) (λb s h3=>
 Br (b.2<q)
 (∃n:bS,aq h3 e 0 n/\
 ae xB 138 #[n] bw h3 λk u=>
 aB xB (qF 71 k k) aI u λm l=>
 ∃i:bS,aq l e 0 i/\
 ae xB 138 #[i] bw l λd o=>
 (0<=(qc xx (b.2*d))/\(qc xx (b.2*d))<=(a.len:Int))/\
 aB xB (yq #[71,71] 3 #[m,(.slice (if a.cap=(qc xx (b.2*d)).toNat then a.ptr else a.ptr.map (·.add ((qc xx (b.2*d)).toNat*1))) (a.len-(qc xx (b.2*d)).toNat) (a.cap-(qc xx (b.2*d)).toNat))]) bw o λ_ p=>
 aB xB (qq 56 1 #[(0,m)]) aI p λg h8=>
 aB xB (qt #[56,56] 56 #[b.1,g]) aI h8 λc t=>
 s ((⟨c.ptr,c.len,c.cap⟩:Sl),qc xx (b.2+1)) t)
 (R b.1 h3)) ((⟨eH,0,0⟩:Sl),(0:Int)) r
theorem Np(a:bS)(b:Sl)(c:@Gm R h a b):ac xB 139 #[a,b] h R:=aw af func139 (al.tn (al.tn (.two (al.tn (.inn (.loop [(5,cy),(12,aZ)] [(5,8),(12,31)] .n))) .n))) c
noncomputable def If(H:bS)(d:Int)(a:Sl):Prop:=
 aT xB (qM 26 H) h λc M=>
 bg (σ:=Unit) (λ_ h3=>
 ∃N:bS,aq h3 c 0 N/\
 ae xB 198 #[N,(xq xz d)] bN h3 λY K=>
 Br (!Y)
 (R (.tuple #[(xt eH),(xq xx 8)]) K)
 (be K (c.add 1) λZ=>
 aL (σ:=Sl×Int) (λf U x=>
 Br (f.2<Z)
 (be x (c.add 2) λw=>
 aB xB (qF 71 w w) aI x λy O=>
 aB xB (qq 56 1 #[(0,y)]) aI O λI Q=>
 aB xB (qt #[56,56] 56 #[f.1,I]) aI Q λl h8=>
 U ((⟨l.ptr,l.len,l.cap⟩:Sl),qc xx (f.2+1)) h8)
 (be x c λz=>
 aL (σ:=Sl×Int) (λb T p=>
 Br (b.2<z)
 (be p (c.add 2) λg=>
 be p (c.add 2) λo=>
 (0<=(qc xx (b.2*g))/\(qc xx (b.2*g))<=(qc xx ((qc xx (b.2+1))*o))/\(qc xx ((qc xx (b.2+1))*o))<=(a.cap:Int))/\
 aB xB (qq 56 1 #[(0,(.slice (if a.cap=(qc xx (b.2*g)).toNat then a.ptr else a.ptr.map (·.add ((qc xx (b.2*g)).toNat*1))) ((qc xx ((qc xx (b.2+1))*o)).toNat-(qc xx (b.2*g)).toNat) (a.cap-(qc xx (b.2*g)).toNat)))]) aI p λE D=>
 aB xB (qt #[56,56] 56 #[b.1,E]) aI D λn F=>
 T ((⟨n.ptr,n.len,n.cap⟩:Sl),qc xx (b.2+1)) F)
 (bg (σ:=Sl×Int) (λt m=>
 Br (t.2 !=0)
 (R (.tuple #[(xt eH),(xq xx 8)]) m)
 (∃j:bS,aq m c 0 j/\
 aT xB (qM 259 (xw #[j.1,j.2.1,j.2.2,(xq xz d),t.1])) m λJ L=>
 R (.tuple #[J,(xq xx 0)]) L))
 (λX=>
 ∃e:bS,aq p c 0 e/\
 ∃i:bS,aq p c 0 i/\
 ae xB 109 #[] jt p λA r=>
 (az.ok [(c,i.1),(c.add 1,i.2.1),(c.add 2,i.2.2),(c,e.1),(c.add 1,e.2.1),(c.add 2,e.2.2)] r)/\
 ae xB 200 #[i] aI r λG s=>
 (az.ok [(c,e.1),(c.add 1,e.2.1),(c.add 2,e.2.2)] s)/\
 ae xB 110 #[e,(xq xz d),G] aI s λB v=>
 (az.ok [] v)/\
 ae xB 199 #[A,B,b.1] (.many [cy,aZ]) v λk q=>
 (az.ok [] q)/\
 X ((⟨k.1.ptr,k.1.len,k.1.cap⟩:Sl),k.2) q))) ((⟨f.1.ptr,f.1.len,f.1.cap⟩:Sl),(0:Int)) x)) ((⟨eH,0,0⟩:Sl),(0:Int)) K))
 (λV=>
 ∃x2:bS,aq M c 0 x2/\
 ae xB 73 #[x2] bN M λS u=>
 Br (!S) (R (.tuple #[(xt eH),(xq xx 1)]) u) (be u c λP=>
 be u (c.add 2) λW=>
 Br ((a.len:Int) !=(qc xx (P*W)))
 (R (.tuple #[(xt eH),(xq xx 1)]) u)
 (V () u)))
theorem Pz(c:bS)(b:Int)(a:Sl)(d:@If R h c b a):ac xB 140 #[c,(xq xz b),a] h R:=aw af func140 (al.tn (.two (.join [] [(6,8),(12,25)] .n) (al.tn (al.tn (.two (al.tn (.inn (.loop [(8,cy),(31,aZ)] [(8,9),(31,40)] .n))) (.two (al.tn (.inn (.loop [(8,cy),(42,aZ)] [(8,10),(42,60)] .n))) (.two (.join [(10,cy),(11,aZ)] [(10,12),(60,71)] .n) .n))))))) d
noncomputable def Gn(a:Int)(b:Int)(c:Sl):Prop:=
 bg (σ:=Unit) (λ_ H=>
 ((64:Int)≠0)/\
 ae xB 201 #[(wk (qc xx ((qc xx (8*a))+b)) 64)] (.one (.sc (.cpx .f64))) H λA I=>
 aT xB (qL 263 eR (.tuple #[])) I λa3 h3=>
 aL (σ:=Sl×Int) (λe D l=>
 Br (e.2<(c.len:Int))
 (aQ c e.2 λa5=>
 be l (a5.add (e.2.toNat*1)) λf=>
 bg (σ:=Bool) (λG B=>
 Br G
 ((0<=f/\f<((64:Nat):Int))/\
 ag xB (qf 4 (a3.add (f.toNat*1)) eR) B λ_ E=>
 ae xB 201 #[f] (.one (.sc (.cpx .f64))) E λz F=>
 ae xB 202 #[(.complex .f64 z.1 z.2),(.complex .f64 A.1 A.2)] (.one (.sc (.flt .f64))) F λq h8=>
 aB xB (qq 262 1 #[(0,(xw #[f,(.float .f64 q)]))]) aI h8 λv K=>
 aB xB (qt #[262,262] 262 #[e.1,v]) aI K λi y=>
 D ((⟨i.ptr,i.len,i.cap⟩:Sl),qc xx (e.2+1)) y)
 (D ((⟨e.1.ptr,e.1.len,e.1.cap⟩:Sl),qc xx (e.2+1)) B))
 (λw=>
 Br (f>=0) (Br (f<64) ((0<=f/\f<((64:Nat):Int))/\
 sB l (a3.add (f.toNat*1)) λL=>
 w (!L) l) (w eS l)) (w eS l)))
 (ae xB 203 #[e.1,(.func (.func 204) #[] #[])] iF l λ_ u=>
 aL (σ:=Sl×Int) (λd M j=>
 Br (d.2<(e.1.len:Int))
 (aQ e.1 d.2 λr=>
 ∃g:Int×Nat,aq j (r.add (d.2.toNat*2)) 0 [g.1,(.float .f64 g.2)]/\
 aT xB (qL 267 eR (.tuple #[])) j λm s=>
 ag xB (qf 267 m (xw #[g.1,(.float .f64 g.2)])) s λ_ n=>
 be n m λx=>
 aB xB (qq 22 1 #[(0,x)]) aI n λt p=>
 aB xB (qt #[22,22] 22 #[d.1,t]) aI p λk o=>
 M ((⟨k.ptr,k.len,k.cap⟩:Sl),qc xx (d.2+1)) o)
 (R d.1 j)) ((⟨eH,0,0⟩:Sl),(0:Int)) u)) ((⟨eH,0,0⟩:Sl),(0:Int)) h3)
 (λJ=>
 Br (a<0) (R (xr eH 0 0) h) (Br (a>16777215) (R (xr eH 0 0) h) (Br (b<0) (R (xr eH 0 0) h) (Br (b>=8)
 (R (xr eH 0 0) h)
 (J () h)))))
theorem Nq(a:Int)(b:Int)(c:Sl)(d:@Gn R h a b c):ac xB 141 #[a,b,c] h R:=aw af func141 (al.tn (.two (.join [] [(6,7),(15,29)] .n) (al.tn (al.tn (al.tn (.two (al.tn (.inn (.loop [(8,cy),(37,aZ)] [(8,9),(11,12),(37,65)] (al.tn (al.tn (.two (.inn (al.tn (.two (.join [(52,iR)] [(41,53)] .n) .n))) .n)))))) (al.tn (al.tn (.two (al.tn (.inn (.loop [(12,cy),(69,aZ)] [(12,13),(14,15),(69,79)] .n))) .n))))))))) d
noncomputable def pN(c:aM)(b:Int):Prop:=
 bg (σ:=Unit) (λ_ u=>
 ∃s,(c=dB s)/\
 be u (s.add 2) λx3=>
 aB xB (qF 71 x3 x3) aI u λv4 p=>
 ∃a5,(c=dB a5)/\
 ∃w:bS,aq p a5 0 w/\
 ∃v,(c=dB v)/\
 gv .u32 p (v.add 3) λy=>
 ae xB 164 #[w,(xq xz y),b] aI p λt h3=>
 (az.ok [] h3)/\
 aL (σ:=Int) (λd z i=>
 Br (d<(t.len:Int))
 (aQ t d λk=>
 be i (k.add (d.toNat*1)) λg=>
 ∃e,(c=dB e)/\
 bj i (e.add 4) λn=>
 aQ n g λm=>
 bj i (m.add (g.toNat*1)) λf=>
 aL (σ:=Int) (λa B j=>
 Br (a<(f.len:Int))
 (aQ f a λq=>
 gv .u8 j (q.add (a.toNat*1)) λl=>
 aQ v4 a λo=>
 gv .u8 j (o.add (a.toNat*1)) λr=>
 aQ v4 a λa22=>
 ag xB (qf 5 (a22.add (a.toNat*1)) (xq xy (qc xy ((qD (qk xy) r^^^(qD (qk xy) l)).toNat:Nat)))) j λ_ x=>
 B (qc xx (a+1)) x)
 (z (qc xx (d+1)) j)) (0:Int) i)
 (R v4 i)) (0:Int) h3)
 (λA=>
 Br (qT c) (R (xr eH 0 0) h) (Br (b<0) (R (xr eH 0 0) h) (Br (b>65535)
 (R (xr eH 0 0) h)
 (A () h))))
theorem BB(b:aM)(a:Int)(c:@pN R h b a):ac xB 142 #[b,a] h R:=aw af func142 (al.tn (.two (.join [] [(4,5),(10,20)] .n) (al.tn (.two (al.tn (.inn (.loop [(37,aZ)] [(7,10),(37,63)] (al.tn (al.tn (.two (.inn (al.tn (al.tn (.inn (.loop [(49,aZ)] [(8,10),(49,62)] .n))))) .n)))))) .n)))) c
noncomputable def Nr(a:Sl)(b:Int):Prop:=
 bg (σ:=Unit) (λ_ c=>
 ((a.len:Int)≠0)/\
 aQ a (wk b (a.len:Int)) λe=>
 be c (e.add ((wk b (a.len:Int)).toNat*1)) λx3=>
 R x3 c)
 (λd=>
 Br ((a.len:Int)==0) (R (xq xx (-1:Int)) h) (Br (b<0)
 (R (xq xx (-1:Int)) h)
 (d () h)))
theorem Un(a:Sl)(b:Int)(c:@Nr R h a b):ac xB 143 #[a,b] h R:=aw af func143 (al.tn (.two (.join [] [(4,12)] .n) .n)) c
noncomputable def jb(b:Sl)(a:cE):Prop:=
 ae xB 155 #[(xq xA (qc xA (b.len:Int)))] bw h λd e=>
 ae xB 208 #[b,(xq xx 0),(xq xx (b.len:Int)),d,(.func (.func a.1) a.2.1 a.2.2)] iF e λ_ c=>
 R (.tuple #[]) c
theorem mM(b:Sl)(a:cE)(c:@jb R h b a):ac xB 144 #[b,(.func (.func a.1) a.2.1 a.2.2)] h R:=aw af func144 .n c
noncomputable def DJ(b:iE)(c:iE):Prop:=
 aT xB (qM 94 b) h λd g=>
 aT xB (qM 94 c) g λf a=>
 AE a d λx3=>
 AE a f λe=>
 ae xB 146 #[x3,e] bw a λi h3=>
 R i h3
theorem LA(a:iE)(b:iE)(c:@DJ R h a b):ac xB 145 #[a,b] h R:=aw af func145 .n c
noncomputable def rI(a:ByteArray)(b:ByteArray):Prop:=
 ae xB 209 #[a] bN h λe f=>
 ae xB 209 #[b] bN f λd c=>
 Br e
 (Br d
 (R (xq xx 0) c)
 (R (xq xx (-1:Int)) c))
 (Br d
 (R (xq xx 1) c)
 (Br (Op.bytesLess a.toList b.toList)
 (R (xq xx (-1:Int)) c)
 (Br (!(Op.bytesLess a.toList b.toList||a.toList==b.toList))
 (R (xq xx 1) c)
 (R (xq xx 0) c))))
theorem CR(a:ByteArray)(b:ByteArray)(c:@rI R h a b):ac xB 146 #[a,b] h R:=aw af func146 .n c
noncomputable def iI(b:Sl)(a:cE):Prop:=
 ae xB 210 #[b,(.func (.func a.1) a.2.1 a.2.2)] bw h λc d=>
 R (decide (c>=0)) d
theorem kF(b:Sl)(a:cE)(c:@iI R h b a):ac xB 147 #[b,(.func (.func a.1) a.2.1 a.2.2)] h R:=aw af func147 .n c
noncomputable def rJ(b:Int)(a:f7)(d:f7):Prop:=
 jU h a λg=>
 ∃i,(g=dB i)/\
 (0<=b/\b<((64:Nat):Int))/\
 jU h ((i.add 10).add (b.toNat*1)) λx3=>
 jU h a λf=>
 ∃a5,(f=dB a5)/\
 ∃c:cU,aq h a5 0 c/\
 ∃e:cE,cellOf h d=dB (.func (.func e.1) e.2.1 e.2.2)/\
 gY C e.1 (e.2.1.toList++[(xq xx b)]++e.2.2.toList) bw h λl k=>
 (az.ok [(a5,c.1),(a5.add 1,c.2.1),(a5.add 2,c.2.2.1),(a5.add 3,c.2.2.2.1),(a5.add 4,c.2.2.2.2.1),(a5.add 5,c.2.2.2.2.2.1),(a5.add 6,c.2.2.2.2.2.2.1),(a5.add 7,c.2.2.2.2.2.2.2),(a,f),((i.add 10).add (b.toNat*1),x3),(a,g)] k)/\
 ae xB 149 #[x3,c,l] bN k λm j=>
 (az.ok [(a,f),(a,g)] j)/\
 R (xv (!m)) j
theorem CS(c:Int)(a:f7)(b:f7)(d:@rJ R h c a b):ac xB 148 #[c,a,b] h R:=aw af func148 .n d
noncomputable def CT(a:aM)(c:cU)(b:Int):Prop:=
 aT xB (qM 29 c) h λi e=>
 bg (σ:=Unit) (λ_ h3=>
 ae xB 212 #[a] bw h3 λn p=>
 ae xB 211 #[a,n,b] bN p λr d=>
 Br r (R eR d) (∃f:cU,aq d i 0 f/\
 ae xB 30 #[a,f] aI d λm j=>
 ae xB 211 #[a,(xq xx (m.len:Int)),b] bN j λq k=>
 R q k))
 (λo=>
 Br (qT a) (R eS e) (ae xB 61 #[a] bN e λl g=>
 Br l
 (R eS g)
 (o () g)))
theorem Gp(c:aM)(b:cU)(a:Int)(d:@CT R h c b a):ac xB 149 #[c,b,a] h R:=aw af func149 (al.tn (.two (.join [] [(6,13)] .n) .n)) d
noncomputable def CU(a:aM)(e:cU)(b:Int):Prop:=
 aT xB (qM 29 e) h λf k=>
 bg (σ:=Unit) (λ_ j=>
 ∃l:cU,aq j f 0 l/\
 ae xB 30 #[a,l] aI j λc h8=>
 ae xB 65 #[a,c] bw h8 λd v=>
 R d v)
 (λu=>
 bg (σ:=Bool) (λo h3=>
 Br o
 (R (xq xx 5) h3)
 (∃i:cU,aq h3 f 0 i/\
 ae xB 149 #[a,i,b] bN h3 λw n=>
 Br (!w)
 (R (xq xx 7) n)
 (ae xB 212 #[a] bw n λq s=>
 ae xB 211 #[a,q,b] bN s λr g=>
 Br r
 (R (xq xx 0) g)
 (u () g))))
 (λm=>
 Br (qT a) (m eR k) (ae xB 61 #[a] bN k λp t=>
 m p t)))
theorem Gq(c:aM)(b:cU)(a:Int)(d:@CU R h c b a):ac xB 150 #[c,b,a] h R:=aw af func150 (al.tn (.two (.join [] [(6,26)] (.inn (.two (.join [(7,iR)] [(7,14)] .n) .n))) .n)) d
noncomputable def fG(c:Sl)(a:cE):Prop:=
 aL (σ:=Int) (λb g d=>
 Br (b<(c.len:Int))
 (aQ c b λi=>
 ∃x3:iE,aq d (i.add (b.toNat*4)) 0 x3/\
 gY C a.1 (a.2.1.toList++[(xw #[x3.1,x3.2.1,x3.2.2.1,x3.2.2.2])]++a.2.2.toList) bN d λf e=>
 Br f
 (R b e)
 (g (qc xx (b+1)) e))
 (R (xq xx (-1:Int)) d)) (0:Int) h
theorem im(b:Sl)(a:cE)(c:@fG R h b a):ac xB 151 #[b,(.func (.func a.1) a.2.1 a.2.2)] h R:=aw af func151 (al.tn (.two (al.tn (.inn (.loop [(8,aZ)] [(4,6),(8,19)] .n))) .n)) c
noncomputable def rK(b:iE)(a:f7):Prop:=
 aT xB (qM 94 b) h λd c=>
 AE c d λx2=>
 AE c a λx3=>
 R (xv (x2.toList==x3.toList)) c
theorem CV(b:iE)(a:f7)(c:@rK R h b a):ac xB 152 #[b,a] h R:=aw af func152 .n c
noncomputable def oM(b:Int)(a:f7):Prop:=
 be h a λc=>
 R c h
theorem AO(b:Int)(a:f7)(c:@oM R h b a):ac xB 153 #[b,a] h R:=aw af func153 .n c
noncomputable def gH(b:Sl)(a:cE):Prop:=
 ae xB 224 #[b,(.func (.func a.1) a.2.1 a.2.2)] bw h λc d=>
 R (decide (c>=0)) d
theorem kV(b:Sl)(a:cE)(c:@gH R h b a):ac xB 158 #[b,(.func (.func a.1) a.2.1 a.2.2)] h R:=aw af func158 .n c
noncomputable def AP(b:Int×Sl)(a:f7):Prop:=
 aT xB (qM 99 b) h λd c=>
 ∃x2:bS,aq c a 0 x2/\
 ∃x3:Int×Sl,aq c d 0 x3/\
 ae xB 160 #[x2,x3] bN c λf e=>
 R (xv (!f)) e
theorem Ig(b:Int×Sl)(a:f7)(c:@AP R h b a):ac xB 159 #[b,a] h R:=aw af func159 .n c
noncomputable def DL(d:bS)(b:Int×Sl):Prop:=
 aT xB (qM 26 d) h λf i=>
 aT xB (qM 99 b) i λc a=>
 be a c λx3=>
 Br (x3>=0) (be a c λg=>
 Br (g<=65535) (bj a (c.add 1) λj=>
 be a (f.add 2) λe=>
 R (xv ((j.len:Int)==e)) a) (R eS a)) (R eS a)
theorem LB(a:bS)(b:Int×Sl)(c:@DL R h a b):ac xB 160 #[a,b] h R:=aw af func160 .n c
noncomputable def Gr(f:bS)(a:Int)(c:Sl):Prop:=
 aT xB (qM 26 f) h λd j=>
 ∃x2:bS,aq j d 0 x2/\
 ae xB 73 #[x2] bN j λm b=>
 (az.ok [] b)/\
 Br m (∃g:bS,aq b d 0 g/\
 ∃e:bS,aq b d 0 e/\
 ae xB 51 #[g,(xq xz a),c] bw b λl h3=>
 (az.ok [(d,e.1),(d.add 1,e.2.1),(d.add 2,e.2.2)] h3)/\
 ae xB 116 #[e] bw h3 λk i=>
 (az.ok [] i)/\
 R (xv (l==k)) i) ((az.ok [] b)/\
 (az.ok [] b)/\
 R eS b)
theorem Ns(c:bS)(a:Int)(b:Sl)(d:@Gr R h c a b):ac xB 161 #[c,(xq xz a),b] h R:=aw af func161 .n d
noncomputable def Ih(b:Sl):Prop:=
 aL (σ:=Sl×Int) (λa i d=>
 Br (a.2<(b.len:Int))
 (aQ b a.2 λl=>
 ∃x3:Int×Sl,aq d (l.add (a.2.toNat*2)) 0 x3/\
 aT xB (qL 99 eR (.tuple #[])) d λa4 f=>
 ag xB (qf 99 a4 x3) f λ_ h3=>
 be h3 a4 λj=>
 aB xB (qq 22 1 #[(0,j)]) aI h3 λg k=>
 aB xB (qt #[22,22] 22 #[a.1,g]) aI k λc e=>
 i ((⟨c.ptr,c.len,c.cap⟩:Sl),qc xx (a.2+1)) e)
 (R a.1 d)) ((⟨eH,0,0⟩:Sl),(0:Int)) h
theorem PA(a:Sl)(b:@Ih R h a):ac xB 162 #[a] h R:=aw af func162 (al.tn (al.tn (.two (al.tn (.inn (.loop [(3,cy),(8,aZ)] [(3,4),(5,6),(8,18)] .n))) .n))) b
noncomputable def Ii(P:bS)(e:Int)(y:Sl):Prop:=
 aT xB (qM 26 P) h λc h1=>
 aL (σ:=Sl×Int) (λl K1 B=>
 Br (l.2<(y.len:Int))
 (aQ y l.2 λa3=>
 ∃X:Int×Sl,aq B (a3.add (l.2.toNat*2)) 0 X/\
 aT xB (qL 99 eR (.tuple #[])) B λa5 h3=>
 ag xB (qf 99 a5 X) h3 λ_ D=>
 ∃Z:bS,aq D c 0 Z/\
 be D a5 λx7=>
 bj D (a5.add 1) λA=>
 ae xB 164 #[Z,(xq xz e),x7] aI D λr9 h5=>
 (az.ok [(a5.add 1,A)] h5)/\
 aB xB (qq 287 1 #[(0,(xw #[r9,A]))]) aI h5 λI W=>
 (az.ok [(a5.add 1,A)] W)/\
 aB xB (qt #[287,287] 287 #[l.1,I]) aI W λk Y=>
 (az.ok [(a5.add 1,A)] Y)/\
 K1 ((⟨k.ptr,k.len,k.cap⟩:Sl),qc xx (l.2+1)) Y)
 (bg (σ:=aM) (λa z=>
 ∃t:bS,aq z c 0 t/\
 ae xB 116 #[t] bw z λE O=>
 ae xB 225 #[E,l.1] (.many [cy,cy,cy,aZ]) O λi n=>
 Br (i.2.2.2 !=0)
 (R (.tuple #[(xr eH 0 0),(xq xx 10)]) n)
 (∃m,(a=dB m)/\
 ag xB (qf 56 (m.add 4) i.2.1) n λ_ M=>
 ∃w,(a=dB w)/\
 ag xB (qf 287 (w.add 5) i.2.2.1) M λ_ T=>
 ae xB 226 #[a,i.1] iF T λ_ J=>
 ae xB 227 #[a] iF J λ_ F=>
 ae xB 228 #[a] iF F λ_ V=>
 ae xB 229 #[a] (.many [cy,cy]) V λg d=>
 ∃a25,(a=dB a25)/\
 bj d ((a25.add 6).add 1) λN=>
 Br ((N.len:Int)==0)
 (aL (σ:=Int) (λf K3 j=>
 Br (f<(g.2.len:Int))
 (aQ g.2 f λa28=>
 bj j (a28.add (f.toNat*1)) λS=>
 ae xB 230 #[S,abV] aI j λQ s=>
 Br ((Q.len:Int)>0)
 (R (.tuple #[(xr eH 0 0),(xq xx 10)]) s)
 (K3 (qc xx (f+1)) s))
 (ae xB 231 #[a,(xr eH 0 0)] iF j λ_ p=>
 ∃q,(a=dB q)/\
 bj p (q.add 4) λH=>
 R (.tuple #[H,(xq xx 0)]) p)) (0:Int) d)
 (∃u,(a=dB u)/\
 jU d u λL=>
 ae xB 199 #[L,g.1,g.2] (.many [cy,aZ]) d λx v=>
 Br (x.2 !=0)
 (R (.tuple #[(xr eH 0 0),(xq xx 10)]) v)
 (ae xB 231 #[a,x.1] iF v λ_ o=>
 ∃r,(a=dB r)/\
 bj o (r.add 4) λK=>
 R (.tuple #[K,(xq xx 0)]) o))))
 (λK2=>
 ∃b:bS,aq B c 0 b/\
 ae xB 109 #[] jt B λU h8=>
 (az.ok [(c,b.1),(c.add 1,b.2.1),(c.add 2,b.2.2)] h8)/\
 aT xB (qM 295 (xw #[U,b.1,b.2.1,b.2.2,(xr eH 0 0),(xr eH 0 0),(xr eH 0 0),(xr eH 0 0),(xr eH 0 0),(xr eH 0 0),(xr eH 0 0)])) h8 λG h9=>
 (az.ok [(c,b.1),(c.add 1,b.2.1),(c.add 2,b.2.2)] h9)/\
 K2 (dB G) h9))) ((⟨eH,0,0⟩:Sl),(0:Int)) h1
theorem PB(c:bS)(a:Int)(b:Sl)(d:@Ii R h c a b):ac xB 163 #[c,(xq xz a),b] h R:=aw af func163 (al.tn (.fwd (al.tn (.two (al.tn (.inn (.loop [(8,cy),(23,aZ)] [(8,9),(10,11),(23,39)] .n))) (.two (.join [(11,FX)] [(11,12),(39,43)] .n) .n))) [(0,[.n]),(1,[(.two (al.tn (.inn (.loop [(95,aZ)] [(20,21),(95,104)] .n))) .n)]),(2,[.n])])) d
noncomputable def QP(f:bS)(b:Int)(a:Int):Prop:=
 aT xB (qM 26 f) h λi j=>
 bg (σ:=Unit) (λ_ h3=>
 ∃l:bS,aq h3 i 0 l/\
 ae xB 116 #[l] bw h3 λk t=>
 ae xB 232 #[(xq xz (qc xz ((qD (qk xz) b^^^(qD (qk xz) (qc xz ((qc xz a)*2654435761)))).toNat:Nat)))] jt t λg q=>
 ae xB 233 #[g] (.one (.sc (.int .u32))) q λ_ m=>
 ae xB 235 #[k] aI m λo n=>
 ae xB 234 #[o,g] bw n λd h8=>
 ae xB 236 #[g,k,d] aI h8 λe s=>
 R e s)
 (λr=>
 ∃x2:bS,aq j i 0 x2/\
 ae xB 73 #[x2] bN j λp c=>
 Br (!p) (R (xr eH 0 0) c) (Br (a<0) (R (xr eH 0 0) c) (Br (a>65535)
 (R (xr eH 0 0) c)
 (r () c))))
theorem WA(c:bS)(a:Int)(b:Int)(d:@QP R h c a b):ac xB 164 #[c,(xq xz a),b] h R:=aw af func164 (al.tn (.two (.join [] [(6,7),(10,21)] .n) .n)) d
noncomputable def QQ(c:Sl):Prop:=
 aL (σ:=Int×Int) (λb g e=>
 Br (b.2<(c.len:Int))
 (aQ c b.2 λi=>
 gv .u8 e (i.add (b.2.toNat*1)) λx3=>
 aL (σ:=Int×Int) (λa f d=>
 Br (a.2<8)
 ((0<=(1:Int))/\
 Br ((qc xz ((qD (qk xz) a.1&&&(qD (qk xz) (1:Int))).toNat:Nat))==1)
 (f (qc xz ((qD (qk xz) (qX a.1 (2^min (1:Int).toNat (qk xz)))^^^(qD (qk xz) (3988292384:Int))).toNat:Nat),qc xx (a.2+1)) d)
 (f (qX a.1 (2^min (1:Int).toNat (qk xz)),qc xx (a.2+1)) d))
 (g (a.1,qc xx (b.2+1)) d)) (qc xz ((qD (qk xz) b.1^^^(qD (qk xz) (qc xz x3))).toNat:Nat),(0:Int)) e)
 (R (xq xz (qc xz ((qD (qk xz) (4294967295:Int)^^^(qD (qk xz) b.1)).toNat:Nat))) e)) ((4294967295:Int),(0:Int)) h
theorem WB(a:Sl)(b:@QQ R h a):ac xB 165 #[a] h R:=aw af func165 (al.tn (al.tn (.two (al.tn (.inn (.loop [(3,(.sc (.int .u32))),(9,aZ)] [(3,4),(5,7),(9,29)] (al.tn (al.tn (.two (.inn (al.tn (al.tn (al.tn (.inn (.loop [(3,(.sc (.int .u32))),(17,aZ)] [(3,4),(6,7),(17,28)] .n)))))) .n)))))) .n))) b
noncomputable def Gs(y:Sl):Prop:=
 aT xB (qL 164 eR (.tuple #[])) h λf h1=>
 ae xB 42 #[y] (.many [aZ,cy,iR]) h1 λa h2=>
 bg (σ:=Unit) (λ_ h5=>
 bg (σ:=f7) (λb ab=>
 bg (σ:=Unit) (λ_ a2=>
 (0<=(9:Int)/\(9:Int)<=(13:Int)/\(13:Int)<=(a.2.1.cap:Int))/\
 ae xB 237 #[(.slice (if a.2.1.cap=(9:Int).toNat then a.2.1.ptr else a.2.1.ptr.map (·.add ((9:Int).toNat*1))) ((13:Int).toNat-(9:Int).toNat) (a.2.1.cap-(9:Int).toNat))] bw a2 λay W=>
 ag xB (qf 34 (b.add 6) (xq xz (qc xz ay))) W λ_ t=>
 ∃J:bS,aq t (b.add 3) 0 J/\
 ae xB 73 #[J] bN t λar j=>
 Br (!ar)
 (ag xB (qf 164 f (xw #[(xq xx 0),(xq xx 0),(xq xx 0),(xq xx 0),(xq xx 0),(xq xx 0),(xq xz 0),(xr eH 0 0)])) j λ_ K=>
 ∃c:fe,aq K f 0 c/\
 R (.tuple #[c,eS]) K)
 (be j ((b.add 3).add 2) λk=>
 (0<=(13:Int)/\(13:Int)<=(qc xx (13+k))/\(qc xx (13+k))<=(a.2.1.cap:Int))/\
 ae xB 101 #[(.slice (if a.2.1.cap=(13:Int).toNat then a.2.1.ptr else a.2.1.ptr.map (·.add ((13:Int).toNat*1))) ((qc xx (13+k)).toNat-(13:Int).toNat) (a.2.1.cap-(13:Int).toNat))] aI j λap ad=>
 ag xB (qf 71 (b.add 7) ap) ad λ_ m=>
 ∃r:fe,aq m b 0 r/\
 ae xB 132 #[r] aI m λZ Y=>
 ae xB 64 #[y,Z] bN Y λS l=>
 Br (!S)
 (ag xB (qf 164 f (xw #[(xq xx 0),(xq xx 0),(xq xx 0),(xq xx 0),(xq xx 0),(xq xx 0),(xq xz 0),(xr eH 0 0)])) l λ_ O=>
 ∃d:fe,aq O f 0 d/\
 R (.tuple #[d,eS]) O)
 (∃q:fe,aq l b 0 q/\
 ag xB (qf 164 f q) l λ_ n=>
 ∃e:fe,aq n f 0 e/\
 R (.tuple #[e,eR]) n)))
 (λK3=>
 (0<=(6:Int)/\(6:Int)<=(7:Int)/\(7:Int)<=(a.2.1.cap:Int))/\
 (0<=(7:Int)/\(7:Int)<=(8:Int)/\(8:Int)<=(a.2.1.cap:Int))/\
 (0<=(8:Int)/\(8:Int)<=(9:Int)/\(9:Int)<=(a.2.1.cap:Int))/\
 ae xB 237 #[(.slice (if a.2.1.cap=(6:Int).toNat then a.2.1.ptr else a.2.1.ptr.map (·.add ((6:Int).toNat*1))) ((7:Int).toNat-(6:Int).toNat) (a.2.1.cap-(6:Int).toNat))] bw ab λa3 D=>
 (az.ok [] D)/\
 ae xB 237 #[(.slice (if a.2.1.cap=(7:Int).toNat then a.2.1.ptr else a.2.1.ptr.map (·.add ((7:Int).toNat*1))) ((8:Int).toNat-(7:Int).toNat) (a.2.1.cap-(7:Int).toNat))] bw D λax o=>
 (az.ok [] o)/\
 ae xB 237 #[(.slice (if a.2.1.cap=(8:Int).toNat then a.2.1.ptr else a.2.1.ptr.map (·.add ((8:Int).toNat*1))) ((9:Int).toNat-(8:Int).toNat) (a.2.1.cap-(8:Int).toNat))] bw o λX v=>
 (az.ok [] v)/\
 ag xB (qf 26 (b.add 3) (xw #[a3,ax,X])) v λ_ G=>
 (az.ok [] G)/\
 K3 () G))
 (λQ=>
 (0<=(3:Int)/\(3:Int)<=(a.2.1.cap:Int))/\
 (0<=(3:Int)/\(3:Int)<=(4:Int)/\(4:Int)<=(a.2.1.cap:Int))/\
 (0<=(4:Int)/\(4:Int)<=(6:Int)/\(6:Int)<=(a.2.1.cap:Int))/\
 (ae xB 237 #[(xr a.2.1.ptr ((3:Int).toNat) a.2.1.cap)] bw h5 λr6 T=>
 (az.ok [] T)/\
 (ae xB 237 #[(.slice (if a.2.1.cap=(3:Int).toNat then a.2.1.ptr else a.2.1.ptr.map (·.add ((3:Int).toNat*1))) ((4:Int).toNat-(3:Int).toNat) (a.2.1.cap-(3:Int).toNat))] bw T λr7 V=>
 (az.ok [] V)/\
 (ae xB 237 #[(.slice (if a.2.1.cap=(4:Int).toNat then a.2.1.ptr else a.2.1.ptr.map (·.add ((4:Int).toNat*1))) ((6:Int).toNat-(4:Int).toNat) (a.2.1.cap-(4:Int).toNat))] bw V λr8 h8=>
 (az.ok [] h8)/\
 aT xB (qL 164 eR (.tuple #[])) h8 λa9 h9=>
 (az.ok [] h9)/\
 ag xB (qf 164 a9 (xw #[r6,r7,r8,(xq xx 0),(xq xx 0),(xq xx 0),(xq xz 0),(xr eH 0 0)])) h9 λ_ z=>
 (az.ok [] z)/\
 Q a9 z)/\(aT xB (qL 164 eR (.tuple #[])) V λL F=>
 (az.ok [] F)/\
 ae xB 237 #[(.slice (if a.2.1.cap=(4:Int).toNat then a.2.1.ptr else a.2.1.ptr.map (·.add ((4:Int).toNat*1))) ((6:Int).toNat-(4:Int).toNat) (a.2.1.cap-(4:Int).toNat))] bw F λah u=>
 (az.ok [] u)/\
 ag xB (qf 164 L (xw #[r6,r7,ah,(xq xx 0),(xq xx 0),(xq xx 0),(xq xz 0),(xr eH 0 0)])) u λ_ B=>
 (az.ok [] B)/\
 Q L B))/\(aT xB (qL 164 eR (.tuple #[])) T λM N=>
 (az.ok [] N)/\
 ae xB 237 #[(.slice (if a.2.1.cap=(3:Int).toNat then a.2.1.ptr else a.2.1.ptr.map (·.add ((3:Int).toNat*1))) ((4:Int).toNat-(3:Int).toNat) (a.2.1.cap-(3:Int).toNat))] bw N λa4 s=>
 (az.ok [] s)/\
 ae xB 237 #[(.slice (if a.2.1.cap=(4:Int).toNat then a.2.1.ptr else a.2.1.ptr.map (·.add ((4:Int).toNat*1))) ((6:Int).toNat-(4:Int).toNat) (a.2.1.cap-(4:Int).toNat))] bw s λam p=>
 (az.ok [] p)/\
 ag xB (qf 164 M (xw #[r6,a4,am,(xq xx 0),(xq xx 0),(xq xx 0),(xq xz 0),(xr eH 0 0)])) p λ_ P=>
 (az.ok [] P)/\
 Q M P))/\(aT xB (qL 164 eR (.tuple #[])) h5 λx A=>
 (az.ok [] A)/\
 ae xB 237 #[(xr a.2.1.ptr ((3:Int).toNat) a.2.1.cap)] bw A λao I=>
 (az.ok [] I)/\
 ae xB 237 #[(.slice (if a.2.1.cap=(3:Int).toNat then a.2.1.ptr else a.2.1.ptr.map (·.add ((3:Int).toNat*1))) ((4:Int).toNat-(3:Int).toNat) (a.2.1.cap-(3:Int).toNat))] bw I λU E=>
 (az.ok [] E)/\
 ae xB 237 #[(.slice (if a.2.1.cap=(4:Int).toNat then a.2.1.ptr else a.2.1.ptr.map (·.add ((4:Int).toNat*1))) ((6:Int).toNat-(4:Int).toNat) (a.2.1.cap-(4:Int).toNat))] bw E λa0 w=>
 (az.ok [] w)/\
 ag xB (qf 164 x (xw #[ao,U,a0,(xq xx 0),(xq xx 0),(xq xx 0),(xq xz 0),(xr eH 0 0)])) w λ_ H=>
 (az.ok [] H)/\
 Q x H)))
 (λK1=>
 Br (!a.2.2) (ag xB (qf 164 f (xw #[(xq xx 0),(xq xx 0),(xq xx 0),(xq xx 0),(xq xx 0),(xq xx 0),(xq xz 0),(xr eH 0 0)])) h2 λ_ h3=>
 ∃i:fe,aq h3 f 0 i/\
 R (.tuple #[i,eS]) h3) (Br (a.1 !=1)
 (ag xB (qf 164 f (xw #[(xq xx 0),(xq xx 0),(xq xx 0),(xq xx 0),(xq xx 0),(xq xx 0),(xq xz 0),(xr eH 0 0)])) h2 λ_ h4=>
 ∃g:fe,aq h4 f 0 g/\
 R (.tuple #[g,eS]) h4)
 (K1 () h2)))
theorem Nt(a:Sl)(b:@Gs R h a):ac xB 166 #[a] h R:=aw af func166 (al.tn (al.tn (.two (.join [] [(3,4),(14,21)] .n) (.two (.join [(7,(.sc .adr))] [(7,8),(21,31)] .n) (.two (.join [] [(31,42)] .n) .n))))) b
noncomputable def Gt(b:cU)(c:fe):Prop:=
 aT xB (qM 29 b) h λf o=>
 aT xB (qM 164 c) o λd g=>
 bg (σ:=Unit) (λ_ k=>
 bj k (f.add 7) λp=>
 ae xB 193 #[p,(.func (.func 238) #[] #[d])] bN k λa l=>
 R a l)
 (λn=>
 ∃x3:fe,aq g d 0 x3/\
 ae xB 196 #[x3] bN g λm h3=>
 Br (!m) (R eS h3) (∃j:bS,aq h3 (d.add 3) 0 j/\
 ∃e:bS,aq h3 (f.add 2) 0 e/\
 ∃i:Bool,(kN xB .neq 26 (.tmp 10) (.tmp 12) j e (xv i))/\
 Br i
 (R eS h3)
 (n () h3)))
theorem Nu(a:cU)(b:fe)(c:@Gt R h a b):ac xB 167 #[a,b] h R:=aw af func167 (al.tn (.two (.join [] [(4,15)] .n) .n)) c
noncomputable def gw(b:Sl)(a:cE):Prop:=
 ae xB 239 #[b,(xq xx (b.len:Int)),(.func (.func a.1) a.2.1 a.2.2)] iF h λ_ c=>
 R (.tuple #[]) c
theorem kD(b:Sl)(a:cE)(c:@gw R h b a):ac xB 168 #[b,(.func (.func a.1) a.2.1 a.2.2)] h R:=aw af func168 .n c
noncomputable def Ij(f:fe)(j:fe):Prop:=
 aT xB (qM 164 f) h λb u=>
 aT xB (qM 164 j) u λc a=>
 be a b λx3=>
 be a c λs=>
 be a (b.add 1) λq=>
 be a (c.add 1) λo=>
 be a (b.add 2) λk=>
 be a (c.add 2) λi=>
 ae xB 207 #[x3,s] bw a λt h3=>
 (az.ok [(c.add 2,i),(b.add 2,k),(c.add 1,o),(b.add 1,q)] h3)/\
 ae xB 207 #[q,o] bw h3 λe r=>
 (az.ok [(c.add 2,i),(b.add 2,k)] r)/\
 ae xB 207 #[k,i] bw r λg p=>
 (az.ok [] p)/\
 aB xB (qq 22 3 #[(0,t),(1,e),(2,g)]) aI p λd m=>
 (az.ok [] m)/\
 ae xB 205 #[d] bw m λl n=>
 (az.ok [] n)/\
 R l n
theorem PC(a:fe)(b:fe)(c:@Ij R h a b):ac xB 169 #[a,b] h R:=aw af func169 .n c
noncomputable def gV(a:Sl)(c:cE):Prop:=
 Br ((a.len:Int)<2)
 (R a h)
 (aL (σ:=Int) (λd w l=>
 Br (d<(a.len:Int))
 (aQ a d λt=>
 ∃x3:fe,aq l (t.add (d.toNat*8)) 0 x3/\
 aQ a (qc xx (d-1)) λa4=>
 ∃g:fe,aq l (a4.add ((qc xx (d-1)).toNat*8)) 0 g/\
 gY C c.1 (c.2.1.toList++[(xw #[x3.1,x3.2.1,x3.2.2.1,x3.2.2.2.1,x3.2.2.2.2.1,x3.2.2.2.2.2.1,(xq xz x3.2.2.2.2.2.2.1),x3.2.2.2.2.2.2.2]),(xw #[g.1,g.2.1,g.2.2.1,g.2.2.2.1,g.2.2.2.2.1,g.2.2.2.2.2.1,(xq xz g.2.2.2.2.2.2.1),g.2.2.2.2.2.2.2])]++c.2.2.toList) bN l λu o=>
 (az.ok [] o)/\
 Br u
 ((0<=d/\d<=(a.len:Int))/\
 aL (σ:=Int×Int) (λb r h3=>
 Br (decide (b.2<(((a.len-d.toNat):Nat):Int)))
 (∃q:f7,((if a.cap=d.toNat then a.ptr else a.ptr.map (·.add (d.toNat*8)))=dB q/\0<=b.2/\b.2<(((a.len-d.toNat):Nat):Int))/\
 ∃f:fe,aq h3 (q.add (b.2.toNat*8)) 0 f/\
 ∃k:f7,((if a.cap=d.toNat then a.ptr else a.ptr.map (·.add (d.toNat*8)))=dB k/\0<=(qc xx (b.2-1))/\(qc xx (b.2-1))<(((a.len-d.toNat):Nat):Int))/\
 ∃e:fe,aq h3 (k.add ((qc xx (b.2-1)).toNat*8)) 0 e/\
 gY C c.1 (c.2.1.toList++[(xw #[f.1,f.2.1,f.2.2.1,f.2.2.2.1,f.2.2.2.2.1,f.2.2.2.2.2.1,(xq xz f.2.2.2.2.2.2.1),f.2.2.2.2.2.2.2]),(xw #[e.1,e.2.1,e.2.2.1,e.2.2.2.1,e.2.2.2.2.1,e.2.2.2.2.2.1,(xq xz e.2.2.2.2.2.2.1),e.2.2.2.2.2.2.2])]++c.2.2.toList) bN h3 λp m=>
 (az.ok [] m)/\
 Br (!p)
 (∃i:f7,((if a.cap=d.toNat then a.ptr else a.ptr.map (·.add (d.toNat*8)))=dB i/\0<=b.2/\b.2<(((a.len-d.toNat):Nat):Int))/\
 ∃j:fe,aq m (i.add (b.2.toNat*8)) 0 j/\
 aQ a b.1 λn=>
 ag xB (qf 164 (n.add (b.1.toNat*8)) j) m λ_ v=>
 r (qc xx (b.1+1),qc xx (b.2+1)) v)
 (r (b.1,qc xx (b.2+1)) m))
 ((0<=b.1/\b.1<=(a.len:Int))/\
 ag xB (yw #[161] 0 #[(.slice (if a.cap=b.1.toNat then a.ptr else a.ptr.map (·.add (b.1.toNat*8))) (a.len-b.1.toNat) (a.cap-b.1.toNat))]) h3 λ_ s=>
 (0<=b.1/\b.1<=(a.cap:Int))/\
 R (xr a.ptr b.1.toNat a.cap) s)) (d,(1:Int)) o)
 (w (qc xx (d+1)) o))
 (R a l)) (1:Int) h)
theorem lC(b:Sl)(a:cE)(c:@gV R h b a):ac xB 170 #[b,(.func (.func a.1) a.2.1 a.2.2)] h R:=aw af func170 (al.tn (al.tn (.two (al.tn (.inn (.loop [(5,aZ)] [(4,8),(12,65)] (al.tn (.two (.inn (al.tn (.two (al.tn (.two (al.tn (.inn (.loop [(5,aZ),(7,aZ)] [(5,6),(7,8),(32,59)] .n))) .n)) .n))) .n))))) .n))) c
noncomputable def AQ(b:fe)(c:fe):Prop:=
 aT xB (qM 164 b) h λe g=>
 aT xB (qM 164 c) g λf a=>
 ∃x3:fe,aq a e 0 x3/\
 ∃d:fe,aq a f 0 d/\
 ae xB 169 #[x3,d] bw a λi h3=>
 R (xv (i==0)) h3
theorem Ik(a:fe)(b:fe)(c:@AQ R h a b):ac xB 171 #[a,b] h R:=aw af func171 .n c
noncomputable def Il(d:aM)(a:Sl):Prop:=
 ae xB 240 #[a] bN h λj e=>
 Br (!j)
 (R (xr eH 0 0) e)
 (ae xB 241 #[a] aI e λb g=>
 ae xB 243 #[d] jt g λl h3=>
 ae xB 244 #[b] bw h3 λi k=>
 ae xB 242 #[l,b,i] bw k λc f=>
 (0<=c/\c<=(b.cap:Int))/\
 R (xr b.ptr c.toNat b.cap) f)
theorem PD(b:aM)(a:Sl)(c:@Il R h b a):ac xB 172 #[b,a] h R:=aw af func172 .n c
noncomputable def KE:Prop:=
 aT xB (qL 233 eR (.tuple #[])) h λc j=>
 aL (σ:=Int×Int) (λb g d=>
 Br (b.2<255)
 ((0<=b.2/\b.2<((255:Nat):Int))/\
 ag xB (qf 5 (c.add (b.2.toNat*1)) (xq xy b.1)) d λ_ h3=>
 ae xB 245 #[(xq xy b.1),(xq xy 3)] (.one (.sc (.int .u8))) h3 λk i=>
 g (k,qc xx (b.2+1)) i)
 (∃e:List (Int),(e.length=255/\aq d c 0 (e.map (Sc.enc (.int .u8))))/\
 ag xB (qf 233 c (xw (e.map (Sc.enc (.int .u8))).toArray)) d λ_ f=>
 ∃a:List (Int),(a.length=255/\aq f c 0 (a.map (Sc.enc (.int .u8))))/\
 R (xw (a.map (Sc.enc (.int .u8))).toArray) f)) ((1:Int),(0:Int)) j
theorem Sf(a:@KE R h):ac xB 173 #[] h R:=aw af func173 (al.tn (al.tn (.two (al.tn (.inn (.loop [(1,(.sc (.int .u8))),(3,aZ)] [(1,12)] .n))) .n))) a
noncomputable def QR(f:List (Int)):Prop:=
 aT xB (qM 233 (xw (f.map (Sc.enc (.int .u8))).toArray)) h λj m=>
 aT xB (qL 235 eR (.tuple #[])) m λd g=>
 ∃x3:List (Int),(x3.length=255/\aq g j 0 (x3.map (Sc.enc (.int .u8))))/\
 aL (σ:=Int) (λb k h3=>
 Br (b<255)
 (∃c:Int,(0<=b/\b<((255:Nat):Int)/\((x3.map (Sc.enc (.int .u8))).toArray:Array eX)[b.toNat]?=dB (xq xy c))/\
 (0<=c/\c<((256:Nat):Int))/\
 ag xB (qf 3 (d.add (c.toNat*1)) b) h3 λ_ l=>
 k (qc xx (b+1)) l)
 (∃e:List (Int),(e.length=256/\aq h3 d 0 (e.map (Sc.enc (.int .i64))))/\
 ag xB (qf 235 d (xw (e.map (Sc.enc (.int .i64))).toArray)) h3 λ_ i=>
 ∃a:List (Int),(a.length=256/\aq i d 0 (a.map (Sc.enc (.int .i64))))/\
 R (xw (a.map (Sc.enc (.int .i64))).toArray) i)) (0:Int) g
theorem WC(a:List (Int))(b:@QR R h a):ac xB 174 #[(xw (a.map (Sc.enc (.int .u8))).toArray)] h R:=aw af func174 (al.tn (.two (al.tn (.inn (.loop [(6,aZ)] [(3,5),(6,14)] .n))) .n)) b
noncomputable def Uo(k:bS)(c:Int)(a:Int):Prop:=
 aT xB (qM 26 k) h λf n=>
 bg (σ:=Unit) (λ_ h3=>
 ∃r:bS,aq h3 f 0 r/\
 ae xB 116 #[r] bw h3 λo w=>
 aB xB (qF 71 o o) aI w λq p=>
 ∃l:bS,aq p f 0 l/\
 ae xB 164 #[l,(xq xz c),a] aI p λm s=>
 aL (σ:=Int) (λb u i=>
 Br (b<(m.len:Int))
 (aQ m b λg=>
 be i (g.add (b.toNat*1)) λd=>
 aQ q d λj=>
 ag xB (qf 5 (j.add (d.toNat*1)) (xq xy 1)) i λ_ h8=>
 u (qc xx (b+1)) h8)
 (R q i)) (0:Int) s)
 (λv=>
 ∃x2:bS,aq n f 0 x2/\
 ae xB 73 #[x2] bN n λt e=>
 Br (!t) (R (xr eH 0 0) e) (Br (a<0) (R (xr eH 0 0) e) (Br (a>65535)
 (R (xr eH 0 0) e)
 (v () e))))
theorem Zw(c:bS)(a:Int)(b:Int)(d:@Uo R h c a b):ac xB 175 #[c,(xq xz a),b] h R:=aw af func175 (al.tn (.two (.join [] [(6,7),(10,21)] .n) (al.tn (.two (al.tn (.inn (.loop [(29,aZ)] [(9,10),(29,37)] .n))) .n)))) d
noncomputable def pO(k:aM)(e:aM)(w:Sl):Prop:=
 ae xB 246 #[e] bw h λv h1=>
 ∃a2,(e=dB a2)/\
 be h1 a2 λx3=>
 ∃a4,(e=dB a4)/\
 be h1 (a4.add 1) λx5=>
 ∃a6,(k=dB a6)/\
 bj h1 (a6.add 9) λx7=>
 ae xB 141 #[x3,x5,x7] aI h1 λr8 h2=>
 (az.ok [] h2)/\
 aL (σ:=Int) (λs9 K1 h3=>
 Br (s9<(r8.len:Int))
 (ae xB 143 #[r8,(qc xx (v+s9))] bw h3 λt h4=>
 ∃B,(k=dB B)/\
 bj h4 (B.add 9) λb9=>
 ae xB 107 #[b9,t] bw h4 λf h5=>
 ∃V,(k=dB V)/\
 jU h5 V λb0=>
 ae xB 23 #[b0,t] jt h5 λz h6=>
 bg (σ:=Unit) (λ_ h9=>
 ∃a22,(k=dB a22)/\
 ∃ab:cU,aq h9 (a22.add 1) 0 ab/\
 ae xB 150 #[z,ab,(xq xx 1)] bw h9 λa7 l=>
 Br (a7 !=0)
 (R a7 l)
 (bg (σ:=f7) (λcl ar=>
 ∃ah:fe,aq ar cl 0 ah/\
 ae xB 132 #[ah] aI ar λcc b4=>
 ae xB 133 #[z,cc] bw b4 λax m=>
 Br (ax !=0)
 (R ax m)
 (bg (σ:=Unit) (λ_ a9=>
 ∃K,(k=dB K)/\
 be a9 (K.add 12) λbl=>
 ∃P,(k=dB P)/\
 ag xB (qf 3 (P.add 12) (qc xx (bl+1))) a9 λ_ bb=>
 R (xq xx 0) bb)
 (λK4=>
 ∃d,(e=dB d)/\
 bj m (d.add 4) λb=>
 ∃a45,(e=dB a45)/\
 bj m (a45.add 4) λg=>
 aQ g f λu=>
 bj m (u.add (f.toNat*1)) λn=>
 ∃j,(e=dB j)/\
 bj m (j.add 5) λi=>
 (aB xB (qq 22 1 #[(0,v)]) aI m λv51 x=>
 (az.ok [(j.add 5,i),(u.add (f.toNat*1),n),(a45.add 4,g),(d.add 4,b)] x)/\
 (aB xB (qt #[22,22] 22 #[n,v51]) aI x λb7 G=>
 (az.ok [(j.add 5,i),(a45.add 4,g),(d.add 4,b)] G)/\
 aB xB (qq 22 1 #[(0,t)]) aI G λv53 H=>
 (az.ok [(j.add 5,i),(a45.add 4,g),(d.add 4,b)] H)/\
 aB xB (qt #[22,22] 22 #[i,v53]) aI H λcn Y=>
 (az.ok [(a45.add 4,g),(d.add 4,b)] Y)/\
 aQ b f λa55=>
 ag xB (qf 22 (a55.add (f.toNat*1)) b7) Y λ_ a5=>
 (az.ok [] a5)/\
 ∃a1,(e=dB a1)/\
 ag xB (qf 22 (a1.add 5) cn) a5 λ_ T=>
 (az.ok [] T)/\
 K4 () T)/\(aB xB (qq 22 1 #[(0,t)]) aI x λcf Z=>
 (az.ok [(j.add 5,i),(u.add (f.toNat*1),n),(a45.add 4,g),(d.add 4,b)] Z)/\
 aB xB (qt #[22,22] 22 #[n,v51]) aI Z λb2 O=>
 (az.ok [(j.add 5,i),(a45.add 4,g),(d.add 4,b)] O)/\
 aB xB (qt #[22,22] 22 #[i,cf]) aI O λcd am=>
 (az.ok [(a45.add 4,g),(d.add 4,b)] am)/\
 aQ b f λb1=>
 ag xB (qf 22 (b1.add (f.toNat*1)) b2) am λ_ ay=>
 (az.ok [] ay)/\
 ∃ap,(e=dB ap)/\
 ag xB (qf 22 (ap.add 5) cd) ay λ_ a0=>
 (az.ok [] a0)/\
 K4 () a0))/\(aB xB (qq 22 1 #[(0,t)]) aI m λb6 D=>
 (az.ok [(j.add 5,i),(u.add (f.toNat*1),n),(a45.add 4,g),(d.add 4,b)] D)/\
 aB xB (qq 22 1 #[(0,v)]) aI D λbk a8=>
 (az.ok [(j.add 5,i),(u.add (f.toNat*1),n),(a45.add 4,g),(d.add 4,b)] a8)/\
 aB xB (qt #[22,22] 22 #[n,bk]) aI a8 λb3 L=>
 (az.ok [(j.add 5,i),(a45.add 4,g),(d.add 4,b)] L)/\
 aB xB (qt #[22,22] 22 #[i,b6]) aI L λcp S=>
 (az.ok [(a45.add 4,g),(d.add 4,b)] S)/\
 aQ b f λa66=>
 ag xB (qf 22 (a66.add (f.toNat*1)) b3) S λ_ F=>
 (az.ok [] F)/\
 ∃N,(e=dB N)/\
 ag xB (qf 22 (N.add 5) cp) F λ_ M=>
 (az.ok [] M)/\
 K4 () M))))
 (λK3=>
 ∃a25,(e=dB a25)/\
 be l a25 λr=>
 ∃q,(e=dB q)/\
 be l (q.add 1) λp=>
 ∃c,(k=dB c)/\
 ∃a:bS,aq l ((c.add 1).add 2) 0 a/\
 ∃o,(e=dB o)/\
 gv .u32 l (o.add 2) λs=>
 ∃A,(e=dB A)/\
 jU l (A.add 3) λy=>
 (ae xB 142 #[y,v] aI l λb5 ad=>
 (az.ok [(o.add 2,(xq xz s)),((c.add 1).add 2,a.1),(((c.add 1).add 2).add 1,a.2.1),(((c.add 1).add 2).add 2,a.2.2),(q.add 1,p),(a25,r)] ad)/\
 aT xB (qL 164 eR (.tuple #[])) ad λI X=>
 (az.ok [(o.add 2,(xq xz s)),((c.add 1).add 2,a.1),(((c.add 1).add 2).add 1,a.2.1),(((c.add 1).add 2).add 2,a.2.2),(q.add 1,p),(a25,r)] X)/\
 ag xB (qf 164 I (xw #[r,p,v,a.1,a.2.1,a.2.2,(xq xz s),b5])) X λ_ a3=>
 (az.ok [] a3)/\
 K3 I a3)/\(aT xB (qL 164 eR (.tuple #[])) l λJ Q=>
 (az.ok [(A.add 3,y),(o.add 2,(xq xz s)),((c.add 1).add 2,a.1),(((c.add 1).add 2).add 1,a.2.1),(((c.add 1).add 2).add 2,a.2.2),(q.add 1,p),(a25,r)] Q)/\
 ae xB 142 #[y,v] aI Q λbd E=>
 (az.ok [(o.add 2,(xq xz s)),((c.add 1).add 2,a.1),(((c.add 1).add 2).add 1,a.2.1),(((c.add 1).add 2).add 2,a.2.2),(q.add 1,p),(a25,r)] E)/\
 ag xB (qf 164 J (xw #[r,p,v,a.1,a.2.1,a.2.2,(xq xz s),bd])) E λ_ U=>
 (az.ok [] U)/\
 K3 J U))))
 (λK2=>
 ae xB 50 #[w,f] bN h6 λbq h7=>
 Br bq (K1 (qc xx (s9+1)) h7) (∃ao,(k=dB ao)/\
 ∃W:cU,aq h7 (ao.add 1) 0 W/\
 ae xB 149 #[z,W,(xq xx 1)] bN h7 λbr h8=>
 Br (!br)
 (K1 (qc xx (s9+1)) h8)
 (K2 () h8))))
 (R (xq xx 7) h3)) (0:Int) h2
theorem BC(b:aM)(c:aM)(a:Sl)(d:@pO R h b c a):ac xB 176 #[b,c,a] h R:=aw af func176 (al.tn (al.tn (al.tn (.two (al.tn (.inn (.loop [(33,aZ)] [(6,7),(9,16),(33,140)] (al.tn (al.tn (.two (.inn (al.tn (al.tn (al.tn (al.tn (.two (.join [] [(53,65)] .n) (al.tn (.two (.join [(14,(.sc .adr))] [(14,15),(74,99)] .n) (al.tn (.two (.join [] [(106,132)] .n) .n)))))))))) .n)))))) .n)))) d
noncomputable def nD(a:aM):Prop:=
 bg (σ:=Unit) (λ_ e=>
 ∃a4,(a=dB a4)/\
 jU e a4 λk=>
 ae xB 127 #[k] bN e λi c=>
 Br (!i)
 (R (xq xx 14) c)
 (∃d,(a=dB d)/\
 ag xB (qf 3 (d.add 3) (xq xx 0)) c λ_ h3=>
 ae xB 128 #[a] bw h3 λj g=>
 R j g))
 (λf=>
 Br (qT a) (R (xq xx 5) h) (∃b,(a=dB b)/\
 sB h (b.add 6) λx2=>
 Br x2
 (R (xq xx 5) h)
 (f () h)))
theorem rL(a:aM)(b:@nD R h a):ac xB 178 #[a] h R:=aw af func178 (al.tn (.two (.join [] [(2,11)] .n) .n)) b
noncomputable def KF(a:Sl)(e:Int):Prop:=
 aL (σ:=Int) (λb n d=>
 Br (b>=0)
 (aQ a b λi=>
 be d (i.add (b.toNat*1)) λx3=>
 Br (decide (x3<(qc xx ((qc xx (e-(a.len:Int)))+b))))
 (aQ a b λa4=>
 be d (a4.add (b.toNat*1)) λo=>
 aQ a b λm=>
 ag xB (qf 3 (m.add (b.toNat*1)) (qc xx (o+1))) d λ_ k=>
 aL (σ:=Int) (λc l h3=>
 Br (c<(a.len:Int))
 (aQ a (qc xx (c-1)) λg=>
 be h3 (g.add ((qc xx (c-1)).toNat*1)) λj=>
 aQ a c λf=>
 ag xB (qf 3 (f.add (c.toNat*1)) (qc xx (j+1))) h3 λ_ p=>
 l (qc xx (c+1)) p)
 (R eR h3)) (qc xx (b+1)) k)
 (n (qc xx (b-1)) d))
 (R eS d)) (qc xx ((a.len:Int)-1)) h
theorem Sg(b:Sl)(a:Int)(c:@KF R h b a):ac xB 179 #[b,a] h R:=aw af func179 (al.tn (.two (al.tn (.inn (.loop [(5,aZ)] [(4,7),(10,48)] (al.tn (.two (.inn (al.tn (.two (al.tn (.two (al.tn (.inn (.loop [(6,aZ)] [(6,7),(33,48)] .n))) .n)) .n))) .n))))) .n)) c
noncomputable def Nv(b:Int)(a:Int):Prop:=
 bg (σ:=Unit) (λ_ f=>
 aB xB (qF 71 b b) aI f λc d=>
 aQ c a λa3=>
 ag xB (qf 5 (a3.add (a.toNat*1)) (xq xy 1)) d λ_ h3=>
 R c h3)
 (λe=>
 Br (b<1) (R (xr eH 0 0) h) (Br (b>64) (R (xr eH 0 0) h) (Br (a<0) (R (xr eH 0 0) h) (Br (a>=b)
 (R (xr eH 0 0) h)
 (e () h)))))
theorem Up(b:Int)(a:Int)(c:@Nv R h b a):ac xB 180 #[b,a] h R:=aw af func180 (al.tn (.two (.join [] [(4,5),(6,21)] .n) .n)) c
noncomputable def DM(c:aM)(a:Int):Prop:=
 ((255:Int)≠0)/\
 bg (σ:=Int) (λb i=>
 ae xB 247 #[c] jt i λg d=>
 ∃a3,(g=dB a3)/\
 (0<=b/\b<((255:Nat):Int))/\
 gv .u8 d (a3.add (b.toNat*1)) λf=>
 R (xq xy f) d)
 (λe=>
 Br ((wk a 255)<0)
 (e (qc xx ((wk a 255)+255)) h)
 (e (wk a 255) h))
theorem LC(a:aM)(b:Int)(c:@DM R h a b):ac xB 181 #[a,b] h R:=aw af func181 (al.tn (al.tn (.two (.join [(1,aZ)] [(1,2),(7,11)] .n) .n))) c
noncomputable def AR(b:aM)(f:Sl):Prop:=
 bg (σ:=Unit) (λ_ s=>
 ae xB 101 #[f] aI s λl o=>
 ∃a5,(b=dB a5)/\
 bj o (a5.add 2) λn=>
 aL (σ:=Sl×Int) (λa p h3=>
 Br (a.2<(n.len:Int))
 (aQ n a.2 λr=>
 bj h3 (r.add (a.2.toNat*1)) λq=>
 ae xB 183 #[q] bw h3 λe i=>
 aQ a.1 e λj=>
 gv .u8 i (j.add (e.toNat*1)) λg=>
 Br (g !=0)
 (∃d,(b=dB d)/\
 jU i d λk=>
 ae xB 248 #[k,(xq xy g),q,a.1] (.many [cy,iR]) i λc t=>
 p ((⟨c.1.ptr,c.1.len,c.1.cap⟩:Sl),qc xx (a.2+1)) t)
 (p ((⟨a.1.ptr,a.1.len,a.1.cap⟩:Sl),qc xx (a.2+1)) i))
 (R (.tuple #[a.1,eR]) h3)) ((⟨l.ptr,l.len,l.cap⟩:Sl),(0:Int)) o)
 (λu=>
 Br (qT b) (R (.tuple #[(xr eH 0 0),eS]) h) (∃m,(b=dB m)/\
 be h (m.add 1) λx2=>
 Br ((f.len:Int) !=x2)
 (R (.tuple #[(xr eH 0 0),eS]) h)
 (u () h)))
theorem Im(a:aM)(b:Sl)(c:@AR R h a b):ac xB 182 #[a,b] h R:=aw af func182 (al.tn (.two (.join [] [(4,6),(10,21)] .n) (al.tn (.two (al.tn (.inn (.loop [(6,cy),(28,aZ)] [(6,7),(8,10),(28,51)] .n))) .n)))) c
noncomputable def Nw(a:Sl):Prop:=
 ae xB 249 #[a,(.func (.func 250) #[] #[])] bw h λb c=>
 R b c
theorem Uq(a:Sl)(b:@Nw R h a):ac xB 183 #[a] h R:=aw af func183 .n b
noncomputable def vj(a:aM):Prop:=
 Br (qT a)
 (R (xt eH) h)
 (∃b,(a=dB b)/\
 jU h b λx2=>
 ∃a3,(a=dB a3)/\
 be h (a3.add 1) λc=>
 ae xB 251 #[a] aI h λg e=>
 (az.ok [(a3.add 1,c),(b,x2)] e)/\
 aT xB (qM 242 (xw #[x2,c,g])) e λf d=>
 (az.ok [(a3.add 1,c),(b,x2)] d)/\
 R f d)
theorem GN(a:aM)(b:@vj R h a):ac xB 184 #[a] h R:=aw af func184 .n b
noncomputable def AS(a:aM):Prop:=
 Br (qT a)
 (R (xq xx 0) h)
 (∃b,(a=dB b)/\
 bj h (b.add 2) λx2=>
 R (xq xx (x2.len:Int)) h)
theorem Io(a:aM)(b:@AS R h a):ac xB 185 #[a] h R:=aw af func185 .n b
noncomputable def jC(b:Sl)(a:cE):Prop:=
 ae xB 252 #[b,(.func (.func a.1) a.2.1 a.2.2)] bw h λc d=>
 R (decide (c>=0)) d
theorem nE(b:Sl)(a:cE)(c:@jC R h b a):ac xB 186 #[b,(.func (.func a.1) a.2.1 a.2.2)] h R:=aw af func186 .n c
noncomputable def DN(b:Sl)(a:f7):Prop:=
 bj h a λc=>
 ae xB 64 #[b,c] bN h λe d=>
 R e d
theorem LD(b:Sl)(a:f7)(c:@DN R h b a):ac xB 187 #[b,a] h R:=aw af func187 .n c
noncomputable def ku(c:Sl)(a:cE):Prop:=
 aL (σ:=Int) (λb g d=>
 Br (b<(c.len:Int))
 (aQ c b λi=>
 AE d (i.add (b.toNat*1)) λx3=>
 gY C a.1 (a.2.1.toList++[(xu x3)]++a.2.2.toList) bN d λf e=>
 Br f
 (R b e)
 (g (qc xx (b+1)) e))
 (R (xq xx (-1:Int)) d)) (0:Int) h
theorem ou(b:Sl)(a:cE)(c:@ku R h b a):ac xB 188 #[b,(.func (.func a.1) a.2.1 a.2.2)] h R:=aw af func188 (al.tn (.two (al.tn (.inn (.loop [(8,aZ)] [(4,6),(8,19)] .n))) .n)) c
noncomputable def Gu(c:Int)(a:Int)(b:Int):Prop:=
 Br (c>=a) (R (decide (c<=b)) h) (R eS h)
theorem Nx(c:Int)(a:Int)(b:Int)(d:@Gu R h c a b):ac xB 190 #[c,a,b] h R:=aw af func190 .n d
noncomputable def KG(c:Sl)(a:Int):Prop:=
 aL (σ:=Int) (λb f e=>
 Br (b<(c.len:Int))
 (aQ c b λj=>
 be e (j.add (b.toNat*1)) λx3=>
 ae xB 190 #[x3,(xq xx 0),a] bN e λi d=>
 Br (!i) (R eS d) (Br (b>0) (aQ c (qc xx (b-1)) λa5=>
 be d (a5.add ((qc xx (b-1)).toNat*1)) λg=>
 Br (g>=x3)
 (R eS d)
 (f (qc xx (b+1)) d)) (f (qc xx (b+1)) d)))
 (R eR e)) (0:Int) h
theorem Sh(b:Sl)(a:Int)(c:@KG R h b a):ac xB 191 #[b,a] h R:=aw af func191 (al.tn (.two (al.tn (.inn (.loop [(9,aZ)] [(4,7),(9,32)] .n))) .n)) c
noncomputable def Ip(g:cU)(i:iE):Prop:=
 aT xB (qM 29 g) h λf t=>
 aT xB (qM 94 i) t λa r=>
 bg (σ:=Unit) (λ_ p=>
 bj p (a.add 3) λk=>
 ae xB 147 #[k,(.func (.func 258) #[] #[])] bN p λl b=>
 Br (!l) (bj b (a.add 3) λc=>
 ∃d:bS,aq b (f.add 2) 0 d/\
 be b (a.add 2) λm=>
 ae xB 82 #[d,m] bw b λn h8=>
 (az.ok [(a.add 3,c)] h8)/\
 R (xv ((c.len:Int)==n)) h8) ((az.ok [] b)/\
 R eS b))
 (λy=>
 AE r a λx3=>
 ae xB 136 #[x3] bN r λx h3=>
 Br (!x) (R eS h3) (be h3 (a.add 1) λz=>
 be h3 (f.add 1) λw=>
 ae xB 190 #[z,(xq xx 0),(qc xx (w-1))] bN h3 λu e=>
 Br (!u) (R eS e) (be e (a.add 2) λs=>
 be e (f.add 2) λv=>
 be e ((f.add 2).add 2) λo=>
 ae xB 190 #[s,(xq xx 0),(qc xx ((qc xx (v*o))*8))] bN e λj q=>
 Br (!j)
 (R eS q)
 (y () q))))
theorem PE(a:cU)(b:iE)(c:@Ip R h a b):ac xB 192 #[a,b] h R:=aw af func192 (al.tn (.two (.join [] [(4,5),(6,33)] .n) .n)) c
noncomputable def fc(b:Sl)(a:cE):Prop:=
 ae xB 151 #[b,(.func (.func a.1) a.2.1 a.2.2)] bw h λc d=>
 R (decide (c>=0)) d
theorem gI(b:Sl)(a:cE)(c:@fc R h b a):ac xB 193 #[b,(.func (.func a.1) a.2.1 a.2.2)] h R:=aw af func193 .n c
noncomputable def Iq(b:iE)(a:f7):Prop:=
 aT xB (qM 94 b) h λd c=>
 be c (d.add 1) λx2=>
 be c (a.add 1) λx3=>
 R (xv (x2==x3)) c
theorem PF(b:iE)(a:f7)(c:@Iq R h b a):ac xB 194 #[b,a] h R:=aw af func194 .n c
noncomputable def Gv(a:Sl)(d:Int)(b:Int):Prop:=
 aL (σ:=Sl×Int) (λc i e=>
 Br (c.2>=0)
 ((0<=(qc xx (8*c.2)))/\
 aB xB (qq 71 1 #[(0,(xq xy (qc xy (qX d (2^min (qc xx (8*c.2)).toNat (qk xx))))))]) aI e λg f=>
 aB xB (qt #[71,71] 71 #[c.1,g]) aI f λv3 h3=>
 i ((⟨v3.ptr,v3.len,v3.cap⟩:Sl),qc xx (c.2-1)) h3)
 (R c.1 e)) ((⟨a.ptr,a.len,a.cap⟩:Sl),qc xx (b-1)) h
theorem Ny(b:Sl)(c:Int)(a:Int)(d:@Gv R h b c a):ac xB 195 #[b,c,a] h R:=aw af func195 (al.tn (.two (al.tn (.inn (.loop [(0,cy),(7,aZ)] [(0,1),(7,8),(10,22)] .n))) .n)) d
noncomputable def Ir(g:fe):Prop:=
 aT xB (qM 164 g) h λb a=>
 bg (σ:=Bool) (λn e=>
 Br n (∃j:bS,aq e (b.add 3) 0 j/\
 ae xB 73 #[j] bN e λf h3=>
 Br f (bj h3 (b.add 7) λi=>
 be h3 ((b.add 3).add 2) λd=>
 R (xv ((i.len:Int)==d)) h3) (R eS h3)) (R eS e))
 (λc=>
 be a b λx2=>
 Br (x2>=0) (be a b λx3=>
 Br (x3<=16777215) (be a (b.add 1) λl=>
 Br (l>=0) (be a (b.add 1) λm=>
 Br (m<8) (be a (b.add 2) λk=>
 Br (k>=0) (be a (b.add 2) λo=>
 c (decide (o<=65535)) a) (c eS a)) (c eS a)) (c eS a)) (c eS a)) (c eS a))
theorem PG(a:fe)(b:@Ir R h a):ac xB 196 #[a] h R:=aw af func196 (al.tn (.two (.join [(3,iR)] [(3,32)] .n) .n)) b
noncomputable def Ch(a:Sl)(d:Int)(b:Int):Prop:=
 aL (σ:=Sl×Int) (λc i e=>
 Br (c.2>=0)
 ((0<=(qc xx (8*c.2)))/\
 aB xB (qq 71 1 #[(0,(xq xy (qc xy (qX d (2^min (qc xx (8*c.2)).toNat (qk xx))))))]) aI e λg f=>
 aB xB (qt #[71,71] 71 #[c.1,g]) aI f λv3 h3=>
 i ((⟨v3.ptr,v3.len,v3.cap⟩:Sl),qc xx (c.2-1)) h3)
 (R c.1 e)) ((⟨a.ptr,a.len,a.cap⟩:Sl),qc xx (b-1)) h
theorem Kf(b:Sl)(c:Int)(a:Int)(d:@Ch R h b c a):ac xB 197 #[b,c,a] h R:=aw af func197 (al.tn (.two (al.tn (.inn (.loop [(0,cy),(7,aZ)] [(0,1),(7,8),(10,22)] .n))) .n)) d
noncomputable def DO(c:bS)(a:Int):Prop:=
 aT xB (qM 26 c) h λb d=>
 ∃x2:bS,aq d b 0 x2/\
 ∃x3:bS,aq d b 0 x3/\
 ae xB 200 #[x3] aI d λf e=>
 (az.ok [(b,x2.1),(b.add 1,x2.2.1),(b.add 2,x2.2.2)] e)/\
 ae xB 161 #[x2,(xq xz a),f] bN e λg h3=>
 (az.ok [] h3)/\
 R g h3
theorem LF(b:bS)(a:Int)(c:@DO R h b a):ac xB 198 #[b,(xq xz a)] h R:=aw af func198 .n c
noncomputable def CW(w:aM)(f:Sl)(m:Sl):Prop:=
 bg (σ:=Unit) (λ_ h3=>
 ae xB 244 #[f] bw h3 λg S=>
 ae xB 241 #[f] aI S λd M=>
 aL (σ:=Int) (λi O r=>
 Br (i<(d.len:Int))
 (aQ d i λL=>
 bj r (L.add (i.toNat*1)) λJ=>
 aQ m i λa9=>
 bj r (a9.add (i.toNat*1)) λF=>
 aB xB (qt #[71,71] 71 #[J,F]) aI r λA G=>
 (az.ok [] G)/\
 aQ d i λB=>
 ag xB (qf 71 (B.add (i.toNat*1)) A) G λ_ h8=>
 (az.ok [] h8)/\
 O (qc xx (i+1)) h8)
 (ae xB 243 #[w] jt r λE Q=>
 ae xB 242 #[E,d,g] bw Q λa q=>
 Br (a<g)
 (R (.tuple #[(xr eH 0 0),(xq xx 9)]) q)
 ((0<=a/\a<=(d.len:Int))/\
 aL (σ:=Int) (λe N l=>
 Br (decide (e<(((d.len-a.toNat):Nat):Int)))
 (∃o:f7,((if d.cap=a.toNat then d.ptr else d.ptr.map (·.add (a.toNat*1)))=dB o/\0<=e/\e<(((d.len-a.toNat):Nat):Int))/\
 bj l (o.add (e.toNat*1)) λy=>
 ae xB 183 #[y] bw l λz n=>
 Br (z>=0)
 (R (.tuple #[(xr eH 0 0),(xq xx 10)]) n)
 (N (qc xx (e+1)) n))
 ((0<=a/\a<=(d.cap:Int))/\
 aL (σ:=Sl×Int) (λb T k=>
 Br (b.2<(a.toNat:Int))
 (∃p,(d.ptr=dB p/\0<=b.2/\b.2<(a.toNat:Int))/\
 bj k (p.add (b.2.toNat*1)) λc=>
 (0<=g/\g<=(c.len:Int))/\
 ae xB 101 #[(.slice (if c.cap=g.toNat then c.ptr else c.ptr.map (·.add (g.toNat*1))) (c.len-g.toNat) (c.cap-g.toNat))] aI k λv D=>
 aB xB (qq 56 1 #[(0,v)]) aI D λx u=>
 aB xB (qt #[56,56] 56 #[b.1,x]) aI u λj t=>
 T ((⟨j.ptr,j.len,j.cap⟩:Sl),qc xx (b.2+1)) t)
 (R (.tuple #[b.1,(xq xx 0)]) k)) ((⟨eH,0,0⟩:Sl),(0:Int)) l)) (0:Int) q))) (0:Int) M)
 (λP=>
 ae xB 240 #[f] bN h λI H=>
 Br (!I) (R (.tuple #[(xr eH 0 0),(xq xx 1)]) H) (ae xB 240 #[m] bN H λK s=>
 Br (!K) (R (.tuple #[(xr eH 0 0),(xq xx 1)]) s) (Br ((f.len:Int) !=(m.len:Int)) (R (.tuple #[(xr eH 0 0),(xq xx 1)]) s) (Br ((f.len:Int)==0)
 (R (.tuple #[(xr eH 0 0),(xq xx 1)]) s)
 (P () s)))))
theorem Gw(b:aM)(a:Sl)(c:Sl)(d:@CW R h b a c):ac xB 199 #[b,a,c] h R:=aw af func199 (al.tn (.two (.join [] [(6,8),(17,37)] .n) (al.tn (al.tn (.two (al.tn (.inn (.loop [(43,aZ)] [(10,11),(43,59)] .n))) (al.tn (al.tn (.two (al.tn (.inn (.loop [(71,aZ)] [(6,8),(13,14),(71,79)] .n))) (al.tn (.two (al.tn (.inn (.loop [(14,cy),(83,aZ)] [(14,15),(16,17),(83,95)] .n))) .n)))))))))) d
noncomputable def DP(b:bS):Prop:=
 aT xB (qM 26 b) h λe d=>
 be d e λx2=>
 aL (σ:=Sl×Int) (λa f c=>
 Br (decide (a.2<(if(if(16:Int)<x2 then(16:Int)else x2)>(0:Int)then(if(16:Int)<x2 then(16:Int)else x2)else(0:Int))))
 (aB xB (qq 22 1 #[(0,a.2)]) aI c λv4 h3=>
 aB xB (qt #[22,22] 22 #[a.1,v4]) aI h3 λv5 g=>
 f ((⟨v5.ptr,v5.len,v5.cap⟩:Sl),qc xx (a.2+1)) g)
 (R a.1 c)) ((⟨eH,0,0⟩:Sl),(0:Int)) d
theorem LG(a:bS)(b:@DP R h a):ac xB 200 #[a] h R:=aw af func200 (al.tn (al.tn (.two (al.tn (.inn (.loop [(3,cy),(9,aZ)] [(3,5),(9,17)] .n))) .n))) b
noncomputable def Nz(a:Int):Prop:=
 Br (a<0) (R (.complex .f64 0 0) h) (Br (a>=4096)
 (R (.complex .f64 0 0) h)
 (ae xB 259 #[] jt h λe g=>
 aL (σ:=Int) (λd f c=>
 Br (d==a)
 (∃a3,(e=dB a3)/\
 ∃b:Nat×Nat,cellOf c a3=dB (.complex .f64 b.1 b.2)/\
 R (.complex .f64 b.1 b.2) c)
 (ae xB 260 #[e] iF c λ_ h3=>
 f (qc xx (d+1)) h3)) (0:Int) g))
theorem Ur(a:Int)(b:@Nz R h a):ac xB 201 #[a] h R:=aw af func201 (al.tn (.scope 0 [(4,aZ)] [(2,3),(4,5),(12,23)] [.n,.n,.n] [.n] [])) b
noncomputable def KH(b:Nat×Nat)(c:Nat×Nat):Prop:=
 ∃a:Nat×Nat,(kN xB .sub 260 (.tmp 6) (.tmp 7) (.complex .f64 b.1 b.2) (.complex .f64 c.1 c.2) (.complex .f64 a.1 a.2))/\
 ∃e:Nat,((FloatKind.format .f64).mul a.1 a.1=dB e)/\
 ∃f:Nat,((FloatKind.format .f64).mul a.2 a.2=dB f)/\
 ∃d:Nat,((FloatKind.format .f64).add e f=dB d)/\
 R (.float .f64 d) h
theorem Si(a:Nat×Nat)(b:Nat×Nat)(c:@KH R h a b):ac xB 202 #[(.complex .f64 a.1 a.2),(.complex .f64 b.1 b.2)] h R:=aw af func202 .n c
noncomputable def Ci(b:Int×Nat)(c:Int×Nat):Prop:=
 aT xB (qM 267 (xw #[b.1,(.float .f64 b.2)])) h λd o=>
 aT xB (qM 267 (xw #[c.1,(.float .f64 c.2)])) o λf a=>
 ∃x3:Nat,cellOf a (d.add 1)=dB (.float .f64 x3)/\
 ∃k:Nat,cellOf a (f.add 1)=dB (.float .f64 k)/\
 be a d λm=>
 be a f λg=>
 ae xB 206 #[(.float .f64 x3),(.float .f64 k)] bw a λp h3=>
 (az.ok [(f,g),(d,m)] h3)/\
 ae xB 207 #[m,g] bw h3 λn l=>
 (az.ok [] l)/\
 aB xB (qq 22 2 #[(0,p),(1,n)]) aI l λv9 i=>
 (az.ok [] i)/\
 ae xB 205 #[v9] bw i λe j=>
 (az.ok [] j)/\
 R e j
theorem Kg(a:Int×Nat)(b:Int×Nat)(c:@Ci R h a b):ac xB 204 #[(xw #[a.1,(.float .f64 a.2)]),(xw #[b.1,(.float .f64 b.2)])] h R:=aw af func204 .n c
noncomputable def AT(a:Sl):Prop:=
 aL (σ:=Int) (λb d c=>
 Br (b<(a.len:Int))
 (aQ a b λe=>
 be c (e.add (b.toNat*1)) λx3=>
 Br (x3 !=0)
 (R x3 c)
 (d (qc xx (b+1)) c))
 (R (xq xx 0) c)) (0:Int) h
theorem DQ(a:Sl)(b:@AT R h a):ac xB 205 #[a] h R:=aw af func205 (al.tn (al.tn (.two (al.tn (.inn (.loop [(8,aZ)] [(2,3),(5,6),(8,17)] .n))) .n))) b
noncomputable def pP(a:Nat)(b:Nat):Prop:=
 ae xB 262 #[(.float .f64 a)] bN h λe f=>
 ae xB 262 #[(.float .f64 b)] bN f λd c=>
 Br e
 (Br d
 (R (xq xx 0) c)
 (R (xq xx (-1:Int)) c))
 (Br d
 (R (xq xx 1) c)
 (Br ((FloatKind.format .f64).order a b==dB .lt)
 (R (xq xx (-1:Int)) c)
 (Br ((FloatKind.format .f64).order a b==dB .gt)
 (R (xq xx 1) c)
 (R (xq xx 0) c))))
theorem BD(a:Nat)(b:Nat)(c:@pP R h a b):ac xB 206 #[(.float .f64 a),(.float .f64 b)] h R:=aw af func206 .n c
noncomputable def ov(a:Int)(b:Int):Prop:=
 ae xB 263 #[a] bN h λe f=>
 ae xB 263 #[b] bN f λd c=>
 Br e
 (Br d
 (R (xq xx 0) c)
 (R (xq xx (-1:Int)) c))
 (Br d
 (R (xq xx 1) c)
 (Br (a<b)
 (R (xq xx (-1:Int)) c)
 (Br (a>b)
 (R (xq xx 1) c)
 (R (xq xx 0) c))))
theorem sJ(a:Int)(b:Int)(c:@ov R h a b):ac xB 207 #[a,b] h R:=aw af func207 .n c
noncomputable def jW(b:Sl)(A:Int)(y:Int)(f:Int)(a:cE):Prop:=
 aL (σ:=Tu6) (λc z p=>
 Br ((qc xx (c.2.1-c.1))<=12)
 (ae xB 264 #[b,c.1,c.2.1,(.func (.func a.1) a.2.1 a.2.2)] iF p λ_ N=>
 R (.tuple #[]) N)
 (Br (c.2.2.1==0)
 (ae xB 265 #[b,c.1,c.2.1,(.func (.func a.1) a.2.1 a.2.2)] iF p λ_ h3=>
 R (.tuple #[]) h3)
 (bg (σ:=Int) (λl M=>
 ae xB 267 #[b,c.1,c.2.1,(.func (.func a.1) a.2.1 a.2.2)] (.many [aZ,aZ]) M λq F=>
 bg (σ:=Int×Int) (λk h8=>
 bg (σ:=Unit) (λ_ j=>
 bg (σ:=Int) (λe B=>
 ae xB 271 #[b,e,c.2.1,k.1,(.func (.func a.1) a.2.1 a.2.2)] (.many [aZ,iR]) B λd m=>
 ((8:Int)≠0)/\
 Br ((qc xx (d.1-e))<(qc xx (c.2.1-d.1)))
 (ae xB 208 #[b,e,d.1,l,(.func (.func a.1) a.2.1 a.2.2)] iF m λ_ u=>
 z (qc xx (d.1+1),c.2.1,l,decide ((qc xx (d.1-e))>=(qc xx (wA (qc xx (c.2.1-c.1)) 8))),d.2) u)
 (ae xB 208 #[b,(qc xx (d.1+1)),c.2.1,l,(.func (.func a.1) a.2.1 a.2.2)] iF m λ_ E=>
 z (e,d.1,l,decide ((qc xx (c.2.1-d.1))>=(qc xx (wA (qc xx (c.2.1-c.1)) 8))),d.2) E))
 (λO=>
 bg (σ:=Bool) (λx n=>
 Br x
 (ae xB 270 #[b,c.1,c.2.1,k.1,(.func (.func a.1) a.2.1 a.2.2)] bw n λt w=>
 z (t,c.2.1,l,c.2.2.2.1,c.2.2.2.2) w)
 (O c.1 n))
 (λG=>
 Br (c.1>0) (aQ b (qc xx (c.1-1)) λs=>
 ∃i:iE,aq j (s.add ((qc xx (c.1-1)).toNat*4)) 0 i/\
 aQ b k.1 λv=>
 ∃g:iE,aq j (v.add (k.1.toNat*4)) 0 g/\
 gY C a.1 (a.2.1.toList++[(xw #[i.1,i.2.1,i.2.2.1,i.2.2.2]),(xw #[g.1,g.2.1,g.2.2.1,g.2.2.2])]++a.2.2.toList) bw j λD o=>
 (az.ok [] o)/\
 G (!(decide (D<0))) o) ((az.ok [] j)/\
 G eS j))))
 (λr=>
 Br c.2.2.2.1 (Br c.2.2.2.2 (Br (k.2==1)
 (ae xB 269 #[b,c.1,c.2.1,(.func (.func a.1) a.2.1 a.2.2)] bN h8 λL J=>
 Br L
 (R (.tuple #[]) J)
 (r () J))
 (r () h8)) (r () h8)) (r () h8)))
 (λH=>
 Br (q.2==2)
 (ae xB 268 #[b,c.1,c.2.1,(.func (.func a.1) a.2.1 a.2.2)] iF F λ_ K=>
 H (qc xx ((qc xx (c.2.1-1))-(qc xx (q.1-c.1))),(1:Int)) K)
 (H (q.1,q.2) F)))
 (λI=>
 Br (!c.2.2.2.1)
 (ae xB 266 #[b,c.1,c.2.1,(.func (.func a.1) a.2.1 a.2.2)] iF p λ_ P=>
 I (qc xx (c.2.2.1-1)) P)
 (I c.2.2.1 p))))) (A,y,f,eR,eR) h
theorem nW(c:Sl)(d:Int)(e:Int)(b:Int)(a:cE)(f:@jW R h c d e b a):ac xB 208 #[c,d,e,b,(.func (.func a.1) a.2.1 a.2.2)] h R:=aw af func208 (al.tn (al.tn (.inn (.loop [(1,aZ),(2,aZ),(3,aZ),(10,iR),(11,iR)] [(1,4),(10,148)] (.inn (al.tn (al.tn (al.tn (.two (.join [(3,aZ)] [(3,4),(38,47)] .n) (al.tn (.two (.join [(13,aZ),(14,aZ)] [(13,15),(55,68)] .n) (.two (.join [] [(68,81)] .n) (.two (.join [(1,aZ)] [(1,2),(15,16),(81,105)] (.two (.join [(97,iR)] [(81,98)] .n) .n)) .n))))))))))))) f
noncomputable def uz(a:ByteArray):Prop:=
 R (xv (!(a.toList==a.toList))) h
theorem Fh(a:ByteArray)(b:@uz R h a):ac xB 209 #[a] h R:=aw af func209 .n b
noncomputable def gD(c:Sl)(a:cE):Prop:=
 aL (σ:=Int) (λb g d=>
 Br (b<(c.len:Int))
 (aQ c b λi=>
 be d (i.add (b.toNat*1)) λx3=>
 gY C a.1 (a.2.1.toList++[(xq xx x3)]++a.2.2.toList) bN d λf e=>
 Br f
 (R b e)
 (g (qc xx (b+1)) e))
 (R (xq xx (-1:Int)) d)) (0:Int) h
theorem iV(b:Sl)(a:cE)(c:@gD R h b a):ac xB 210 #[b,(.func (.func a.1) a.2.1 a.2.2)] h R:=aw af func210 (al.tn (.two (al.tn (.inn (.loop [(8,aZ)] [(4,6),(8,19)] .n))) .n)) c
noncomputable def Gx(c:aM)(a:Int)(b:Int):Prop:=
 ae xB 126 #[c] bw h λd e=>
 R (decide ((if(0:Int)>b then(0:Int)else b)<=(qc xx (d-a)))) e
theorem NA(c:aM)(a:Int)(b:Int)(d:@Gx R h c a b):ac xB 211 #[c,a,b] h R:=aw af func211 .n d
noncomputable def vq(a:aM):Prop:=
 Br (qT a)
 (R (xq xx 0) h)
 (∃b,(a=dB b)/\
 bj h (b.add 2) λx2=>
 R (xq xx (x2.len:Int)) h)
theorem GO(a:aM)(b:@vq R h a):ac xB 212 #[a] h R:=aw af func212 .n b
end Go.Qw
