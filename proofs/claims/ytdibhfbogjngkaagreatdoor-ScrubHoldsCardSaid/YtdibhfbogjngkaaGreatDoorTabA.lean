/- Lemmas for the proof of the law; no condition. -/
import Derived.Test.YtdibhfbogjngkaaGreatDoorPlA
import Derived.Test.YtdibhfbogjngkaaGreatDoorProg
set_option linter.unusedVariables false
open Go.Proofs.Tryz renaming prog -> xB
open Go.Value renaming agg -> xw, bool -> xv, int -> xq, pointer -> xt, slice -> xr, string -> xu
open Go.IntKind renaming bits -> qk, i64 -> xx, u32 -> xz, u64 -> xA, u8 -> xy, wrap -> qc
open List renaming replicate -> qh, toArray -> yY
open Option renaming isNone -> qS
open Go.Instr renaming alloc -> qL, box -> qM, build -> vU, buildSlice -> qq, makeSlice -> qF, storeAt -> qf
open Go.Builtin renaming append_ -> qt, clear_ -> yK, copy_ -> yp
open Int renaming fdiv -> qX, tdiv -> wy, tmod -> wi
open BitVec renaming ofInt -> qD
open Go.Proofs.Tryz
set_option maxRecDepth 1000000
open Option renaming some -> dB, none -> eH
open Bool renaming true -> eL, false -> eR
open Go renaming Value -> eS, Addr -> eX
namespace Go.Qw
open Go Go.Vc Go.Proofs
instance:Coe Int eS:=⟨λx=>xq xx x⟩
instance:Coe Sl eS:=⟨λs=>xr s.ptr s.len s.cap⟩
instance:Coe ByteArray eS:=⟨.string⟩
instance:Coe (Option eX) eS:=⟨.pointer⟩
instance:Coe eX eS:=⟨λa=>xt (dB a)⟩
instance:Coe Bool eS:=⟨.bool⟩
instance:Coe (Int×Int×Int) (List eS):=⟨λx=>[x.1,x.2.1,x.2.2]⟩
instance:Coe (Int×Int×Int) eS:=⟨λx=>xw (yY x)⟩
instance:Coe (Int×Int×Int×Int×Int×Int×Sl×Sl) (List eS):=⟨λx=>[x.1,x.2.1,x.2.2.1,x.2.2.2.1,x.2.2.2.2.1,x.2.2.2.2.2.1,x.2.2.2.2.2.2.1,x.2.2.2.2.2.2.2]⟩
instance:Coe (Int×Int×Int×Int×Int×Int×Sl×Sl) eS:=⟨λx=>xw (yY x)⟩
instance:Coe (ByteArray×Int×Int×Sl) (List eS):=⟨λx=>[x.1,x.2.1,x.2.2.1,x.2.2.2]⟩
instance:Coe (ByteArray×Int×Int×Sl) eS:=⟨λx=>xw (yY x)⟩
instance:Coe (Int×Sl) (List eS):=⟨λx=>[x.1,x.2]⟩
instance:Coe (Int×Sl) eS:=⟨λx=>xw (yY x)⟩
instance:Coe (Int×ByteArray×Sl×Int×Int×Int×Int×Sl×Sl) (List eS):=⟨λx=>[x.1,x.2.1,x.2.2.1,x.2.2.2.1,x.2.2.2.2.1,x.2.2.2.2.2.1,(xq xz x.2.2.2.2.2.2.1),x.2.2.2.2.2.2.2.1,x.2.2.2.2.2.2.2.2]⟩
instance:Coe (Int×ByteArray×Sl×Int×Int×Int×Int×Sl×Sl) eS:=⟨λx=>xw (yY x)⟩
instance:Coe (Int×Int×Int×Int×Int×Int×Int×Sl) (List eS):=⟨λx=>[x.1,x.2.1,x.2.2.1,x.2.2.2.1,x.2.2.2.2.1,x.2.2.2.2.2.1,(xq xz x.2.2.2.2.2.2.1),x.2.2.2.2.2.2.2]⟩
instance:Coe (Int×Int×Int×Int×Int×Int×Int×Sl) eS:=⟨λx=>xw (yY x)⟩
instance:Coe (Sl×Sl) (List eS):=⟨λx=>[x.1,x.2]⟩
instance:Coe (Sl×Sl) eS:=⟨λx=>xw (yY x)⟩
instance:Coe (Sl×Sl×Sl) (List eS):=⟨λx=>[x.1,x.2.1,x.2.2]⟩
instance:Coe (Sl×Sl×Sl) eS:=⟨λx=>xw (yY x)⟩
instance:Coe (Int×Int) (List eS):=⟨λx=>[x.1,x.2]⟩
instance:Coe (Int×Int) eS:=⟨λx=>xw (yY x)⟩
abbrev aZ(h:Heap)(a:eX)(k:Int->Prop):Prop:=∃x,cellOf h a=dB (xq xx x)/\k x
abbrev gg(i:IntKind)(h:Heap)(a:eX)(k:Int->Prop):Prop:=∃x:Int,cellOf h a=dB (.int i x)/\k x
abbrev bi(h:Heap)(a:eX)(k:Sl->Prop):Prop:=∃x:Sl,cellOf h a=dB (x:eS)/\k x
abbrev FQ(h:Heap)(a:eX)(k:ByteArray->Prop):Prop:=∃x:ByteArray,cellOf h a=dB (xu x)/\k x
abbrev su(h:Heap)(a:eX)(k:Bool->Prop):Prop:=∃x:Bool,cellOf h a=dB (xv x)/\k x
abbrev kA(h:Heap)(a:eX)(k:aO->Prop):Prop:=∃x:aO,cellOf h a=dB (.pointer x)/\k x
abbrev aR(s:Sl)(i:Int)(k:eX->Prop):Prop:=∃a,(s.ptr=dB a/\0<=i/\i<((s.len:Nat):Int))/\k a
abbrev bR:=Int×Int×Int
abbrev iO:=ByteArray×Int×Int×Sl
abbrev cQ:=Int×Int×Int×Int×Int×Int×Sl×Sl
abbrev fg:=Int×Int×Int×Int×Int×Int×Int×Sl
abbrev Dn:=Int×ByteArray×Sl×Int×Int×Int×Int×Sl×Sl
abbrev Tu5:=Int×Int×Int×Bool×Bool
abbrev CF:Rt:=.one (.agg [(.int .i64),(.int .i64),(.int .i64),(.int .i64),(.int .i64),(.int .i64),.slc,.slc])
abbrev aiC:Rt:=.one (.agg [(.int .i64),.str,.slc,(.int .i64),(.int .i64),(.int .i64),(.int .u32),.slc,.slc])
abbrev aI:Rt:=.one (.sc .slc)
abbrev bx:Rt:=.one (.sc (.int .i64))
abbrev iP:Rt:=.one (.sc .ptr)
abbrev bN:Rt:=.one (.sc .bool)
abbrev il:Rt:=.many []
abbrev cA:Ty:=.sc .slc
abbrev ba:Ty:=.sc (.int .i64)
abbrev FR:Ty:=.sc .ptr
abbrev kB:Ty:=.sc .bool
abbrev XW:Ty:=.sc .str
variable {R:KZ} {h:Heap}
def ahr:ByteArray:=⟨#[97]⟩
def ahs:ByteArray:=⟨#[98]⟩
def Zj:ByteArray:=⟨#[99,97,116,45,55]⟩
def aht:ByteArray:=⟨#[100]⟩
def HK:ByteArray:=⟨#[101,49,50,51,52,53,54,55,56,57,48,49]⟩
def abG:ByteArray:=⟨#[0]⟩
def rz:ByteArray:=⟨#[]⟩
abbrev aY:TI:=⟨.fn,(.sc .fn),1,8,[.nilFunc]⟩
abbrev ti1:TI:=⟨.int .i64,(.sc (.int .i64)),1,8,[(xq xx 0)]⟩
abbrev ti2:TI:=⟨.int .u8,(.sc (.int .u8)),1,1,[(xq xy 0)]⟩
abbrev ti3:TI:=⟨.str,(.sc .str),1,16,[(.string ⟨#[]⟩)]⟩
abbrev ti4:TI:=⟨.int .u64,(.sc (.int .u64)),1,8,[(xq xA 0)]⟩
abbrev ti5:TI:=⟨.int .i32,(.sc (.int .i32)),1,4,[(.int .i32 0)]⟩
abbrev ti6:TI:=⟨.other,(.sc .any),1,0,[(.tuple #[(xt eH),(xq xx 0)])]⟩
abbrev ti7:TI:=⟨.other,(.sc .any),1,0,[(.tuple #[(xq xx 0),(xq xx 0)])]⟩
abbrev ti8:TI:=⟨.other,(.sc .any),1,0,[(.tuple #[(xr eH 0 0),(xq xx 0)])]⟩
abbrev ti9:TI:=⟨.other,(.sc .any),1,0,[(.tuple #[(xr eH 0 0),(.bool .false)])]⟩
abbrev Zk:TI:=⟨.struct [(0,3),(1,34)],(.agg [(.int .i64),.slc]),2,32,[(xq xx 0),(xr eH 0 0)]⟩
abbrev aiJ:TI:=⟨.struct [(0,2),(1,3),(2,4),(3,6)],(.agg [(.int .i64),(.int .i64),.bool,(.int .u8)]),4,24,[(xq xx 0),(xq xx 0),(.bool .false),(xq xy 0)]⟩
abbrev aiK:TI:=⟨.struct [(0,9),(1,12)],(.agg [.str,(.int .u64)]),2,24,[(xu ⟨#[]⟩),(xq xA 0)]⟩
abbrev aiL:TI:=⟨.struct [(0,17)],(.agg [.ptr]),1,8,[(xt eH)]⟩
abbrev aiM:TI:=⟨.struct [(0,3),(1,3),(2,3)],(.agg [(.int .i64),(.int .i64),(.int .i64)]),3,24,[(xq xx 0),(xq xx 0),(xq xx 0)]⟩
abbrev aiN:TI:=⟨.struct [(0,3),(1,3),(2,24),(5,3),(6,22),(7,42)],(.agg [(.int .i64),(.int .i64),(.int .i64),(.int .i64),(.int .i64),(.int .i64),.slc,.slc]),8,96,[(xq xx 0),(xq xx 0),(xq xx 0),(xq xx 0),(xq xx 0),(xq xx 0),(xr eH 0 0),(xr eH 0 0)]⟩
abbrev aiO:TI:=⟨.struct [(0,3),(1,3),(2,46)],(.agg [(.int .i64),(.int .i64),(.int .u32)]),3,24,[(xq xx 0),(xq xx 0),(xq xz 0)]⟩
abbrev aiP:TI:=⟨.struct [(0,44),(8,31),(9,3),(10,82)],(.arr .any),74,624,[(xq xx 0),(xq xx 0),(xq xx 0),(xq xx 0),(xq xx 0),(xq xx 0),(xr eH 0 0),(xr eH 0 0),(xt eH),(xq xx 0)]++qh 64 (xt eH)⟩
abbrev aiQ:TI:=⟨.struct [(0,4),(1,4),(2,3),(3,3)],(.agg [.bool,.bool,(.int .i64),(.int .i64)]),4,24,[(.bool .false),(.bool .false),(xq xx 0),(xq xx 0)]⟩
abbrev aiR:TI:=⟨.struct [(0,9),(1,3),(2,3),(3,22)],(.agg [.str,(.int .i64),(.int .i64),.slc]),4,56,[(xu ⟨#[]⟩),(xq xx 0),(xq xx 0),(xr eH 0 0)]⟩
abbrev aiS:TI:=⟨.struct [(0,27),(1,44),(9,22),(10,3),(11,3),(12,3)],(.agg [.ptr,(.int .i64),(.int .i64),(.int .i64),(.int .i64),(.int .i64),(.int .i64),.slc,.slc,.slc,(.int .i64),(.int .i64),(.int .i64)]),13,152,[(xt eH),(xq xx 0),(xq xx 0),(xq xx 0),(xq xx 0),(xq xx 0),(xq xx 0),(xr eH 0 0),(xr eH 0 0),(xr eH 0 0),(xq xx 0),(xq xx 0),(xq xx 0)]⟩
abbrev agi:TI:=⟨.struct [(0,3),(1,9),(2,34),(3,3),(4,3),(5,3),(6,46),(7,22),(8,22)],(.agg [(.int .i64),.str,.slc,(.int .i64),(.int .i64),(.int .i64),(.int .u32),.slc,.slc]),9,128,[(xq xx 0),(xu ⟨#[]⟩),(xr eH 0 0),(xq xx 0),(xq xx 0),(xq xx 0),(xq xz 0),(xr eH 0 0),(xr eH 0 0)]⟩
abbrev agj:TI:=⟨.struct [(0,31),(1,3),(2,85),(3,3),(4,85),(5,4),(6,4)],(.agg [.ptr,(.int .i64),.slc,(.int .i64),.slc,.bool,.bool]),7,80,[(xt eH),(xq xx 0),(xr eH 0 0),(xq xx 0),(xr eH 0 0),(.bool .false),(.bool .false)]⟩
abbrev agk:TI:=⟨.struct [(0,3),(1,3),(2,3),(3,24),(6,46),(7,34)],(.agg [(.int .i64),(.int .i64),(.int .i64),(.int .i64),(.int .i64),(.int .i64),(.int .u32),.slc]),8,80,[(xq xx 0),(xq xx 0),(xq xx 0),(xq xx 0),(xq xx 0),(xq xx 0),(xq xz 0),(xr eH 0 0)]⟩
abbrev agl:TI:=⟨.struct [(0,3),(1,3),(2,46),(3,165),(4,51),(5,22)],(.agg [(.int .i64),(.int .i64),(.int .u32),.ptr,.slc,.slc]),6,80,[(xq xx 0),(xq xx 0),(xq xz 0),(xt eH),(xr eH 0 0),(xr eH 0 0)]⟩
abbrev agm:TI:=⟨.struct [(0,192),(255,194)],(.arr .any),511,2304,qh 255 (xq xy 0)++qh 256 (xq xx 0)⟩
abbrev agn:TI:=⟨.struct [(0,119),(1,3),(2,85)],(.agg [.ptr,(.int .i64),.slc]),3,40,[(xt eH),(xq xx 0),(xr eH 0 0)]⟩
abbrev ago:TI:=⟨.struct [(0,24),(3,46),(4,85)],(.agg [(.int .i64),(.int .i64),(.int .i64),(.int .u32),.slc]),5,56,[(xq xx 0),(xq xx 0),(xq xx 0),(xq xz 0),(xr eH 0 0)]⟩
abbrev agp:TI:=⟨.struct [(0,3),(1,239)],(.agg [(.int .i64),(.flt .f64)]),2,16,[(xq xx 0),(.float Go.FloatKind.f64 0)]⟩
abbrev agq:TI:=⟨.struct [(0,22),(1,34)],(.agg [.slc,.slc]),2,48,[(xr eH 0 0),(xr eH 0 0)]⟩
abbrev agr:TI:=⟨.struct [(0,277),(1,22),(2,22)],(.agg [.slc,.slc,.slc]),3,72,[(xr eH 0 0),(xr eH 0 0),(xr eH 0 0)]⟩
abbrev ags:TI:=⟨.struct [(0,119),(1,24),(4,85),(5,273),(6,279),(9,85),(10,85)],(.agg [.ptr,(.int .i64),(.int .i64),(.int .i64),.slc,.slc,.slc,.slc,.slc,.slc,.slc]),11,200,[(xt eH),(xq xx 0),(xq xx 0),(xq xx 0),(xr eH 0 0),(xr eH 0 0),(xr eH 0 0),(xr eH 0 0),(xr eH 0 0),(xr eH 0 0),(xr eH 0 0)]⟩
abbrev agt:TI:=⟨.struct [(0,235),(1,235),(2,3),(3,3),(4,4)],(.agg [(.cpx .f64),(.cpx .f64),(.int .i64),(.int .i64),.bool]),5,56,[(.complex Go.FloatKind.f64 0 0),(.complex Go.FloatKind.f64 0 0),(xq xx 0),(xq xx 0),(.bool .false)]⟩
abbrev agu:TI:=⟨.struct [(0,273),(1,282),(2,85)],(.agg [.slc,.slc,.slc]),3,72,[(xr eH 0 0),(xr eH 0 0),(xr eH 0 0)]⟩
abbrev agv:TI:=⟨.struct [(0,3),(1,3)],(.agg [(.int .i64),(.int .i64)]),2,16,[(xq xx 0),(xq xx 0)]⟩
abbrev agw:TI:=⟨.array 256 4,(.arr .bool),256,256,qh 256 (.bool .false)⟩
abbrev agx:TI:=⟨.struct [(0,311)],(.agg [(.int .u64)]),1,8,[(xq xA 0)]⟩
abbrev agy:TI:=⟨.struct [(0,51),(1,282),(2,282)],(.agg [.slc,.slc,.slc]),3,72,[(xr eH 0 0),(xr eH 0 0),(xr eH 0 0)]⟩
abbrev agz:TI:=⟨.struct [(0,5),(1,5)],(.agg [(.int .u8),(.int .u8)]),2,2,[(xq xy 0),(xq xy 0)]⟩
abbrev agA:TI:=⟨.struct [(0,17),(1,17),(2,17),(3,9)],(.agg [.ptr,.ptr,.ptr,.str]),4,40,[(xt eH),(xt eH),(xt eH),(xu ⟨#[]⟩)]⟩
abbrev agB:TI:=⟨.struct [(0,391)],(.agg []),0,0,[]⟩
abbrev agC:TI:=⟨.struct [(0,12),(1,12),(2,46),(3,394),(4,5),(5,5),(6,395),(7,396),(8,252),(9,397),(10,398)],(.agg [(.int .u64),(.int .u64),(.int .u32),(.int .u8),(.int .u8),(.int .u8),(.int .u8),.fn,.ptr,(.int .i32),(.int .i32)]),11,48,[(xq xA 0),(xq xA 0),(xq xz 0),(xq xy 0),(xq xy 0),(xq xy 0),(xq xy 0),.nilFunc,(xt eH),(.int .i32 0),(.int .i32 0)]⟩
noncomputable def tbl:kJ:=[⟨.other,(.sc .any),1,0,[(.tuple #[])]⟩,aY,ti1,ti1,⟨.bool,(.sc .bool),1,1,[(.bool .false)]⟩,ti2,ti2,aiJ,aiJ,ti3,ti3,ti3,ti4,aiK,aiK,⟨.ptr 390,(.sc .ptr),1,8,[(xt eH)]⟩,⟨.ptr 393,(.sc .ptr),1,8,[(xt eH)]⟩,⟨.ptr 400,(.sc .ptr),1,8,[(xt eH)]⟩,aiL,aiL,⟨.other,(.sc .any),1,16,[.nilIface]⟩,ti5,⟨.slice 3,(.sc .slc),1,24,[(xr eH 0 0)]⟩,aiM,aiM,⟨.other,(.sc .any),1,0,[(.tuple #[(.agg #[(xq xx 0),(xq xx 0),(xq xx 0)]),(xq xx 0),(xr eH 0 0)])]⟩,aY,⟨.ptr 84,(.sc .ptr),1,8,[(xt eH)]⟩,ti1,ti6,aY,⟨.ptr 92,(.sc .ptr),1,8,[(xt eH)]⟩,aY,aY,⟨.slice 5,(.sc .slc),1,24,[(xr eH 0 0)]⟩,aY,aY,⟨.slice 9,(.sc .slc),1,24,[(xr eH 0 0)]⟩,aY,aY,ti7,aY,⟨.slice 94,(.sc .slc),1,24,[(xr eH 0 0)]⟩,aiN,aiN,aY,⟨.int .u32,(.sc (.int .u32)),1,4,[(xq xz 0)]⟩,aiO,aiO,⟨.slice 48,(.sc .slc),1,24,[(xr eH 0 0)]⟩,aY,⟨.slice 22,(.sc .slc),1,24,[(xr eH 0 0)]⟩,aY,aY,aY,aY,aY,⟨.other,(.sc .any),1,0,[(.tuple #[(xr eH 0 0),(.bool .false),(xq xx 0)])]⟩,aY,aY,aY,aY,⟨.other,(.sc .any),1,0,[(.tuple #[(.bool .false),(xq xx 0)])]⟩,aY,aY,aY,aY,aY,aY,ti8,aY,aY,aY,aY,⟨.ptr 156,(.sc .ptr),1,8,[(xt eH)]⟩,aY,aY,aY,aY,ti9,aY,aY,⟨.array 64 74,(.arr .ptr),64,512,qh 64 (xt eH)⟩,aiP,aiP,⟨.slice 34,(.sc .slc),1,24,[(xr eH 0 0)]⟩,aY,aY,aY,⟨.slice 101,(.sc .slc),1,24,[(xr eH 0 0)]⟩,aY,aiQ,aiQ,aiR,aiR,aY,aY,ti9,aY,aY,Zk,Zk,aY,aY,aY,aY,aY,⟨.ptr 109,(.sc .ptr),1,8,[(xt eH)]⟩,aiS,aiS,aY,aY,aY,aY,⟨.slice 117,(.sc .slc),1,24,[(xr eH 0 0)]⟩,aY,Zk,Zk,aY,⟨.ptr 197,(.sc .ptr),1,8,[(xt eH)]⟩,aY,aY,aY,ti8,aY,⟨.ptr 200,(.sc .ptr),1,8,[(xt eH)]⟩,aY,aY,aY,⟨.slice 85,(.sc .slc),1,24,[(xr eH 0 0)]⟩,aY,aY,⟨.slice 135,(.sc .slc),1,24,[(xr eH 0 0)]⟩,aY,agi,agi,aY,⟨.other,(.sc .any),1,0,[(.tuple #[(xq xx 0),(xr eH 0 0),(.bool .false)])]⟩,aY,aY,aY,aY,aY,aY,aY,aY,aY,aY,aY,aY,ti9,aY,aY,aY,aY,agj,agj,aY,aY,aY,aY,aY,⟨.other,(.sc .any),1,0,[(.tuple #[(xq xx 0),(.bool .false)])]⟩,aY,aY,⟨.ptr 234,(.sc .ptr),1,8,[(xt eH)]⟩,ti6,aY,aY,agk,agk,aY,aY,aY,aY,aY,aY,aY,aY,aY,aY,aY,⟨.ptr 187,(.sc .ptr),1,8,[(xt eH)]⟩,ti6,aY,aY,agl,agl,aY,⟨.slice 170,(.sc .slc),1,24,[(xr eH 0 0)]⟩,aY,aY,⟨.array 255 5,(.arr (.int .u8)),255,255,qh 255 (xq xy 0)⟩,aY,⟨.array 256 3,(.arr (.int .i64)),256,2048,qh 256 (xq xx 0)⟩,aY,agm,agm,aY,agn,agn,aY,aY,aY,aY,aY,aY,aY,aY,aY,aY,aY,aY,aY,aY,aY,aY,aY,aY,aY,ti8,aY,aY,aY,aY,aY,aY,aY,aY,ti4,aY,aY,aY,ago,ago,⟨.cpx,(.sc (.cpx .f64)),1,16,[(.complex Go.FloatKind.f64 0 0)]⟩,aY,⟨.slice 242,(.sc .slc),1,24,[(xr eH 0 0)]⟩,⟨.array 64 4,(.arr .bool),64,64,qh 64 (.bool .false)⟩,⟨.flt,(.sc (.flt .f64)),1,8,[(.float Go.FloatKind.f64 0)]⟩,aY,agp,agp,aY,aY,aY,aY,aY,aY,aY,aY,aY,⟨.ptr 5,(.sc .ptr),1,8,[(xt eH)]⟩,aY,⟨.other,(.sc .any),1,0,[(.tuple #[(.agg #[(xq xx 0),(xq xx 0),(xq xx 0),(xq xx 0),(xq xx 0),(xq xx 0),(xq xz 0),(xr eH 0 0)]),(.bool .false)])]⟩,aY,aY,aY,aY,aY,aY,aY,aY,aY,aY,aY,aY,aY,aY,aY,aY,aY,aY,⟨.slice 275,(.sc .slc),1,24,[(xr eH 0 0)]⟩,agq,agq,⟨.ptr 281,(.sc .ptr),1,8,[(xt eH)]⟩,⟨.slice 332,(.sc .slc),1,24,[(xr eH 0 0)]⟩,agr,agr,ags,ags,⟨.slice 4,(.sc .slc),1,24,[(xr eH 0 0)]⟩,⟨.other,(.sc .any),1,0,[(.tuple #[(xr eH 0 0),(xr eH 0 0),(xr eH 0 0),(xq xx 0)])]⟩,aY,aY,⟨.other,(.sc .any),1,0,[(.tuple #[(xr eH 0 0),(xr eH 0 0)])]⟩,aY,aY,aY,⟨.ptr 344,(.sc .ptr),1,8,[(xt eH)]⟩,aY,aY,aY,aY,aY,⟨.ptr 299,(.sc .ptr),1,8,[(xt eH)]⟩,aY,agt,agt,aY,aY,aY,ti1,ti7,aY,aY,aY,aY,aY,aY,ti4,aY,aY,aY,aY,aY,aY,aY,aY,aY,aY,aY,aY,⟨.ptr 326,(.sc .ptr),1,8,[(xt eH)]⟩,agu,agu,aY,⟨.other,(.sc .any),1,0,[(.tuple #[(.agg #[(xr eH 0 0),(xr eH 0 0),(xr eH 0 0)]),(.bool .false)])]⟩,aY,aY,agv,agv,aY,aY,aY,aY,agw,agw,⟨.other,(.sc .any),1,0,[(.tuple #[(.agg (qh 256 (.bool .false)).toArray),(.bool .false)])]⟩,aY,aY,⟨.ptr 338,(.sc .ptr),1,8,[(xt eH)]⟩,agx,agx,aY,aY,aY,aY,aY,aY,ti4,aY,aY,aY,⟨.ptr 3,(.sc .ptr),1,8,[(xt eH)]⟩,aY,aY,aY,aY,aY,aY,aY,aY,⟨.ptr 366,(.sc .ptr),1,8,[(xt eH)]⟩,agy,agy,aY,⟨.other,(.sc .any),1,0,[(.tuple #[(.agg #[(xq xx 0),(xq xx 0)]),(.bool .false)])]⟩,aY,aY,⟨.other,(.sc .any),1,0,[(.tuple #[(.int .i32 0),(xq xx 0)])]⟩,aY,aY,aY,aY,⟨.ptr 351,(.sc .ptr),1,8,[(xt eH)]⟩,ti7,aY,aY,aY,aY,aY,aY,⟨.array 256 5,(.arr (.int .u8)),256,256,qh 256 (xq xy 0)⟩,agz,agz,⟨.array 16 386,(.arr (.int .u8)),32,32,qh 32 (xq xy 0)⟩,aY,agA,agA,⟨.array 0 16,(.arr .ptr),0,0,[]⟩,agB,agB,ti2,ti2,aY,ti5,ti5,agC,agC,⟨.other,(.sc .any),1,8,[(xt eH)]⟩]
noncomputable def C:Ctx:={P:=xB,T:=tbl,tup:=[(0,[]),(25,[(.agg [(.int .i64),(.int .i64),(.int .i64)]),(.sc (.int .i64)),(.sc .slc)]),(29,[(.sc .ptr),(.sc (.int .i64))]),(40,[(.sc (.int .i64)),(.sc (.int .i64))]),(57,[(.sc .slc),(.sc .bool),(.sc (.int .i64))]),(62,[(.sc .bool),(.sc (.int .i64))]),(69,[(.sc .slc),(.sc (.int .i64))]),(79,[(.sc .slc),(.sc .bool)]),(97,[(.sc .slc),(.sc .bool)]),(123,[(.sc .slc),(.sc (.int .i64))]),(137,[(.sc (.int .i64)),(.sc .slc),(.sc .bool)]),(150,[(.sc .slc),(.sc .bool)]),(162,[(.sc (.int .i64)),(.sc .bool)]),(166,[(.sc .ptr),(.sc (.int .i64))]),(183,[(.sc .ptr),(.sc (.int .i64))]),(220,[(.sc .slc),(.sc (.int .i64))]),(254,[(.agg [(.int .i64),(.int .i64),(.int .i64),(.int .i64),(.int .i64),(.int .i64),(.int .u32),.slc]),(.sc .bool)]),(283,[(.sc .slc),(.sc .slc),(.sc .slc),(.sc (.int .i64))]),(286,[(.sc .slc),(.sc .slc)]),(304,[(.sc (.int .i64)),(.sc (.int .i64))]),(328,[(.agg [.slc,.slc,.slc]),(.sc .bool)]),(339,[(.arr .bool),(.sc .bool)]),(368,[(.agg [(.int .i64),(.int .i64)]),(.sc .bool)]),(371,[(.sc (.int .i32)),(.sc (.int .i64))]),(377,[(.sc (.int .i64)),(.sc (.int .i64))])],fns:=[eR,eR]++qh 328 eL++qh 22 eR++[eL]}
theorem ajP:(List.range C.T.length).map (kJ.seen C.P)=C.T.map kJ.told:=j1
theorem ahu:C.P.follows .mixedOrders=eL:=j1
theorem ajQ:(C.P.funcs.toList.map λf=>!(f.name== "runtime.NumGoroutine")&&f.body.isSome)=C.fns:=j1
theorem af:C.Ok:={tbl:=ajP,mixed:=ahu,fns:=ajQ}
noncomputable def lS(K:Sl)(I:Sl)(W:Int)(k:Int):Prop:=
 ae xB 24 #[K,I,(xq xx 10)] iP h λm Z=>
 Br (qS m)
 (R eR Z)
 (ae xB 25 #[m] aI Z λG h2=>
 ae xB 12 #[W,(xq xx (if(4:Int)<(G.len:Int)then(4:Int)else(G.len:Int)))] bx h2 λS h3=>
 ae xB 12 #[k,(xq xx 65)] bx h3 λr4 h4=>
 ae xB 15 #[m,S,r4] (.many [ba,ba]) h4 λF B=>
 Br (F.2 !=0)
 (Br (F.2==12) (ae xB 14 #[] bN B λr6 h6=>
 R r6 h6) (Br (F.2==7) (ae xB 14 #[] bN B λr7 h7=>
 R r7 h7) (Br (F.2==11) (ae xB 14 #[] bN B λr8 h8=>
 R r8 h8) (R eR B))))
 (ae xB 16 #[m] CF B λr9 h9=>
 aS xB (qL 44 eL (.tuple #[])) h9 λa X=>
 ag xB (qf 44 a r9) X λ_ D=>
 ∃s:cQ,aq D a 0 s/\
 ae xB 17 #[s] aI D λv Q=>
 aL (σ:=Int) (λl K1 q=>
 Br (l<(v.len:Int))
 (aR v l λV=>
 ∃c:bR,aq q (V.add (l.toNat*3)) 0 [c.1,c.2.1,(xq xz c.2.2)]/\
 aS xB (qL 48 eL (.tuple #[])) q λe J=>
 ag xB (qf 48 e (xw #[c.1,c.2.1,(xq xz c.2.2)])) J λ_ d=>
 bm (σ:=Bool×Int) (λw o=>
 Br w.1 (R eR o) (Br (w.2 !=0)
 (R eR o)
 (K1 (qc xx (l+1)) o)))
 (λK2=>
 ∃f:bR,aq d (a.add 2) 0 f/\
 gg .u32 d (e.add 2) λr=>
 aZ d e λM=>
 aZ d (e.add 1) λN=>
 ae xB 18 #[m,M,N] aI d λP z=>
 (az.ok [(e.add 2,(xq xz r)),(a.add 2,f.1),((a.add 2).add 1,f.2.1),((a.add 2).add 2,f.2.2)] z)/\
 ae xB 23 #[f,(xq xz r),P,S] (.many [cA,kB,ba]) z λE x=>
 (az.ok [] x)/\
 K2 (E.2.1,E.2.2) x))
 (aL (σ:=Int) (λi K3 j=>
 Br (i<(G.len:Int))
 (aR G i λa25=>
 aZ j (a25.add (i.toNat*1)) λt=>
 ∃b:cQ,aq j a 0 b/\
 ae xB 35 #[m,t] iP j λH A=>
 (az.ok [(a,b.1),(a.add 1,b.2.1),(a.add 2,b.2.2.1),(a.add 3,b.2.2.2.1),(a.add 4,b.2.2.2.2.1),(a.add 5,b.2.2.2.2.2.1),(a.add 6,b.2.2.2.2.2.2.1),(a.add 7,b.2.2.2.2.2.2.2)] A)/\
 ae xB 34 #[H,b] bN A λT g=>
 (az.ok [] g)/\
 Br (!T) ((az.ok [] g)/\
 (az.ok [] g)/\
 R eR g) (ae xB 35 #[m,t] iP g λY u=>
 (az.ok [] u)/\
 ae xB 36 #[Y] bx u λU p=>
 (az.ok [] p)/\
 Br (U !=0)
 (R eR p)
 (K3 (qc xx (i+1)) p)))
 (ae xB 15 #[m,S,(xq xx 0)] (.many [ba,ba]) j λy n=>
 Br (y.1==0) (Br (y.2==0) (ae xB 14 #[] bN n λL O=>
 R L O) (R eR n)) (R eR n))) (0:Int) q)) (0:Int) Q))
theorem rC(d:Sl)(c:Sl)(b:Int)(a:Int)(e:@lS R h d c b a):ac xB 6 #[d,c,b,a] h R:=aw af func6 (an.tn (an.tn (an.tn (an.tn (an.tn (an.tn (an.tn (an.tn (.two (an.tn (.inn (.loop [(64,ba)] [(8,9),(15,19),(64,90)] (an.tn (an.tn (.two (.inn (an.tn (.two (.join [(17,kB),(18,ba)] [(16,19),(68,84)] .n) .n))) .n)))))) (.two (an.tn (.inn (.loop [(92,ba)] [(8,9),(20,21),(92,110)] .n))) .n)))))))))) e
noncomputable def og(b:Sl):Prop:=
 aS xB (qL 24 eL (.tuple #[])) h λu F=>
 ae xB 38 #[b,(xq xx 0)] bx F λD y=>
 ae xB 38 #[b,(xq xx 1)] bx y λB h3=>
 ae xB 38 #[b,(xq xx 2)] bx h3 λJ z=>
 ae xB 37 #[D,B,J] (.one (.agg [(.int .i64),(.int .i64),(.int .i64)])) z λA G=>
 aS xB (qL 24 eL (.tuple #[])) G λd x=>
 ag xB (qf 24 d A) x λ_ v=>
 aL (σ:=Sl×Int) (λj E h8=>
 ae xB 38 #[b,(xq xx 4)] bx h8 λI w=>
 ae xB 12 #[I,(xq xx 4)] bx w λH g=>
 Br (j.2<(qc xx (2+H)))
 (ae xB 38 #[b,(qc xx (5+j.2))] bx g λl t=>
 ae xB 12 #[l,(xq xx 50)] bx t λq r=>
 aB xB (qq 22 1 #[(0,(qc xx (8+q)))]) aI r λo s=>
 aB xB (qt #[22,22] 22 #[j.1,o]) aI s λf n=>
 E ((⟨f.ptr,f.len,f.cap⟩:Sl),qc xx (j.2+1)) n)
 (∃a:bR,aq g d 0 a/\
 ae xB 38 #[b,(xq xx 3)] bx g λm i=>
 (az.ok [(d,a.1),(d.add 1,a.2.1),(d.add 2,a.2.2)] i)/\
 ae xB 12 #[m,(xq xx 7)] bx i λp k=>
 (az.ok [(d,a.1),(d.add 1,a.2.1),(d.add 2,a.2.2)] k)/\
 ag xB (qf 24 u a) k λ_ e=>
 (az.ok [] e)/\
 ∃c:bR,aq e u 0 c/\
 R (.tuple #[c,p,j.1]) e)) ((⟨eH,0,0⟩:Sl),(0:Int)) v
theorem xJ(a:Sl)(b:@og R h a):ac xB 7 #[a] h R:=aw af func7 (an.tn (an.tn (an.tn (an.tn (.two (an.tn (.inn (.loop [(7,cA),(8,ba)] [(7,9),(16,35)] .n))) .n))))) b
noncomputable def Do(G:bR)(a:Int)(c:aO)(b:Sl):Prop:=
 aS xB (qM 24 G) h λk S=>
 ae xB 39 #[b] (.many [cA,kB]) S λl E=>
 bm (σ:=Unit) (λ_ K=>
 bm (σ:=aO) (λd N=>
 aL (σ:=Int) (λj Q h8=>
 Br (j<(l.1.len:Int))
 (aR l.1 j λB=>
 aZ h8 (B.add (j.toNat*1)) λm=>
 aR b m λu=>
 aZ h8 (u.add (m.toNat*1)) λr=>
 ∃v,(d=dB v)/\
 ∃x:cQ,aq h8 v 0 x/\
 ae xB 42 #[x] aI h8 λH z=>
 (az.ok [(u.add (m.toNat*1),r)] z)/\
 Br (r<(H.len:Int))
 (R (.tuple #[(xt eH),(xq xx 7)]) z)
 (Q (qc xx (j+1)) z))
 (aL (σ:=Int) (λi P f=>
 Br (i<(l.1.len:Int))
 (aR l.1 i λD=>
 aZ f (D.add (i.toNat*1)) λe=>
 aR b e λa22=>
 aZ f (a22.add (e.toNat*1)) λA=>
 ∃s,(d=dB s)/\
 ae xB 43 #[A,c] iP f λF w=>
 (az.ok [] w)/\
 (0<=e/\e<((64:Nat):Int))/\
 ag xB (qf 74 ((s.add 10).add (e.toNat*1)) F) w λ_ q=>
 (az.ok [] q)/\
 P (qc xx (i+1)) q)
 (∃p,(d=dB p)/\
 ∃o:cQ,aq f p 0 o/\
 ae xB 45 #[o,l.1] aI f λy I=>
 ae xB 44 #[(.func (.func 35) #[d] #[]),y] bx I λt n=>
 Br (t !=0)
 (R (.tuple #[(xt eH),t]) n)
 (R (.tuple #[d,(xq xx 0)]) n))) (0:Int) h8)) (0:Int) N)
 (λO=>
 ∃g:bR,aq K k 0 g/\
 ae xB 41 #[c] bx K λU M=>
 (az.ok [(k,g.1),(k.add 1,g.2.1),(k.add 2,g.2.2)] M)/\
 ∃L:eS,(aN xB (vU 84 #[(0,(xw #[(xq xx 1),(xq xx 0),g.1,g.2.1,g.2.2,a,l.1,(xr eH 0 0)])),(1,c),(2,U)]) L)/\
 aS xB (qM 84 L) M λa9 J=>
 (az.ok [(k,g.1),(k.add 1,g.2.1),(k.add 2,g.2.2)] J)/\
 O (dB a9) J))
 (λT=>
 Br (!l.2) (R (.tuple #[(xt eH),(xq xx 1)]) E) (∃x3:bR,aq E k 0 x3/\
 ae xB 40 #[x3] bN E λV h3=>
 Br (!V) (R (.tuple #[(xt eH),(xq xx 1)]) h3) (Br (a<0) (R (.tuple #[(xt eH),(xq xx 1)]) h3) (Br (a>16) (R (.tuple #[(xt eH),(xq xx 1)]) h3) (Br (qS c)
 (R (.tuple #[(xt eH),(xq xx 1)]) h3)
 (T () h3))))))
theorem Ls(d:bR)(a:Int)(c:aO)(b:Sl)(e:@Do R h d a c b):ac xB 8 #[d,a,c,b] h R:=aw af func8 (an.tn (an.tn (.two (.join [] [(8,10),(23,42)] .n) (.two (.join [(12,FR)] [(12,13),(42,51)] .n) (.two (an.tn (.inn (.loop [(53,ba)] [(8,10),(14,15),(53,69)] .n))) (.two (an.tn (.inn (.loop [(71,ba)] [(16,17),(71,87)] .n))) .n)))))) e
noncomputable def Kk:Prop:=
 aS xB (qM 92 (xw #[eR,eR,(xq xx 0),(xq xx 0)])) h λa b=>
 R a b
theorem RE(a:@Kk R h):ac xB 9 #[] h R:=aw af func9 .n a
noncomputable def uV(a:aO)(e:ByteArray)(j:Sl):Prop:=
 ae xB 46 #[a,e,j] bx h λr1 Z=>
 Br (r1 !=0)
 (R r1 Z)
 (∃a2,(a=dB a2)/\
 aZ Z (a2.add 1) λx3=>
 aS xB (qL 94 eL (.tuple #[])) Z λa4 h2=>
 ag xB (qf 94 a4 (xw #[e,x3,(xq xx (j.len:Int)),(xr eH 0 0)])) h2 λ_ h3=>
 bm (σ:=Sl×Bool) (λs h6=>
 Br (!s.2)
 (R (xq xx 8) h6)
 (ag xB (qf 22 (a4.add 3) s.1) h6 λ_ h7=>
 ∃J:iO,aq h7 a4 0 J/\
 ae xB 49 #[a,J,j] (.many [cA,kB]) h7 λz h8=>
 aS xB (qL 89 eL (.tuple #[])) h8 λk h9=>
 ag xB (qf 89 k z.1) h9 λ_ g=>
 Br (!z.2)
 (R (xq xx 8) g)
 (bm (σ:=eX×Sl) (λf v=>
 ∃A:cQ,aq v f.1 0 A/\
 ae xB 42 #[A] aI v λX Y=>
 aS xB (qL 3 eL (.tuple #[])) Y λp U=>
 ag xB (qf 3 p (xq xx (X.len:Int))) U λ_ V=>
 ae xB 52 #[a,f.2,(.func (.func 51) #[] #[p,k])] bN V λab O=>
 Br (!ab)
 (R (xq xx 7) O)
 (ae xB 53 #[a,f.2,(.func (.func 51) #[] #[p,k])] bx O λE l=>
 Br (E !=0)
 (R E l)
 (bi l k λW=>
 ae xB 44 #[(.func (.func 35) #[a] #[]),W] bx l λy r=>
 Br (y !=0)
 (R y r)
 (∃x:cQ,aq r f.1 0 x/\
 ae xB 54 #[a,x,f.2] bx r λad ah=>
 R ad ah))))
 (λS=>
 ∃c,(a=dB c)/\
 ∃b:cQ,aq g c 0 b/\
 ∃d:iO,aq g a4 0 d/\
 (ae xB 50 #[b,d] CF g λL q=>
 (az.ok [] q)/\
 (ae xB 25 #[a] aI q λn G=>
 (az.ok [] G)/\
 aS xB (qL 44 eL (.tuple #[])) G λD K=>
 (az.ok [] K)/\
 ag xB (qf 44 D L) K λ_ t=>
 (az.ok [] t)/\
 S (D,(⟨n.ptr,n.len,n.cap⟩:Sl)) t)/\(aS xB (qL 44 eL (.tuple #[])) q λa22 w=>
 (az.ok [] w)/\
 ae xB 25 #[a] aI w λo M=>
 (az.ok [] M)/\
 ag xB (qf 44 a22 L) M λ_ B=>
 (az.ok [] B)/\
 S (a22,(⟨o.ptr,o.len,o.cap⟩:Sl)) B))/\(aS xB (qL 44 eL (.tuple #[])) g λI F=>
 (az.ok [(a4,d.1),(a4.add 1,d.2.1),(a4.add 2,d.2.2.1),(a4.add 3,d.2.2.2),(c,b.1),(c.add 1,b.2.1),(c.add 2,b.2.2.1),(c.add 3,b.2.2.2.1),(c.add 4,b.2.2.2.2.1),(c.add 5,b.2.2.2.2.2.1),(c.add 6,b.2.2.2.2.2.2.1),(c.add 7,b.2.2.2.2.2.2.2)] F)/\
 ae xB 50 #[b,d] CF F λT u=>
 (az.ok [] u)/\
 ae xB 25 #[a] aI u λm N=>
 (az.ok [] N)/\
 ag xB (qf 44 I T) N λ_ P=>
 (az.ok [] P)/\
 S (I,(⟨m.ptr,m.len,m.cap⟩:Sl)) P)))))
 (λK1=>
 ∃a5,(a=dB a5)/\
 ∃H:bR,aq h3 (a5.add 2) 0 H/\
 aZ h3 (a4.add 1) λx7=>
 ∃a8,(a=dB a8)/\
 ∃x9:bR,aq h3 (a8.add 2) 0 x9/\
 ae xB 48 #[x9,(xq xx (j.len:Int))] bx h3 λQ h4=>
 (az.ok [(a4.add 1,x7),(a5.add 2,H.1),((a5.add 2).add 1,H.2.1),((a5.add 2).add 2,H.2.2)] h4)/\
 ae xB 47 #[H,x7,Q] (.many [cA,kB]) h4 λi h5=>
 (az.ok [] h5)/\
 K1 ((⟨i.1.ptr,i.1.len,i.1.cap⟩:Sl),i.2) h5))
theorem GA(c:aO)(a:ByteArray)(b:Sl)(d:@uV R h c a b):ac xB 10 #[c,a,b] h R:=aw af func10 (an.tn (an.tn (an.tn (.two (.join [(9,cA),(10,kB)] [(9,11),(34,53)] .n) (an.tn (an.tn (an.tn (an.tn (.two (.join [(12,(.sc .adr)),(13,cA)] [(12,14),(66,74)] .n) .n))))))))) d
noncomputable def pC(c:Int)(b:Int):Prop:=
 aL (σ:=Sl×Int) (λa g d=>
 Br (a.2<c)
 (((7:Int)≠0)/\
 (0<=(wi a.2 7))/\
 aB xB (qq 34 1 #[(0,(xq xy (qc xy (qc xx ((qX b (2^min (wi a.2 7).toNat (qk xx)))+(qc xx (a.2*(qc xx ((qD (qk xx) b|||(qD (qk xx) (1:Int))).toNat:Nat)))))))))]) aI d λf e=>
 aB xB (qt #[34,34] 34 #[a.1,f]) aI e λv3 h3=>
 g ((⟨v3.ptr,v3.len,v3.cap⟩:Sl),qc xx (a.2+1)) h3)
 (R a.1 d)) ((⟨eH,0,0⟩:Sl),(0:Int)) h
theorem Bh(b:Int)(a:Int)(c:@pC R h b a):ac xB 11 #[b,a] h R:=aw af func11 (an.tn (an.tn (.two (an.tn (.inn (.loop [(5,cA),(6,ba)] [(5,25)] .n))) .n))) c
noncomputable def oh(b:Int)(a:Int):Prop:=
 (a≠0)/\
 bm (σ:=Int) (λe d=>
 R e d)
 (λc=>
 Br ((wi b a)<0)
 (c (qc xx ((wi b a)+a)) h)
 (c (wi b a) h))
theorem xK(b:Int)(a:Int)(c:@oh R h b a):ac xB 12 #[b,a] h R:=aw af func12 (an.tn (an.tn (.two (.join [(0,ba)] [(0,1),(8,13)] .n) .n))) c
noncomputable def ol:Prop:=
 ae xB 9 #[] iP h λi g=>
 aB xB (qq 22 1 #[(0,(xq xx 5))]) aI g λe d=>
 ae xB 8 #[(xw #[(xq xx 1),(xq xx 1),(xq xx 1)]),(xq xx 0),i,e] (.many [FR,ba]) d λb h3=>
 ae xB 15 #[b.1,(xq xx 0),(xq xx 0)] (.many [ba,ba]) h3 λc f=>
 ae xB 15 #[b.1,(xq xx 1),(xq xx 0)] (.many [ba,ba]) f λj a=>
 Br (b.2==0) (Br (c.2==0) (Br (c.1==0) (R (xv (j.2==1)) a) (R eR a)) (R eR a)) (R eR a)
theorem xL(a:@ol R h):ac xB 14 #[] h R:=aw af func14 .n a
noncomputable def uH(b:aO)(e:Int)(a:Int):Prop:=
 bm (σ:=Unit) (λ_ M=>
 ae xB 16 #[b] CF M λf h3=>
 ae xB 25 #[b] aI h3 λS N=>
 aS xB (qM 109 (xw #[b,f.1,f.2.1,f.2.2.1,f.2.2.2.1,f.2.2.2.2.1,f.2.2.2.2.2.1,f.2.2.2.2.2.2.1,f.2.2.2.2.2.2.2,S,e,a,(xq xx 0)])) N λa5 t=>
 bm (σ:=Unit) (λ_ h8=>
 ae xB 59 #[a5] bx h8 λq w=>
 Br (q !=0)
 (R (.tuple #[(xq xx 0),q]) w)
 (∃s:eX,(dB a5=dB s)/\
 bi w ((s.add 1).add 7) λo=>
 aL (σ:=Int) (λc L d=>
 Br (c<(o.len:Int))
 (aR o c λB=>
 ∃l:iO,aq d (B.add (c.toNat*4)) 0 l/\
 aS xB (qL 94 eL (.tuple #[])) d λi E=>
 ag xB (qf 94 i l) E λ_ n=>
 bi n (i.add 3) λD=>
 aL (σ:=Int) (λk P j=>
 Br (k<(D.len:Int))
 (∃u:iO,aq j i 0 u/\
 ae xB 60 #[a5,u,k] bx j λp g=>
 Br (p !=0)
 (∃r:eX,(dB a5=dB r)/\
 aZ g (r.add 12) λF=>
 R (.tuple #[F,p]) g)
 (P (qc xx (k+1)) g))
 (L (qc xx (c+1)) j)) (0:Int) n)
 (∃m:eX,(dB a5=dB m)/\
 aZ d (m.add 12) λz=>
 R (.tuple #[z,(xq xx 0)]) d)) (0:Int) w))
 (λJ=>
 bm (σ:=Bool) (λQ y=>
 Br Q
 (R (.tuple #[(xq xx 0),(xq xx 1)]) y)
 (∃a9:eX,(dB a5=dB a9)/\
 bi y (a9.add 9) λx=>
 ae xB 58 #[(xq xx (x.len:Int)),e] bx y λA H=>
 Br (A>4096)
 (R (.tuple #[(xq xx 0),(xq xx 13)]) H)
 (J () H)))
 (λv=>
 Br (e<0) (v eL t) (∃G:eX,(dB a5=dB G)/\
 bi t (G.add 9) λK=>
 Br (e>=(K.len:Int)) (v eL t) (Br (a<0) (v eL t) (v (decide (a>64)) t))))))
 (λO=>
 Br (qS b) (R (.tuple #[(xq xx 0),(xq xx 14)]) h) (ae xB 57 #[b] bN h λT I=>
 Br T
 (R (.tuple #[(xq xx 0),(xq xx 14)]) I)
 (O () I)))
theorem BX(c:aO)(b:Int)(a:Int)(d:@uH R h c b a):ac xB 15 #[c,b,a] h R:=aw af func15 (an.tn (.two (.join [] [(6,8),(14,20)] .n) (an.tn (.two (.join [] [(6,8),(29,58)] (.inn (.two (.join [(29,kB)] [(29,49)] .n) .n))) (an.tn (.two (an.tn (.inn (.loop [(69,ba)] [(6,8),(11,14),(69,92)] (an.tn (an.tn (.two (.inn (an.tn (an.tn (.inn (.loop [(76,ba)] [(6,8),(12,14),(76,91)] .n))))) .n)))))) .n)))))) d
noncomputable def lu(c:aO):Prop:=
 aS xB (qL 44 eL (.tuple #[])) h λd e=>
 Br (qS c)
 (ag xB (qf 44 d (xw #[(xq xx 0),(xq xx 0),(xq xx 0),(xq xx 0),(xq xx 0),(xq xx 0),(xr eH 0 0),(xr eH 0 0)])) e λ_ f=>
 ∃a:cQ,aq f d 0 a/\
 R a f)
 (∃a3,(c=dB a3)/\
 ∃i:cQ,aq e a3 0 i/\
 ae xB 61 #[i] CF e λj h3=>
 ag xB (qf 44 d j) h3 λ_ g=>
 ∃b:cQ,aq g d 0 b/\
 R b g)
theorem nu(a:aO)(b:@lu R h a):ac xB 16 #[a] h R:=aw af func16 .n b
noncomputable def nv(k:cQ):Prop:=
 aS xB (qM 44 k) h λu s=>
 bi s (u.add 7) λx2=>
 aL (σ:=Sl×Int) (λc v j=>
 Br (c.2<(x2.len:Int))
 (aR x2 c.2 λa4=>
 ∃r:iO,aq j (a4.add (c.2.toNat*4)) 0 r/\
 aS xB (qL 94 eL (.tuple #[])) j λd h3=>
 ag xB (qf 94 d r) h3 λ_ q=>
 bi q (d.add 3) λo=>
 aL (σ:=Sl×Int) (λa t f=>
 Br (a.2<(o.len:Int))
 (aR o a.2 λa9=>
 aZ f (a9.add (a.2.toNat*1)) λg=>
 aZ f (d.add 1) λb=>
 aZ f (d.add 1) λi=>
 ae xB 62 #[i,a.2,g] (.one (.sc (.int .u32))) f λl p=>
 (az.ok [(d.add 1,b)] p)/\
 aB xB (qq 49 1 #[(0,(xw #[b,a.2,(xq xz l)]))]) aI p λm n=>
 (az.ok [(d.add 1,b)] n)/\
 aB xB (qt #[49,49] 49 #[a.1,m]) aI n λe h8=>
 (az.ok [(d.add 1,b)] h8)/\
 t ((⟨e.ptr,e.len,e.cap⟩:Sl),qc xx (a.2+1)) h8)
 (v ((⟨a.1.ptr,a.1.len,a.1.cap⟩:Sl),qc xx (c.2+1)) f)) ((⟨c.1.ptr,c.1.len,c.1.cap⟩:Sl),(0:Int)) q)
 (R c.1 j)) ((⟨eH,0,0⟩:Sl),(0:Int)) s
theorem uI(a:cQ)(b:@nv R h a):ac xB 17 #[a] h R:=aw af func17 (an.tn (an.tn (.two (an.tn (.inn (.loop [(3,cA),(11,ba)] [(3,4),(5,8),(11,37)] (an.tn (an.tn (.two (.inn (an.tn (an.tn (.inn (.loop [(3,cA),(18,ba)] [(3,4),(6,8),(18,36)] .n))))) .n)))))) .n))) b
noncomputable def sv(d:aO)(a:Int)(b:Int):Prop:=
 ae xB 25 #[d] aI h λw B=>
 aL (σ:=Sl×Int) (λg D m=>
 Br (g.2<(w.len:Int))
 (aR w g.2 λa3=>
 aZ m (a3.add (g.2.toNat*1)) λE=>
 aB xB (qq 22 1 #[(0,E)]) aI m λv5 h3=>
 ∃s,(d=dB s)/\
 ∃u:cQ,aq h3 s 0 u/\
 ae xB 63 #[(.func (.func 35) #[d] #[]),v5,u,a,b] aI h3 λv A=>
 aL (σ:=Sl×Int) (λf y o=>
 Br (f.2<(v.len:Int))
 (aR v f.2 λl=>
 ∃i:Int×Sl,aq o (l.add (f.2.toNat*2)) 0 i/\
 aS xB (qL 117 eL (.tuple #[])) o λj z=>
 ag xB (qf 117 j i) z λ_ t=>
 aZ t j λn=>
 aB xB (qq 22 1 #[(0,n)]) aI t λp h8=>
 aB xB (qt #[22,22] 22 #[f.1,p]) aI h8 λe x=>
 y ((⟨e.ptr,e.len,e.cap⟩:Sl),qc xx (f.2+1)) x)
 (aB xB (qq 51 1 #[(0,f.1)]) aI o λk q=>
 aB xB (qt #[51,51] 51 #[g.1,k]) aI q λc r=>
 D ((⟨c.ptr,c.len,c.cap⟩:Sl),qc xx (g.2+1)) r)) ((⟨eH,0,0⟩:Sl),(0:Int)) A)
 (R g.1 m)) ((⟨eH,0,0⟩:Sl),(0:Int)) B
theorem Dp(c:aO)(a:Int)(b:Int)(d:@sv R h c a b):ac xB 18 #[c,a,b] h R:=aw af func18 (an.tn (an.tn (.two (an.tn (.inn (.loop [(7,cA),(16,ba)] [(7,8),(9,11),(12,13),(16,47)] (an.tn (an.tn (.two (.inn (an.tn (an.tn (.two (an.tn (.inn (.loop [(10,cA),(32,ba)] [(10,11),(12,13),(32,42)] .n))) .n)))) .n)))))) .n))) d
noncomputable def FS(d:bR)(a:Int)(b:Sl):Prop:=
 aS xB (qM 24 d) h λc f=>
 ∃x2:bR,aq f c 0 x2/\
 ae xB 65 #[] iP f λj e=>
 (az.ok [(c,x2.1),(c.add 1,x2.2.1),(c.add 2,x2.2.2)] e)/\
 ae xB 66 #[x2,(xq xz a),b] aI e λi h3=>
 (az.ok [] h3)/\
 ae xB 64 #[j,i] bx h3 λk g=>
 (az.ok [] g)/\
 R k g
theorem MM(c:bR)(a:Int)(b:Sl)(d:@FS R h c a b):ac xB 20 #[c,(xq xz a),b] h R:=aw af func20 .n d
noncomputable def MN(c:bR):Prop:=
 aS xB (qM 24 c) h λb d=>
 ∃x2:bR,aq d b 0 x2/\
 ae xB 40 #[x2] bN d λf a=>
 Br (!f)
 (R (xq xx 0) a)
 (aZ a b λg=>
 aZ a (b.add 1) λe=>
 R (qc xx (g+e)) a)
theorem TT(a:bR)(b:@MN R h a):ac xB 21 #[a] h R:=aw af func21 .n b
noncomputable def FT(q:bR)(d:Int)(a:Sl)(t:Int):Prop:=
 aS xB (qM 24 q) h λk y=>
 ∃x2:bR,aq y k 0 x2/\
 ae xB 40 #[x2] bN y λG w=>
 Br (!G)
 (R (.tuple #[(xr eH 0 0),eR,(xq xx 1)]) w)
 (ae xB 68 #[(xq xx (a.len:Int)),t] (.many [cA,ba]) w λl h3=>
 Br (l.2 !=0)
 (R (.tuple #[(xr eH 0 0),eR,l.2]) h3)
 (∃x:bR,aq h3 k 0 x/\
 ae xB 21 #[x] bx h3 λu F=>
 ae xB 65 #[] iP F λI J=>
 ae xB 69 #[I,u] iP J λz v=>
 ∃A:bR,aq v k 0 A/\
 ae xB 70 #[A] aI v λf B=>
 aL (σ:=Int) (λc H h8=>
 Br (c<(f.len:Int))
 (aR f c λn=>
 bi h8 (n.add (c.toNat*1)) λr=>
 ae xB 71 #[z,r] bN h8 λ_ D=>
 H (qc xx (c+1)) D)
 (∃j:bR,aq h8 k 0 j/\
 ae xB 72 #[j,(xq xz d),a] aI h8 λm s=>
 aL (σ:=Int) (λb E e=>
 Br (b<(l.1.len:Int))
 (aR l.1 b λo=>
 bi e (o.add (b.toNat*1)) λg=>
 ae xB 73 #[z,m,g,u] bN e λp i=>
 Br (!p)
 (R (.tuple #[g,eL,(xq xx 0)]) i)
 (E (qc xx (b+1)) i))
 (R (.tuple #[(xr eH 0 0),eR,(xq xx 0)]) e)) (0:Int) s)) (0:Int) B))
theorem MO(c:bR)(b:Int)(a:Sl)(d:Int)(e:@FT R h c b a d):ac xB 23 #[c,(xq xz b),a,d] h R:=aw af func23 (an.tn (an.tn (an.tn (an.tn (an.tn (an.tn (.two (an.tn (.inn (.loop [(40,ba)] [(15,16),(40,48)] .n))) (an.tn (.two (an.tn (.inn (.loop [(54,ba)] [(8,11),(18,19),(54,66)] .n))) .n))))))))) e
noncomputable def oE(A:Sl)(x:Sl)(g:Int):Prop:=
 ae xB 7 #[A] (.many [(.agg [(.int .i64),(.int .i64),(.int .i64)]),ba,cA]) h λn h1=>
 aS xB (qL 24 eL (.tuple #[])) h1 λl h2=>
 ag xB (qf 24 l n.1) h2 λ_ h3=>
 aL (σ:=Int) (λm K1 u=>
 Br (m<(n.2.2.len:Int))
 (aR n.2.2 m λa4=>
 aZ u (a4.add (m.toNat*1)) λx5=>
 aR n.2.2 m λa6=>
 ag xB (qf 3 (a6.add (m.toNat*1)) (qc xx (60+x5))) u λ_ h5=>
 K1 (qc xx (m+1)) h5)
 (bm (σ:=aO×Int) (λd h8=>
 bm (σ:=Unit) (λ_ X=>
 ∃p:bR,aq X l 0 p/\
 ae xB 74 #[p,x,g,eR] aI X λr T=>
 aL (σ:=Int) (λc i j=>
 Br (c<(r.len:Int))
 (aR r c λV=>
 ∃t:Dn,aq j (V.add (c.toNat*9)) 0 t/\
 aS xB (qL 135 eL (.tuple #[])) j λa M=>
 ag xB (qf 135 a t) M λ_ b=>
 aZ b a λe=>
 Br (e==1)
 (FQ b (a.add 1) λH=>
 bi b (a.add 2) λJ=>
 ae xB 10 #[d.1,H,J] bx b λ_ z=>
 i (qc xx (c+1)) z)
 (Br (e==3)
 (FQ b (a.add 1) λU=>
 ae xB 75 #[d.1,U] bx b λ_ F=>
 i (qc xx (c+1)) F)
 (Br (e==11)
 (aZ b (a.add 3) λy=>
 ae xB 35 #[d.1,y] iP b λq s=>
 aZ s (a.add 4) λD=>
 ae xB 77 #[q,D] aI s λN I=>
 ae xB 76 #[N] (.many [ba,cA,kB]) I λw f=>
 Br w.2.2
 (aZ f (a.add 4) λL=>
 aZ f (a.add 5) λv=>
 gg .u32 f (a.add 6) λG=>
 ae xB 78 #[q,L,v,(xq xz G)] bN f λ_ B=>
 i (qc xx (c+1)) B)
 (i (qc xx (c+1)) f))
 (Br (e==6)
 (aZ b (a.add 3) λO=>
 aZ b (a.add 4) λP=>
 ae xB 79 #[d.1,O,(qc xx (P+40))] bx b λ_ Q=>
 i (qc xx (c+1)) Q)
 (Br (e==9)
 (ae xB 25 #[d.1] aI b λS k=>
 Br ((S.len:Int)>1)
 (aZ k (a.add 3) λK=>
 ae xB 28 #[d.1,K] bx k λ_ E=>
 i (qc xx (c+1)) E)
 (i (qc xx (c+1)) k))
 (i (qc xx (c+1)) b))))))
 (R d.1 j)) (0:Int) T)
 (λK3=>
 Br (d.2 !=0) (R (xt eH) h8) (Br (qS d.1)
 (R (xt eH) h8)
 (K3 () h8))))
 (λK2=>
 ∃o:bR,aq u l 0 o/\
 ae xB 9 #[] iP u λr8 Y=>
 (az.ok [(l,o.1),(l.add 1,o.2.1),(l.add 2,o.2.2)] Y)/\
 ae xB 8 #[o,n.2.1,r8,n.2.2] (.many [FR,ba]) Y λZ W=>
 (az.ok [] W)/\
 K2 (Z.1,Z.2) W))) (0:Int) h3
theorem Az(b:Sl)(c:Sl)(a:Int)(d:@oE R h b c a):ac xB 24 #[b,c,a] h R:=aw af func24 (an.tn (an.tn (.two (an.tn (.inn (.loop [(27,ba)] [(10,11),(27,39)] .n))) (.two (.join [(11,FR),(12,ba)] [(11,13),(39,47)] .n) (.two (.join [] [(6,7),(47,53)] .n) (.two (an.tn (.inn (.loop [(58,ba)] [(14,19),(58,122)] .n))) .n)))))) d
noncomputable def ug(a:aO):Prop:=
 Br (qS a)
 (R (xr eH 0 0) h)
 (∃b,(a=dB b)/\
 bi h (b.add 6) λx2=>
 ae xB 80 #[(.func (.func 35) #[a] #[]),x2] aI h λc d=>
 R c d)
theorem EN(a:aO)(b:@ug R h a):ac xB 25 #[a] h R:=aw af func25 .n b
noncomputable def AA(b:aO)(a:Int):Prop:=
 ae xB 83 #[b] bN h λk c=>
 Br k
 (R (xq xx 14) c)
 (ae xB 25 #[b] aI c λi e=>
 ae xB 84 #[i,a] bN e λg h3=>
 Br (!g)
 (R (xq xx 5) h3)
 (ae xB 35 #[b,a] iP h3 λf j=>
 ae xB 85 #[f] il j λ_ d=>
 R (xq xx 0) d))
theorem Dq(b:aO)(a:Int)(c:@AA R h b a):ac xB 28 #[b,a] h R:=aw af func28 .n c
noncomputable def BY(c:aO)(a:Int)(b:Int):Prop:=
 ae xB 83 #[c] bN h λG u=>
 Br G
 (R (xq xx 14) u)
 (ae xB 16 #[c] CF u λB y=>
 aS xB (qL 44 eL (.tuple #[])) y λa3 h3=>
 ag xB (qf 44 a3 B) h3 λ_ z=>
 ae xB 88 #[a,b] bN z λF o=>
 Br (!F)
 (R (xq xx 1) o)
 (bi o (a3.add 6) λA=>
 ae xB 84 #[A,a] bN o λx t=>
 Br (!x)
 (R (xq xx 5) t)
 (ae xB 25 #[c] aI t λD w=>
 ae xB 84 #[D,a] bN w λE h8=>
 Br E
 (R (xq xx 4) h8)
 (∃v:cQ,aq h8 a3 0 v/\
 ae xB 42 #[v] aI h8 λf s=>
 Br (b<(f.len:Int))
 (R (xq xx 7) s)
 (ae xB 90 #[c] iP s λl p=>
 ae xB 43 #[b,l] iP p λk q=>
 ae xB 89 #[c,a,k] il q λ_ e=>
 ∃d:cQ,aq e a3 0 d/\
 aB xB (qq 22 1 #[(0,a)]) aI e λr m=>
 ae xB 45 #[d,r] aI m λj g=>
 ae xB 44 #[(.func (.func 35) #[c] #[]),j] bx g λn i=>
 R n i)))))
theorem JT(c:aO)(b:Int)(a:Int)(d:@BY R h c b a):ac xB 31 #[c,b,a] h R:=aw af func31 .n d
noncomputable def HL(e:aO)(c:cQ):Prop:=
 aS xB (qM 44 c) h λk l=>
 ∃x2:cQ,aq l k 0 x2/\
 ae xB 95 #[x2] bN l λq i=>
 Br (!q)
 (R eR i)
 (ae xB 96 #[e] aI i λs h3=>
 ∃j:cQ,aq h3 k 0 j/\
 ae xB 42 #[j] aI h3 λg p=>
 aL (σ:=Int) (λb r f=>
 Br (b<(g.len:Int))
 (aR g b λm=>
 bi f (m.add (b.toNat*1)) λt=>
 aS xB (qL 34 eL (.tuple #[])) f λa o=>
 ag xB (qf 34 a t) o λ_ n=>
 ae xB 97 #[s,(.func (.func 98) #[] #[a])] bN n λd h8=>
 Br (!d)
 (R eR h8)
 (r (qc xx (b+1)) h8))
 (R eL f)) (0:Int) p)
theorem Pj(a:aO)(b:cQ)(c:@HL R h a b):ac xB 34 #[a,b] h R:=aw af func34 (an.tn (an.tn (an.tn (.two (an.tn (.inn (.loop [(16,ba)] [(4,5),(7,8),(16,25)] .n))) .n)))) c
noncomputable def sw(b:aO)(a:Int):Prop:=
 bm (σ:=Unit) (λ_ c=>
 ∃d,(b=dB d)/\
 (0<=a/\a<((64:Nat):Int))/\
 kA c ((d.add 10).add (a.toNat*1)) λx3=>
 R x3 c)
 (λe=>
 Br (qS b) (R (xt eH) h) (Br (a<0) (R (xt eH) h) (Br (a>=64)
 (R (xt eH) h)
 (e () h))))
theorem Dr(b:aO)(a:Int)(c:@sw R h b a):ac xB 35 #[b,a] h R:=aw af func35 (an.tn (.two (.join [] [(4,15)] .n) .n)) c
noncomputable def pD(a:aO):Prop:=
 Br (qS a)
 (R (xq xx 0) h)
 (∃b,(a=dB b)/\
 aZ h (b.add 3) λx2=>
 R x2 h)
theorem Bi(a:aO)(b:@pD R h a):ac xB 36 #[a] h R:=aw af func36 .n b
noncomputable def oF(d:Int)(b:Int)(c:Int):Prop:=
 aS xB (qL 24 eL (.tuple #[])) h λf l=>
 ae xB 12 #[d,(xq xx 6)] bx l λk g=>
 ae xB 12 #[b,(xq xx 3)] bx g λj h3=>
 ae xB 12 #[c,(xq xx 9)] bx h3 λi m=>
 ag xB (qf 24 f (xw #[(qc xx (1+k)),(qc xx (1+j)),(qc xx (1+i))])) m λ_ e=>
 ∃a:bR,aq e f 0 a/\
 R a e
theorem AB(a:Int)(b:Int)(c:Int)(d:@oF R h a b c):ac xB 37 #[a,b,c] h R:=aw af func37 .n d
noncomputable def rD(b:Sl)(a:Int):Prop:=
 Br (a<(b.len:Int))
 (aR b a λc=>
 aZ h (c.add (a.toNat*1)) λx2=>
 R x2 h)
 (R (xq xx 0) h)
theorem CG(b:Sl)(a:Int)(c:@rD R h b a):ac xB 38 #[b,a] h R:=aw af func38 .n c
noncomputable def Ds(a:Sl):Prop:=
 aL (σ:=Sl×Int) (λb f c=>
 Br (b.2<(a.len:Int))
 (aR a b.2 λj=>
 aZ c (j.add (b.2.toNat*1)) λx3=>
 bm (σ:=Unit) (λ_ e=>
 Br (x3>0)
 (aB xB (qq 22 1 #[(0,b.2)]) aI e λv5 h3=>
 aB xB (qt #[22,22] 22 #[b.1,v5]) aI h3 λd i=>
 f ((⟨d.ptr,d.len,d.cap⟩:Sl),qc xx (b.2+1)) i)
 (f ((⟨b.1.ptr,b.1.len,b.1.cap⟩:Sl),qc xx (b.2+1)) e))
 (λg=>
 Br (x3<0) (R (.tuple #[(xr eH 0 0),eR]) c) (Br (x3>512)
 (R (.tuple #[(xr eH 0 0),eR]) c)
 (g () c))))
 (Br ((a.len:Int)<=64) (R (.tuple #[b.1,(decide ((b.1.len:Int)>0))]) c) (R (.tuple #[b.1,eR]) c))) ((⟨eH,0,0⟩:Sl),(0:Int)) h
theorem Lt(a:Sl)(b:@Ds R h a):ac xB 39 #[a] h R:=aw af func39 (an.tn (an.tn (.two (an.tn (.inn (.loop [(4,cA),(9,ba)] [(2,7),(9,27)] (an.tn (an.tn (.two (.inn (an.tn (.two (.join [] [(2,4),(14,20)] .n) .n))) .n)))))) .n))) b
noncomputable def QC(c:bR):Prop:=
 aS xB (qM 24 c) h λb a=>
 aZ a b λx2=>
 Br (x2>=1) (aZ a b λx3=>
 Br (x3<=16) (aZ a (b.add 1) λg=>
 Br (g>=1) (aZ a (b.add 1) λd=>
 Br (d<=4) (aZ a (b.add 2) λe=>
 Br (e>=1) (aZ a (b.add 2) λf=>
 R (decide (f<=24)) a) (R eR a)) (R eR a)) (R eR a)) (R eR a)) (R eR a)
theorem Wk(a:bR)(b:@QC R h a):ac xB 40 #[a] h R:=aw af func40 .n b
noncomputable def uh(a:aO):Prop:=
 Br (qS a)
 (R (xq xx 0) h)
 (∃b,(a=dB b)/\
 aZ h (b.add 3) λx2=>
 R x2 h)
theorem EO(a:aO)(b:@uh R h a):ac xB 41 #[a] h R:=aw af func41 .n b
noncomputable def HM(d:cQ):Prop:=
 aS xB (qM 44 d) h λf g=>
 ∃x2:cQ,aq g f 0 x2/\
 ae xB 100 #[x2] aI g λb l=>
 ((48:Int)≠0)/\
 aL (σ:=Sl×Int) (λa m h3=>
 Br (decide (a.2<(qc xx (wy (qc xx ((qc xx ((b.len:Int)+48))-1)) 48))))
 (aZ h3 f λk=>
 (0<=(qc xx (a.2*48))/\(qc xx (a.2*48))<=(if(qc xx ((qc xx (a.2+1))*48))<(b.len:Int)then qc xx ((qc xx (a.2+1))*48)else(b.len:Int))/\(if(qc xx ((qc xx (a.2+1))*48))<(b.len:Int)then qc xx ((qc xx (a.2+1))*48)else(b.len:Int))<=(b.cap:Int))/\
 ae xB 101 #[k,a.2,(qc xx (wy (qc xx ((qc xx ((b.len:Int)+48))-1)) 48)),(.slice (if b.cap=(qc xx (a.2*48)).toNat then b.ptr else b.ptr.map (·.add ((qc xx (a.2*48)).toNat*1))) ((if(qc xx ((qc xx (a.2+1))*48))<(b.len:Int)then qc xx ((qc xx (a.2+1))*48)else(b.len:Int)).toNat-(qc xx (a.2*48)).toNat) (b.cap-(qc xx (a.2*48)).toNat))] aI h3 λn i=>
 (az.ok [] i)/\
 aB xB (qq 85 1 #[(0,n)]) aI i λo e=>
 (az.ok [] e)/\
 aB xB (qt #[85,85] 85 #[a.1,o]) aI e λc j=>
 (az.ok [] j)/\
 m ((⟨c.ptr,c.len,c.cap⟩:Sl),qc xx (a.2+1)) j)
 (R a.1 h3)) ((⟨eH,0,0⟩:Sl),(0:Int)) l
theorem Pk(a:cQ)(b:@HM R h a):ac xB 42 #[a] h R:=aw af func42 (an.tn (an.tn (an.tn (an.tn (.two (an.tn (.inn (.loop [(5,cA),(16,ba)] [(5,8),(16,39)] .n))) .n))))) b
noncomputable def Kl(a:Int)(b:aO):Prop:=
 bm (σ:=Unit) (λ_ d=>
 aS xB (qM 156 (xw #[b,a,(xr eH 0 0),(xq xx 0),(xr eH 0 0),eR,eR])) d λf c=>
 R f c)
 (λe=>
 Br (a<1) (R (xt eH) h) (Br (a>512) (R (xt eH) h) (Br (qS b)
 (R (xt eH) h)
 (e () h))))
theorem RF(a:Int)(b:aO)(c:@Kl R h a b):ac xB 43 #[a,b] h R:=aw af func43 (an.tn (.two (.join [] [(4,15)] .n) .n)) c
noncomputable def QD(a:cN)(d:Sl):Prop:=
 aL (σ:=Sl×Int) (λc w i=>
 Br (c.2<(d.len:Int))
 (aR d c.2 λu=>
 ∃x3:Int×Sl,aq i (u.add (c.2.toNat*2)) 0 x3/\
 aS xB (qL 101 eL (.tuple #[])) i λa4 s=>
 ag xB (qf 101 a4 x3) s λ_ h3=>
 bm (σ:=Unit) (λ_ k=>
 aZ k a4 λe=>
 aB xB (qq 22 1 #[(0,e)]) aI k λf h8=>
 aB xB (qt #[22,22] 22 #[c.1,f]) aI h8 λb q=>
 w ((⟨b.ptr,b.len,b.cap⟩:Sl),qc xx (c.2+1)) q)
 (λr=>
 bm (σ:=Int) (λm l=>
 Br (m !=0)
 (R m l)
 (r () l))
 (λt=>
 aZ h3 a4 λv=>
 bi h3 (a4.add 1) λo=>
 iC C a.1 (a.2.1.toList++[(xq xx v)]++a.2.2.toList) iP h3 λx n=>
 (az.ok [(a4.add 1,o)] n)/\
 ae xB 102 #[x,o] bx n λy p=>
 (az.ok [] p)/\
 t y p)))
 (ae xB 103 #[(.func (.func a.1) a.2.1 a.2.2),c.1] bx i λg j=>
 R g j)) ((⟨eH,0,0⟩:Sl),(0:Int)) h
theorem Wm(a:cN)(b:Sl)(c:@QD R h a b):ac xB 44 #[(.func (.func a.1) a.2.1 a.2.2),b] h R:=aw af func44 (an.tn (an.tn (.two (an.tn (.inn (.loop [(5,cA),(11,ba)] [(4,6),(7,9),(11,31)] (an.tn (an.tn (.two (.inn (an.tn (.two (.join [] [(4,5),(8,9),(15,25)] (.two (.join [(8,ba)] [(8,9),(15,22)] .n) .n)) .n))) .n)))))) .n))) c
noncomputable def Km(f:cQ)(a:Sl):Prop:=
 aS xB (qM 44 f) h λo j=>
 ∃x2:cQ,aq j o 0 x2/\
 ae xB 42 #[x2] aI j λi n=>
 aL (σ:=Sl×Int) (λb q h3=>
 Br (b.2<(a.len:Int))
 (aR a b.2 λa5=>
 aZ h3 (a5.add (b.2.toNat*1)) λp=>
 aL (σ:=Sl×Int) (λc l e=>
 Br (c.2<(i.len:Int))
 (aR i c.2 λk=>
 bi e (k.add (c.2.toNat*1)) λs=>
 aB xB (qq 89 1 #[(0,(xw #[p,s]))]) aI e λg r=>
 aB xB (qt #[89,89] 89 #[c.1,g]) aI r λd m=>
 l ((⟨d.ptr,d.len,d.cap⟩:Sl),qc xx (c.2+1)) m)
 (q ((⟨c.1.ptr,c.1.len,c.1.cap⟩:Sl),qc xx (b.2+1)) e)) ((⟨b.1.ptr,b.1.len,b.1.cap⟩:Sl),(0:Int)) h3)
 (R b.1 h3)) ((⟨eH,0,0⟩:Sl),(0:Int)) n
theorem RG(b:cQ)(a:Sl)(c:@Km R h b a):ac xB 45 #[b,a] h R:=aw af func45 (an.tn (an.tn (an.tn (.two (an.tn (.inn (.loop [(6,cA),(15,ba)] [(6,7),(8,9),(10,11),(15,33)] (an.tn (an.tn (.two (.inn (an.tn (an.tn (.inn (.loop [(6,cA),(21,ba)] [(6,7),(10,11),(21,32)] .n))))) .n)))))) .n)))) c
noncomputable def pE(a:aO)(b:ByteArray)(k:Sl):Prop:=
 ae xB 55 #[a] bN h λv q=>
 Br v
 (R (xq xx 14) q)
 (ae xB 104 #[b] bN q λu n=>
 Br (!u)
 (R (xq xx 3) n)
 (ae xB 91 #[a,b] bx n λt h3=>
 Br (t>=0)
 (R (xq xx 4) h3)
 (bm (σ:=Bool) (λf o=>
 Br f
 (R (xq xx 6) o)
 (ae xB 25 #[a] aI o λg c=>
 Br ((g.len:Int)==0) (R (xq xx 7) c) (∃d,(a=dB d)/\
 aZ c (d.add 1) λj=>
 Br (j>16777215) (R (xq xx 7) c) (∃e,(a=dB e)/\
 aZ c e λi=>
 Br (i>=2147483647)
 (R (xq xx 7) c)
 (R (xq xx 0) c)))))
 (λp=>
 ∃a4,(a=dB a4)/\
 aZ h3 (a4.add 2) λs=>
 ∃l,(a=dB l)/\
 aZ h3 ((l.add 2).add 2) λr=>
 Br (decide ((k.len:Int)>(qc xx ((qc xx (s*r))*8)))) (p eL h3) (∃m,(a=dB m)/\
 bi h3 (m.add 7) λw=>
 p (decide ((w.len:Int)>=12)) h3)))))
theorem Bj(c:aO)(a:ByteArray)(b:Sl)(d:@pE R h c a b):ac xB 46 #[c,a,b] h R:=aw af func46 (an.tn (.two (.inn (an.tn (an.tn (an.tn (an.tn (an.tn (an.tn (.two (.join [(19,kB)] [(19,46)] .n) .n)))))))) .n)) d
noncomputable def FU(f:bR)(b:Int)(a:Int):Prop:=
 aS xB (qM 24 f) h λj l=>
 aL (σ:=Sl×Int) (λc k d=>
 Br (c.2<a)
 (∃x3:bR,aq d j 0 x3/\
 ae xB 105 #[x3,b,c.2] (.many [ba,kB]) d λg h3=>
 Br (!g.2)
 (R (.tuple #[(xr eH 0 0),eR]) h3)
 (aB xB (qq 22 1 #[(0,g.1)]) aI h3 λv5 m=>
 aB xB (qt #[22,22] 22 #[c.1,v5]) aI m λe i=>
 k ((⟨e.ptr,e.len,e.cap⟩:Sl),qc xx (c.2+1)) i))
 (R (.tuple #[c.1,eL]) d)) ((⟨eH,0,0⟩:Sl),(0:Int)) l
theorem MP(c:bR)(b:Int)(a:Int)(d:@FU R h c b a):ac xB 47 #[c,b,a] h R:=aw af func47 (an.tn (an.tn (.two (an.tn (.inn (.loop [(8,cA),(13,ba)] [(6,12),(13,30)] .n))) .n))) d
noncomputable def FV(c:bR)(a:Int):Prop:=
 aS xB (qM 24 c) h λe g=>
 bm (σ:=Unit) (λ_ h3=>
 ∃d:bR,aq h3 e 0 d/\
 ae xB 106 #[d] bx h3 λf i=>
 (f≠0)/\
 R (qc xx ((qc xx (wy (qc xx (a-1)) f))+1)) i)
 (λk=>
 ∃x2:bR,aq g e 0 x2/\
 ae xB 40 #[x2] bN g λj b=>
 Br (!j) (R (xq xx 0) b) (Br (a<=0)
 (R (xq xx 0) b)
 (k () b)))
theorem MQ(b:bR)(a:Int)(c:@FV R h b a):ac xB 48 #[b,a] h R:=aw af func48 (an.tn (.two (.join [] [(4,12)] .n) .n)) c
end Go.Qw
namespace Go.Qw
open Go Go.Vc Go.Proofs
variable {R:KZ} {h:Heap}
noncomputable def pF(g:aO)(U:iO)(T:Sl):Prop:=
 aS xB (qM 94 U) h λi h1=>
 ae xB 25 #[g] aI h1 λr2 W=>
 ∃a3,(g=dB a3)/\
 ∃Z:bR,aq W (a3.add 2) 0 Z/\
 ae xB 107 #[Z,T] aI W λY h3=>
 aL (σ:=Sl×Int) (λe K1 m=>
 Br (e.2<(Y.len:Int))
 (aR Y e.2 λa7=>
 bi m (a7.add (e.2.toNat*1)) λx8=>
 aZ m (i.add 1) λx9=>
 bi m (i.add 3) λn=>
 aR n e.2 λF=>
 aZ m (F.add (e.2.toNat*1)) λJ=>
 ae xB 62 #[x9,e.2,J] (.one (.sc (.int .u32))) m λk O=>
 (az.ok [(i.add 3,n)] O)/\
 ∃y,(g=dB y)/\
 ∃v:bR,aq O (y.add 2) 0 v/\
 ae xB 108 #[v,(xq xz k),x8] (.many [FR,ba]) O λj H=>
 Br (j.2 !=0)
 (R (.tuple #[(xr eH 0 0),eR]) H)
 (aZ H (i.add 1) λS=>
 ae xB 109 #[S,e.2,r2] aI H λM E=>
 ∃w,(g=dB w)/\
 aZ E (w.add 2) λL=>
 ∃s,(g=dB s)/\
 aZ E (s.add 5) λP=>
 aL (σ:=Sl×Int) (λb K2 h8=>
 Br (b.2<(qc xx (L+P)))
 (bm (σ:=eX) (λd q=>
 ∃c:fg,aq q d 0 c/\
 ae xB 111 #[M,b.2] bx q λI A=>
 (az.ok [(d,c.1),(d.add 1,c.2.1),(d.add 2,c.2.2.1),(d.add 3,c.2.2.2.1),(d.add 4,c.2.2.2.2.1),(d.add 5,c.2.2.2.2.2.1),(d.add 6,(xq xz c.2.2.2.2.2.2.1)),(d.add 7,c.2.2.2.2.2.2.2)] A)/\
 ae xB 112 #[c] aI A λK r=>
 (az.ok [] r)/\
 aB xB (qq 89 1 #[(0,(xw #[I,K]))]) aI r λG t=>
 (az.ok [] t)/\
 aB xB (qt #[89,89] 89 #[b.1,G]) aI t λl p=>
 (az.ok [] p)/\
 K2 ((⟨l.ptr,l.len,l.cap⟩:Sl),qc xx (b.2+1)) p)
 (λX=>
 aZ h8 (i.add 1) λf=>
 ∃a25,(g=dB a25)/\
 ∃a:bR,aq h8 (a25.add 2) 0 a/\
 (ae xB 110 #[j.1,b.2] aI h8 λN V=>
 (az.ok [(a25.add 2,a.1),((a25.add 2).add 1,a.2.1),((a25.add 2).add 2,a.2.2),(i.add 1,f)] V)/\
 aS xB (qL 170 eL (.tuple #[])) V λa28 B=>
 (az.ok [(a25.add 2,a.1),((a25.add 2).add 1,a.2.1),((a25.add 2).add 2,a.2.2),(i.add 1,f)] B)/\
 ag xB (qf 170 a28 (xw #[f,e.2,b.2,a.1,a.2.1,a.2.2,(xq xz k),N])) B λ_ D=>
 (az.ok [] D)/\
 X a28 D)/\(aS xB (qL 170 eL (.tuple #[])) h8 λz u=>
 (az.ok [(a25.add 2,a.1),((a25.add 2).add 1,a.2.1),((a25.add 2).add 2,a.2.2),(i.add 1,f)] u)/\
 ae xB 110 #[j.1,b.2] aI u λQ x=>
 (az.ok [(a25.add 2,a.1),((a25.add 2).add 1,a.2.1),((a25.add 2).add 2,a.2.2),(i.add 1,f)] x)/\
 ag xB (qf 170 z (xw #[f,e.2,b.2,a.1,a.2.1,a.2.2,(xq xz k),Q])) x λ_ o=>
 (az.ok [] o)/\
 X z o)))
 (K1 ((⟨b.1.ptr,b.1.len,b.1.cap⟩:Sl),qc xx (e.2+1)) h8)) ((⟨e.1.ptr,e.1.len,e.1.cap⟩:Sl),(0:Int)) E))
 (R (.tuple #[e.1,eL]) m)) ((⟨eH,0,0⟩:Sl),(0:Int)) h3
theorem Bl(b:aO)(c:iO)(a:Sl)(d:@pF R h b c a):ac xB 49 #[b,c,a] h R:=aw af func49 (an.tn (an.tn (an.tn (.two (an.tn (.inn (.loop [(9,cA),(28,ba)] [(6,8),(9,18),(28,100)] (an.tn (an.tn (.two (.inn (an.tn (an.tn (an.tn (an.tn (an.tn (an.tn (.inn (.loop [(9,cA),(72,ba)] [(9,10),(16,18),(72,99)] (an.tn (an.tn (.two (.inn (an.tn (.two (.join [(17,(.sc .adr))] [(17,18),(75,89)] .n) .n))) .n)))))))))))) .n)))))) .n)))) d
noncomputable def HN(j:cQ)(n:iO):Prop:=
 aS xB (qM 44 j) h λx z=>
 aS xB (qM 94 n) z λu t=>
 aS xB (qL 44 eL (.tuple #[])) t λa3 h3=>
 ∃q:cQ,aq h3 x 0 q/\
 ae xB 61 #[q] CF h3 λw v=>
 aS xB (qL 44 eL (.tuple #[])) v λb A=>
 ag xB (qf 44 b w) A λ_ p=>
 aZ p b λs=>
 ag xB (qf 3 b (qc xx (s+1))) p λ_ o=>
 aZ o (b.add 1) λy=>
 ag xB (qf 3 (b.add 1) (qc xx (y+1))) o λ_ h8=>
 bi h8 (b.add 7) λB=>
 ∃c:iO,aq h8 u 0 c/\
 aB xB (qq 42 1 #[(0,c)]) aI h8 λk r=>
 aB xB (qt #[42,42] 42 #[B,k]) aI r λi m=>
 ag xB (qf 42 (b.add 7) i) m λ_ g=>
 bi g (b.add 7) λl=>
 ae xB 113 #[l,(.func (.func 114) #[] #[])] il g λ_ d=>
 ∃e:cQ,aq d b 0 e/\
 ag xB (qf 44 a3 e) d λ_ f=>
 ∃a:cQ,aq f a3 0 a/\
 R a f
theorem Pn(b:cQ)(a:iO)(c:@HN R h b a):ac xB 50 #[b,a] h R:=aw af func50 .n c
noncomputable def sA(a:Int)(c:eX)(d:eX):Prop:=
 aZ h c λj=>
 bi h d λx2=>
 aL (σ:=Int×Int) (λb i e=>
 Br (b.2<(x2.len:Int))
 (aR x2 b.2 λa4=>
 ∃g:Int×Sl,aq e (a4.add (b.2.toNat*2)) 0 g/\
 aS xB (qL 101 eL (.tuple #[])) e λf k=>
 ag xB (qf 101 f g) k λ_ h3=>
 aZ h3 f λl=>
 Br (l==a)
 (i (qc xx (b.1+1),qc xx (b.2+1)) h3)
 (i (b.1,qc xx (b.2+1)) h3))
 (R b.1 e)) (j,(0:Int)) h
theorem Dt(a:Int)(b:eX)(c:eX)(d:@sA R h a b c):ac xB 51 #[a,b,c] h R:=aw af func51 (an.tn (an.tn (.two (an.tn (.inn (.loop [(5,ba),(11,ba)] [(5,6),(7,8),(11,22)] .n))) .n))) d
noncomputable def ui(c:aO)(a:Sl)(b:cN):Prop:=
 aS xB (qM 27 c) h λd g=>
 aS xB (qM 102 (.func (.func b.1) b.2.1 b.2.2)) g λi e=>
 ae xB 116 #[a,(.func (.func 117) #[] #[d,i])] bN e λf h3=>
 R (xv (!f)) h3
theorem EP(c:aO)(a:Sl)(b:cN)(d:@ui R h c a b):ac xB 52 #[c,a,(.func (.func b.1) b.2.1 b.2.2)] h R:=aw af func52 .n d
noncomputable def sB(f:aO)(a:Sl)(d:cN):Prop:=
 aL (σ:=Int) (λi o g=>
 Br (i<(a.len:Int))
 (aR a i λn=>
 aZ g (n.add (i.toNat*1)) λx3=>
 bm (σ:=Int) (λe k=>
 Br (e !=0)
 (R e k)
 (o (qc xx (i+1)) k))
 (λm=>
 ∃a4,(f=dB a4)/\
 (0<=x3/\x3<((64:Nat):Int))/\
 kA g ((a4.add 10).add (x3.toNat*1)) λl=>
 ∃b,(f=dB b)/\
 ∃c:cQ,aq g b 0 c/\
 iC C d.1 (d.2.1.toList++[(xq xx x3)]++d.2.2.toList) bx g λq j=>
 (az.ok [(b,c.1),(b.add 1,c.2.1),(b.add 2,c.2.2.1),(b.add 3,c.2.2.2.1),(b.add 4,c.2.2.2.2.1),(b.add 5,c.2.2.2.2.2.1),(b.add 6,c.2.2.2.2.2.2.1),(b.add 7,c.2.2.2.2.2.2.2),((a4.add 10).add (x3.toNat*1),l)] j)/\
 ae xB 119 #[l,c,q] bx j λp h3=>
 (az.ok [] h3)/\
 m p h3))
 (R (xq xx 0) g)) (0:Int) h
theorem Du(c:aO)(a:Sl)(b:cN)(d:@sB R h c a b):ac xB 53 #[c,a,(.func (.func b.1) b.2.1 b.2.2)] h R:=aw af func53 (an.tn (.two (an.tn (.inn (.loop [(12,ba)] [(6,7),(8,10),(12,34)] (an.tn (an.tn (.two (.inn (an.tn (.two (.join [(9,ba)] [(9,10),(16,30)] .n) .n))) .n)))))) .n)) d
noncomputable def uj(b:aO)(c:cQ)(a:Sl):Prop:=
 aS xB (qM 44 c) h λf i=>
 ∃x2:cQ,aq i f 0 x2/\
 ae xB 45 #[x2,a] aI i λl k=>
 ae xB 44 #[(.func (.func 35) #[b] #[]),l] bx k λg h3=>
 Br (g !=0)
 (R g h3)
 (∃d:cQ,aq h3 f 0 d/\
 ae xB 61 #[d] CF h3 λm n=>
 ∃e,(b=dB e)/\
 ag xB (qf 44 e m) n λ_ j=>
 R (xq xx 0) j)
theorem EQ(b:aO)(c:cQ)(a:Sl)(d:@uj R h b c a):ac xB 54 #[b,c,a] h R:=aw af func54 .n d
noncomputable def uW(a:aO):Prop:=
 Br (qS a) (R eL h) (ae xB 57 #[a] bN h λc b=>
 R c b)
theorem GB(a:aO)(b:@uW R h a):ac xB 55 #[a] h R:=aw af func55 .n b
noncomputable def uk(a:aO):Prop:=
 Br (!(qS a)) (∃d,(a=dB d)/\
 kA h (d.add 8) λx2=>
 ae xB 121 #[x2] bN h λi b=>
 (az.ok [] b)/\
 Br (!i) ((az.ok [] b)/\
 R eL b) (∃a4,(a=dB a4)/\
 kA b (a4.add 8) λg=>
 ∃c,(a=dB c)/\
 aZ b (c.add 9) λf=>
 ae xB 41 #[g] bx b λj e=>
 (az.ok [(c.add 9,f)] e)/\
 R (xv (j !=f)) e)) ((az.ok [] h)/\
 (az.ok [] h)/\
 R eR h)
theorem ER(a:aO)(b:@uk R h a):ac xB 57 #[a] h R:=aw af func57 .n b
noncomputable def HO(a:Int)(b:Int):Prop:=
 ae xB 122 #[a,b] bN h λg e=>
 Br (!g)
 (R (xq xx 0) e)
 (aL (σ:=Int×Int) (λc f d=>
 Br (decide (c.2<(if(qc xx (a-b))<b then qc xx (a-b)else b)))
 (((qc xx (c.2+1))≠0)/\
 Br (decide ((qc xx (wy (qc xx (c.1*(qc xx (a-c.2)))) (qc xx (c.2+1))))>4096))
 (R (xq xx 4097) d)
 (f (qc xx (wy (qc xx (c.1*(qc xx (a-c.2)))) (qc xx (c.2+1))),qc xx (c.2+1)) d))
 (R c.1 d)) ((1:Int),(0:Int)) e)
theorem Po(b:Int)(a:Int)(c:@HO R h b a):ac xB 58 #[b,a] h R:=aw af func58 (an.tn (an.tn (an.tn (.two (an.tn (.inn (.loop [(5,ba),(16,ba)] [(4,7),(16,30)] .n))) .n)))) c
noncomputable def oG(a:aO):Prop:=
 ∃n,(a=dB n)/\
 bi h (n.add 9) λx2=>
 aL (σ:=Int) (λe o f=>
 Br (e<(x2.len:Int))
 (aR x2 e λa4=>
 aZ f (a4.add (e.toNat*1)) λs=>
 ∃k,(a=dB k)/\
 kA f k λq=>
 ae xB 35 #[q,s] iP f λj m=>
 ∃a9,(a=dB a9)/\
 ∃b:cQ,aq m (a9.add 1) 0 b/\
 ae xB 123 #[j,b] aI m λd h3=>
 ae xB 96 #[j] aI h3 λg r=>
 ae xB 124 #[g,d,(.func (.func 99) #[] #[])] bN r λi p=>
 Br i
 (o (qc xx (e+1)) p)
 (ae xB 125 #[j,d] bx p λc l=>
 Br (c !=0)
 (R c l)
 (o (qc xx (e+1)) l)))
 (R (xq xx 0) f)) (0:Int) h
theorem AC(a:aO)(b:@oG R h a):ac xB 59 #[a] h R:=aw af func59 (an.tn (.two (an.tn (.inn (.loop [(13,ba)] [(2,3),(4,8),(13,40)] .n))) .n)) b
noncomputable def oH(a:aO)(e:iO)(d:Int):Prop:=
 aS xB (qM 94 e) h λm l=>
 ∃x2:iO,aq l m 0 x2/\
 ae xB 126 #[a,x2,d] (.many [FR,ba]) l λb k=>
 Br (b.2 !=0)
 (R b.2 k)
 (ae xB 127 #[a,b.1] bx k λc h3=>
 Br (c==14)
 (R c h3)
 (∃a5,(a=dB a5)/\
 kA h3 a5 λj=>
 ∃g,(b.1=dB g)/\
 bi h3 (g.add 5) λn=>
 ae xB 103 #[(.func (.func 35) #[j] #[]),n] bx h3 λi f=>
 (az.ok [(a5,j)] f)/\
 Br (i !=0)
 (R i f)
 (R c f)))
theorem AD(c:aO)(b:iO)(a:Int)(d:@oH R h c b a):ac xB 60 #[c,b,a] h R:=aw af func60 .n d
noncomputable def MR(m:cQ):Prop:=
 aS xB (qM 44 m) h λa A=>
 aS xB (qL 44 eL (.tuple #[])) A λs k=>
 bm (σ:=Unit) (λ_ p=>
 bi p (a.add 7) λz=>
 aL (σ:=Int) (λc w h8=>
 Br (c<(z.len:Int))
 (bi h8 (a.add 7) λd=>
 bi h8 (a.add 7) λe=>
 aR e c λj=>
 bi h8 ((j.add (c.toNat*4)).add 3) λn=>
 ae xB 128 #[n] aI h8 λl q=>
 (az.ok [(a.add 7,e),(a.add 7,d)] q)/\
 aR d c λo=>
 ag xB (qf 22 ((o.add (c.toNat*4)).add 3) l) q λ_ f=>
 (az.ok [] f)/\
 w (qc xx (c+1)) f)
 (∃i:cQ,aq h8 a 0 i/\
 ag xB (qf 44 s i) h8 λ_ g=>
 ∃b:cQ,aq g s 0 b/\
 R b g)) (0:Int) p)
 (λB=>
 bi k (a.add 6) λx3=>
 bi k (a.add 7) λv=>
 ae xB 128 #[x3] aI k λy h3=>
 (az.ok [(a.add 7,v)] h3)/\
 ae xB 129 #[v] aI h3 λx t=>
 (az.ok [] t)/\
 ag xB (qf 22 (a.add 6) y) t λ_ u=>
 (az.ok [] u)/\
 ag xB (qf 42 (a.add 7) x) u λ_ r=>
 (az.ok [] r)/\
 B () r)
theorem TU(a:cQ)(b:@MR R h a):ac xB 61 #[a] h R:=aw af func61 (an.tn (.two (.join [] [(4,12)] .n) (.two (an.tn (.inn (.loop [(15,ba)] [(3,4),(15,31)] .n))) .n))) b
noncomputable def Kn(b:Int)(c:Int)(a:Int):Prop:=
 R (xq xz (qc xz ((qc xz ((qc xz (128*(qc xz b)))+(qc xz (16*(qc xz c)))))+(qc xz a)))) h
theorem RH(b:Int)(c:Int)(a:Int)(d:@Kn R h b c a):ac xB 62 #[b,c,a] h R:=aw af func62 .n d
noncomputable def FW(f:cN)(a:Sl)(s:cQ)(c:Int)(e:Int):Prop:=
 aS xB (qM 44 s) h λi G=>
 aL (σ:=Sl×Int) (λj F m=>
 Br (j.2<(a.len:Int))
 (aR a j.2 λa3=>
 aZ m (a3.add (j.2.toNat*1)) λI=>
 bm (σ:=Sl×Int×Int) (λx H=>
 aL (σ:=Sl×Int) (λb t r=>
 Br (b.2<x.2.1)
 (aR x.1 b.2 λq=>
 ∃l:fg,aq r (q.add (b.2.toNat*8)) 0 l/\
 aS xB (qL 170 eL (.tuple #[])) r λd A=>
 ag xB (qf 170 d l) A λ_ h8=>
 aZ h8 d λv=>
 Br (v==c) (aZ h8 (d.add 1) λp=>
 Br (p==e)
 (aZ h8 (d.add 2) λu=>
 bi h8 (d.add 7) λy=>
 aB xB (qq 114 1 #[(0,(xw #[u,y]))]) aI h8 λo B=>
 aB xB (qt #[114,114] 114 #[b.1,o]) aI B λk w=>
 t ((⟨k.ptr,k.len,k.cap⟩:Sl),qc xx (b.2+1)) w)
 (t ((⟨b.1.ptr,b.1.len,b.1.cap⟩:Sl),qc xx (b.2+1)) h8)) (t ((⟨b.1.ptr,b.1.len,b.1.cap⟩:Sl),qc xx (b.2+1)) h8))
 (F ((⟨b.1.ptr,b.1.len,b.1.cap⟩:Sl),qc xx (j.2+1)) r)) ((⟨j.1.ptr,j.1.len,j.1.cap⟩:Sl),x.2.2) H)
 (λD=>
 ∃g:cQ,aq m i 0 g/\
 iC C f.1 (f.2.1.toList++[(xq xx I)]++f.2.2.toList) iP m λE h3=>
 (az.ok [(i,g.1),(i.add 1,g.2.1),(i.add 2,g.2.2.1),(i.add 3,g.2.2.2.1),(i.add 4,g.2.2.2.2.1),(i.add 5,g.2.2.2.2.2.1),(i.add 6,g.2.2.2.2.2.2.1),(i.add 7,g.2.2.2.2.2.2.2)] h3)/\
 ae xB 130 #[E,g] aI h3 λn z=>
 (az.ok [] z)/\
 D ((⟨n.ptr,n.len,n.cap⟩:Sl),(n.len:Int),(0:Int)) z))
 (R j.1 m)) ((⟨eH,0,0⟩:Sl),(0:Int)) G
theorem MS(d:cN)(b:Sl)(e:cQ)(a:Int)(c:Int)(f:@FW R h d b e a c):ac xB 63 #[(.func (.func d.1) d.2.1 d.2.2),b,e,a,c] h R:=aw af func63 (an.tn (an.tn (.two (an.tn (.inn (.loop [(11,cA),(18,ba)] [(11,12),(13,14),(15,16),(18,52)] (an.tn (an.tn (.two (.inn (an.tn (.two (.join [(26,cA),(27,ba),(28,ba)] [(22,29)] .n) (.inn (.loop [(11,cA),(28,ba)] [(11,12),(15,16),(28,51)] .n))))) .n)))))) .n))) f
noncomputable def MT(b:aO)(a:Sl):Prop:=
 ae xB 131 #[b,a] aI h λd c=>
 R (xq xx (d.len:Int)) c
theorem TV(b:aO)(a:Sl)(c:@MT R h b a):ac xB 64 #[b,a] h R:=aw af func64 .n c
noncomputable def TW:Prop:=
 ae xB 132 #[] (.one (.arr (.int .u8))) h λg j=>
 aS xB (qL 192 eL (.tuple #[])) j λa i=>
 ag xB (qf 192 a (xw (g.map (Sc.enc (.int .u8))).toArray)) i λ_ h3=>
 ∃x3:List (Int),(x3.length=255/\aq h3 a 0 (x3.map (Sc.enc (.int .u8))))/\
 ∃b:List (Int),(b.length=255/\aq h3 a 0 (b.map (Sc.enc (.int .u8))))/\
 ae xB 133 #[(xw (b.map (Sc.enc (.int .u8))).toArray)] (.one (.arr (.int .i64))) h3 λk d=>
 (az.ok (nh a 0 (x3.map (Sc.enc (.int .u8))) []) d)/\
 ∃e:eS,(aN xB (vU 197 #[(0,(xw (x3.map (Sc.enc (.int .u8))).toArray)),(1,(xw (k.map (Sc.enc (.int .i64))).toArray))]) e)/\
 aS xB (qM 197 e) d λf c=>
 (az.ok (nh a 0 (x3.map (Sc.enc (.int .u8))) []) c)/\
 R f c
theorem Zl(a:@TW R h):ac xB 65 #[] h R:=aw af func65 .n a
noncomputable def BZ(e:bR)(c:Int)(a:Sl):Prop:=
 aS xB (qM 24 e) h λj l=>
 ∃x2:bR,aq l j 0 x2/\
 ae xB 70 #[x2] aI l λf o=>
 aL (σ:=Sl×Int) (λb k h3=>
 Br (b.2<(a.len:Int))
 (aR a b.2 λa5=>
 aZ h3 (a5.add (b.2.toNat*1)) λp=>
 ∃g:bR,aq h3 j 0 g/\
 ae xB 134 #[g,(xq xz c),p] aI h3 λm i=>
 Br (!(qS m.ptr))
 (aB xB (qq 85 1 #[(0,m)]) aI i λv9 q=>
 aB xB (qt #[85,85] 85 #[b.1,v9]) aI q λd n=>
 k ((⟨d.ptr,d.len,d.cap⟩:Sl),qc xx (b.2+1)) n)
 (k ((⟨b.1.ptr,b.1.len,b.1.cap⟩:Sl),qc xx (b.2+1)) i))
 (R b.1 h3)) ((⟨f.ptr,f.len,f.cap⟩:Sl),(0:Int)) o
theorem JU(c:bR)(a:Int)(b:Sl)(d:@BZ R h c a b):ac xB 66 #[c,(xq xz a),b] h R:=aw af func66 (an.tn (an.tn (.two (an.tn (.inn (.loop [(7,cA),(15,ba)] [(7,8),(9,11),(15,30)] .n))) .n))) d
noncomputable def MU(b:Int)(a:Int):Prop:=
 ae xB 122 #[b,a] bN h λy o=>
 Br (!y)
 (R (.tuple #[(xr eH 0 0),(xq xx 1)]) o)
 (ae xB 58 #[b,a] bx o λu m=>
 Br (u>4096)
 (R (.tuple #[(xr eH 0 0),(xq xx 13)]) m)
 (aB xB (qF 22 a a) aI m λv3 h3=>
 aL (σ:=Int) (λd v n=>
 Br (d<(v3.len:Int))
 (aR v3 d λa5=>
 ag xB (qf 3 (a5.add (d.toNat*1)) d) n λ_ w=>
 v (qc xx (d+1)) w)
 (ae xB 128 #[v3] aI n λs t=>
 aB xB (qq 51 1 #[(0,s)]) aI t λi q=>
 aL (σ:=Sl) (λp r h8=>
 ae xB 135 #[v3,b] bN h8 λx l=>
 Br x
 (ae xB 128 #[v3] aI l λe j=>
 aB xB (qq 51 1 #[(0,e)]) aI j λg k=>
 aB xB (qt #[51,51] 51 #[p,g]) aI k λc f=>
 r (⟨c.ptr,c.len,c.cap⟩:Sl) f)
 (R (.tuple #[p,(xq xx 0)]) l)) (⟨i.ptr,i.len,i.cap⟩:Sl) q)) (0:Int) h3))
theorem TX(b:Int)(a:Int)(c:@MU R h b a):ac xB 68 #[b,a] h R:=aw af func68 (an.tn (an.tn (an.tn (.two (an.tn (.inn (.loop [(23,ba)] [(7,8),(23,31)] .n))) (an.tn (.two (.inn (.loop [(8,cA)] [(8,9),(34,42)] .n)) .n)))))) c
noncomputable def MV(b:aO)(a:Int):Prop:=
 bm (σ:=Unit) (λ_ d=>
 bm (σ:=aO) (λe h3=>
 aS xB (qM 200 (xw #[e,a,(xr eH 0 0)])) h3 λa4 g=>
 R a4 g)
 (λc=>
 Br (qS b)
 (ae xB 65 #[] iP d λi f=>
 c i f)
 (c b d)))
 (λj=>
 Br (a<0) (R (xt eH) h) (Br (a>64)
 (R (xt eH) h)
 (j () h)))
theorem TY(b:aO)(a:Int)(c:@MV R h b a):ac xB 69 #[b,a] h R:=aw af func69 (an.tn (.two (.join [] [(4,11)] .n) (.two (.join [(0,FR)] [(0,1),(11,14)] .n) .n))) c
noncomputable def MW(l:bR):Prop:=
 aS xB (qM 24 l) h λd v=>
 ∃x2:bR,aq v d 0 x2/\
 ae xB 40 #[x2] bN v λB u=>
 Br (!B)
 (R (xr eH 0 0) u)
 (ae xB 65 #[] iP u λF h3=>
 aZ h3 (d.add 1) λA=>
 aL (σ:=Sl×Int) (λe D g=>
 Br (e.2<A)
 (bm (σ:=Sl) (λf r=>
 aZ r d λj=>
 aL (σ:=Int) (λa z h8=>
 Br (a<j)
 (ae xB 137 #[F,(qc xx ((qc xx (e.2+1))*(qc xx (a+1))))] (.one (.sc (.int .u8))) h8 λk x=>
 aR f a λq=>
 ag xB (qf 5 (q.add (a.toNat*1)) (xq xy k)) x λ_ o=>
 z (qc xx (a+1)) o)
 (aB xB (qq 85 1 #[(0,f)]) aI h8 λi p=>
 aB xB (qt #[85,85] 85 #[e.1,i]) aI p λb n=>
 D ((⟨b.ptr,b.len,b.cap⟩:Sl),qc xx (e.2+1)) n)) (0:Int) r)
 (λy=>
 ∃s:bR,aq g d 0 s/\
 aZ g d λm=>
 ae xB 21 #[s] bx g λE w=>
 (az.ok [(d,m)] w)/\
 ae xB 136 #[E,(qc xx (m+e.2))] aI w λc t=>
 (az.ok [(d,m)] t)/\
 y (⟨c.ptr,c.len,c.cap⟩:Sl) t))
 (R e.1 g)) ((⟨eH,0,0⟩:Sl),(0:Int)) h3)
theorem TZ(a:bR)(b:@MW R h a):ac xB 70 #[a] h R:=aw af func70 (an.tn (an.tn (an.tn (an.tn (.two (an.tn (.inn (.loop [(4,cA),(14,ba)] [(4,8),(14,45)] (an.tn (an.tn (.two (.inn (an.tn (.two (.join [(6,cA)] [(6,7),(17,24)] .n) (.two (an.tn (.inn (.loop [(26,ba)] [(7,8),(26,40)] .n))) .n)))) .n)))))) .n))))) b
noncomputable def Ca(a:aO)(e:Sl):Prop:=
 ae xB 138 #[a,e] (.many [cA,kB]) h λg n=>
 bm (σ:=Unit) (λ_ h3=>
 ∃a4,(a=dB a4)/\
 kA h3 a4 λf=>
 ∃c,(a=dB c)/\
 bi h3 (c.add 2) λj=>
 aB xB (qq 85 1 #[(0,g.1)]) aI h3 λp m=>
 (az.ok [(c.add 2,j),(a4,f)] m)/\
 aB xB (qt #[85,85] 85 #[j,p]) aI m λv9 o=>
 (az.ok [(a4,f)] o)/\
 ae xB 131 #[f,v9] aI o λd k=>
 (az.ok [] k)/\
 ∃b,(a=dB b)/\
 ag xB (qf 85 (b.add 2) d) k λ_ i=>
 (az.ok [] i)/\
 R eL i)
 (λr=>
 Br (!g.2) (R eR n) (ae xB 139 #[g.1] bx n λq l=>
 Br (q<0)
 (R eR l)
 (r () l)))
theorem JV(a:aO)(b:Sl)(c:@Ca R h a b):ac xB 71 #[a,b] h R:=aw af func71 (an.tn (an.tn (.two (.join [] [(4,5),(13,20)] .n) .n))) c
noncomputable def FX(j:bR)(c:Int)(a:Sl):Prop:=
 aS xB (qM 24 j) h λu w=>
 aL (σ:=Sl×Int) (λf v i=>
 Br (f.2<(a.len:Int))
 (aR a f.2 λa3=>
 bi i (a3.add (f.2.toNat*1)) λp=>
 aL (σ:=Sl×Int) (λb l h3=>
 Br (b.2<(p.len:Int))
 (aR p b.2 λq=>
 aZ h3 (q.add (b.2.toNat*1)) λs=>
 ∃n:bR,aq h3 u 0 n/\
 ae xB 134 #[n,(xq xz c),s] aI h3 λo m=>
 Br (!(qS o.ptr))
 (aB xB (qq 85 1 #[(0,o)]) aI m λk x=>
 aB xB (qt #[85,85] 85 #[b.1,k]) aI x λe t=>
 l ((⟨e.ptr,e.len,e.cap⟩:Sl),qc xx (b.2+1)) t)
 (l ((⟨b.1.ptr,b.1.len,b.1.cap⟩:Sl),qc xx (b.2+1)) m))
 (aB xB (qq 129 1 #[(0,b.1)]) aI h3 λg r=>
 aB xB (qt #[129,129] 129 #[f.1,g]) aI r λd h8=>
 v ((⟨d.ptr,d.len,d.cap⟩:Sl),qc xx (f.2+1)) h8)) ((⟨eH,0,0⟩:Sl),(0:Int)) i)
 (R f.1 i)) ((⟨eH,0,0⟩:Sl),(0:Int)) w
theorem MX(c:bR)(b:Int)(a:Sl)(d:@FX R h c b a):ac xB 72 #[c,(xq xz b),a] h R:=aw af func72 (an.tn (an.tn (.two (an.tn (.inn (.loop [(7,cA),(16,ba)] [(7,8),(9,11),(12,14),(16,42)] (an.tn (an.tn (.two (.inn (an.tn (an.tn (.two (an.tn (.inn (.loop [(10,cA),(22,ba)] [(10,11),(12,14),(22,37)] .n))) .n)))) .n)))))) .n))) d
noncomputable def FY(b:aO)(e:Sl)(c:Sl)(a:Int):Prop:=
 ae xB 140 #[b] iP h λk u=>
 aL (σ:=Int) (λd l g=>
 Br (d<(e.len:Int))
 (aR e d λa3=>
 bi g (a3.add (d.toNat*1)) λn=>
 ae xB 84 #[c,d] bN g λs h3=>
 Br s
 (l (qc xx (d+1)) h3)
 (aL (σ:=Int) (λf p j=>
 Br (f<(n.len:Int))
 (aR n f λr=>
 bi j (r.add (f.toNat*1)) λt=>
 ae xB 141 #[k] bx j λv m=>
 Br (v==a)
 (R eL m)
 (ae xB 71 #[k,t] bN m λ_ q=>
 p (qc xx (f+1)) q))
 (l (qc xx (d+1)) j)) (0:Int) h3))
 (ae xB 141 #[k] bx g λi o=>
 R (xv (i==a)) o)) (0:Int) u
theorem MY(a:aO)(d:Sl)(b:Sl)(c:Int)(e:@FY R h a d b c):ac xB 73 #[a,d,b,c] h R:=aw af func73 (an.tn (an.tn (.two (an.tn (.inn (.loop [(18,ba)] [(8,9),(10,12),(13,14),(18,41)] (an.tn (an.tn (.two (.inn (an.tn (an.tn (an.tn (.inn (.loop [(28,ba)] [(8,9),(13,14),(28,40)] .n)))))) .n)))))) .n))) e
noncomputable def oI(D:bR)(b:Sl)(d:Int)(c:Bool):Prop:=
 aS xB (qM 24 D) h λU W=>
 bm (σ:=Sl) (λz G=>
 R z G)
 (λM=>
 aL (σ:=Sl×Int) (λa K v=>
 bm (σ:=Unit) (λ_ h3=>
 bm (σ:=Sl) (λE j=>
 ∃k:bR,aq j U 0 k/\
 aR b a.2 λf=>
 aZ j (f.add (a.2.toNat*1)) λe=>
 ((5:Int)≠0)/\
 aR b (qc xx (a.2+1)) λA=>
 aZ j (A.add ((qc xx (a.2+1)).toNat*1)) λH=>
 aR b (qc xx (a.2+2)) λy=>
 aZ j (y.add ((qc xx (a.2+2)).toNat*1)) λr=>
 ae xB 143 #[k,(qc xx (wy e 5)),H,r] aiC j λx n=>
 (az.ok [(f.add (a.2.toNat*1),e)] n)/\
 aB xB (qq 132 1 #[(0,x)]) aI n λB o=>
 (az.ok [(f.add (a.2.toNat*1),e)] o)/\
 aB xB (qt #[132,132] 132 #[E,B]) aI o λi l=>
 (az.ok [(f.add (a.2.toNat*1),e)] l)/\
 K ((⟨i.ptr,i.len,i.cap⟩:Sl),qc xx (a.2+3)) l)
 (λP=>
 bm (σ:=Bool) (λV m=>
 Br V
 (aR b a.2 λq=>
 aZ m (q.add (a.2.toNat*1)) λp=>
 ((5:Int)≠0)/\
 aR b (qc xx (a.2+1)) λt=>
 aZ m (t.add ((qc xx (a.2+1)).toNat*1)) λs=>
 aR b (qc xx (a.2+2)) λu=>
 aZ m (u.add ((qc xx (a.2+2)).toNat*1)) λF=>
 ae xB 142 #[(qc xx (wy p 5)),s,F] aiC m λw L=>
 (az.ok [(q.add (a.2.toNat*1),p)] L)/\
 aB xB (qq 132 1 #[(0,w)]) aI L λI J=>
 (az.ok [(q.add (a.2.toNat*1),p)] J)/\
 aB xB (qt #[132,132] 132 #[a.1,I]) aI J λg h8=>
 (az.ok [(q.add (a.2.toNat*1),p)] h8)/\
 K ((⟨g.ptr,g.len,g.cap⟩:Sl),qc xx (a.2+3)) h8)
 (P (⟨a.1.ptr,a.1.len,a.1.cap⟩:Sl) m))
 (λN=>
 Br c (aR b a.2 λa4=>
 aZ h3 (a4.add (a.2.toNat*1)) λT=>
 ae xB 12 #[T,(xq xx 5)] bx h3 λO S=>
 N (O==4) S) (N eR h3))))
 (λQ=>
 Br ((qc xx (a.2+2))<(b.len:Int)) (Br ((a.1.len:Int)<d)
 (Q () v)
 (M (⟨a.1.ptr,a.1.len,a.1.cap⟩:Sl) v)) (M (⟨a.1.ptr,a.1.len,a.1.cap⟩:Sl) v))) ((⟨eH,0,0⟩:Sl),(0:Int)) W)
theorem AE(c:bR)(d:Sl)(b:Int)(a:Bool)(e:@oI R h c d b a):ac xB 74 #[c,d,b,a] h R:=aw af func74 (an.tn (an.tn (.two (.join [(9,cA)] [(9,72)] (an.tn (.inn (.loop [(9,cA),(10,ba)] [(9,72)] (.two (.join [] [(11,22)] .n) (.two (.inn (.two (.join [(9,cA)] [(9,10),(24,52)] (.two (.join [(32,kB)] [(24,33)] .n) .n)) .n)) .n)))))) .n))) e
noncomputable def rE(a:aO)(b:ByteArray):Prop:=
 ae xB 55 #[a] bN h λt m=>
 Br t
 (R (xq xx 14) m)
 (ae xB 91 #[a,b] bx m λj e=>
 Br (j<0)
 (R (xq xx 5) e)
 (∃a3,(a=dB a3)/\
 aZ e a3 λs=>
 Br (s>=2147483647)
 (R (xq xx 7) e)
 (∃a5,(a=dB a5)/\
 ∃l:cQ,aq e a5 0 l/\
 ae xB 61 #[l] CF e λr h3=>
 aS xB (qL 44 eL (.tuple #[])) h3 λc q=>
 ag xB (qf 44 c r) q λ_ n=>
 aZ n c λu=>
 ag xB (qf 3 c (qc xx (u+1))) n λ_ k=>
 bi k (c.add 7) λf=>
 ae xB 144 #[f,j,(qc xx (j+1))] aI k λg o=>
 ag xB (qf 42 (c.add 7) g) o λ_ h8=>
 ∃d:cQ,aq h8 c 0 d/\
 ae xB 145 #[a,d] bx h8 λi p=>
 R i p)))
theorem CH(b:aO)(a:ByteArray)(c:@rE R h b a):ac xB 75 #[b,a] h R:=aw af func75 .n c
noncomputable def Ko(a:Sl):Prop:=
 Br ((a.len:Int) !=64)
 (R (.tuple #[(xq xx 0),(xr eH 0 0),eR]) h)
 (aR a (3:Int) λb=>
 gg .u8 h (b.add ((3:Int).toNat*1)) λx2=>
 (0<=(4:Int)/\(4:Int)<=(59:Int)/\(59:Int)<=(a.cap:Int))/\
 ae xB 146 #[(.slice (if a.cap=(4:Int).toNat then a.ptr else a.ptr.map (·.add ((4:Int).toNat*1))) ((59:Int).toNat-(4:Int).toNat) (a.cap-(4:Int).toNat))] aI h λc d=>
 (az.ok [(b.add ((3:Int).toNat*1),(xq xy x2))] d)/\
 ae xB 147 #[(qc xx x2),c] aI d λf e=>
 ae xB 99 #[a,f] bN e λg h3=>
 Br (!g)
 (R (.tuple #[(xq xx 0),(xr eH 0 0),eR]) h3)
 (R (.tuple #[(qc xx x2),c,eL]) h3))
theorem RI(a:Sl)(b:@Ko R h a):ac xB 76 #[a] h R:=aw af func76 .n b
noncomputable def nw(b:aO)(a:Int):Prop:=
 bm (σ:=Unit) (λ_ c=>
 ∃a4,(b=dB a4)/\
 bi c (a4.add 2) λf=>
 aR f a λe=>
 bi c (e.add (a.toNat*1)) λi=>
 ae xB 146 #[i] aI c λk g=>
 R k g)
 (λj=>
 Br (qS b) (R (xr eH 0 0) h) (Br (a<0) (R (xr eH 0 0) h) (∃d,(b=dB d)/\
 bi h (d.add 2) λx2=>
 Br (a>=(x2.len:Int))
 (R (xr eH 0 0) h)
 (j () h))))
theorem rF(a:aO)(b:Int)(c:@nw R h a b):ac xB 77 #[a,b] h R:=aw af func77 (an.tn (.two (.join [] [(4,20)] .n) .n)) c
noncomputable def sC(e:aO)(c:Int)(a:Int)(b:Int):Prop:=
 bm (σ:=Unit) (λ_ p=>
 aL (σ:=Int) (λd l f=>
 Br (d<4)
 (∃a5,(e=dB a5)/\
 bi f (a5.add 2) λn=>
 aR n c λm=>
 bi f (m.add (c.toNat*1)) λk=>
 aR k (qc xx (a+d)) λa9=>
 gg .u8 f (a9.add ((qc xx (a+d)).toNat*1)) λg=>
 (0<=(qc xx (8*d)))/\
 aR k (qc xx (a+d)) λi=>
 ag xB (qf 5 (i.add ((qc xx (a+d)).toNat*1)) (xq xy (qc xy ((qD (qk xy) g^^^(qD (qk xy) (qc xy (qX b (2^min (qc xx (8*d)).toNat (qk xz)))))).toNat:Nat)))) f λ_ h3=>
 (az.ok [] h3)/\
 l (qc xx (d+1)) h3)
 (R eL f)) (0:Int) p)
 (λo=>
 Br (qS e) (R eR h) (Br (c<0) (R eR h) (∃j,(e=dB j)/\
 bi h (j.add 2) λx2=>
 Br (c>=(x2.len:Int)) (R eR h) (Br (a<0) (R eR h) (Br (a>60) (R eR h) (Br (b==0)
 (R eR h)
 (o () h)))))))
theorem Dv(c:aO)(d:Int)(b:Int)(a:Int)(e:@sC R h c d b a):ac xB 78 #[c,d,b,(xq xz a)] h R:=aw af func78 (an.tn (.two (.join [] [(8,9),(10,37)] .n) (.two (an.tn (.inn (.loop [(37,ba)] [(9,10),(37,60)] .n))) .n))) e
noncomputable def Kp(c:aO)(a:Int)(b:Int):Prop:=
 ae xB 83 #[c] bN h λJ w=>
 Br J
 (R (xq xx 14) w)
 (ae xB 16 #[c] CF w λF B=>
 aS xB (qL 44 eL (.tuple #[])) B λa3 h3=>
 ag xB (qf 44 a3 F) h3 λ_ D=>
 ae xB 88 #[a,b] bN D λI s=>
 Br (!I)
 (R (xq xx 1) s)
 (bi s (a3.add 6) λE=>
 ae xB 84 #[E,a] bN s λA k=>
 Br A
 (R (xq xx 4) k)
 (aZ k a3 λz=>
 Br (z>=2147483647)
 (R (xq xx 7) k)
 (ae xB 90 #[c] iP k λH y=>
 ae xB 43 #[b,H] iP y λG h8=>
 ae xB 89 #[c,a,G] il h8 λ_ v=>
 aZ v a3 λl=>
 ag xB (qf 3 a3 (qc xx (l+1))) v λ_ i=>
 bi i (a3.add 6) λm=>
 aB xB (qq 22 1 #[(0,a)]) aI i λo u=>
 aB xB (qt #[22,22] 22 #[m,o]) aI u λt p=>
 ag xB (qf 22 (a3.add 6) t) p λ_ g=>
 bi g (a3.add 6) λq=>
 ae xB 148 #[q] il g λ_ d=>
 ∃j:cQ,aq d a3 0 j/\
 ae xB 145 #[c,j] bx d λf e=>
 bm (σ:=Unit) (λ_ n=>
 R f n)
 (λx=>
 Br (f==7)
 (ae xB 89 #[c,a,(xt eH)] il e λ_ r=>
 x () r)
 (x () e))))))
theorem RJ(c:aO)(b:Int)(a:Int)(d:@Kp R h c b a):ac xB 79 #[c,b,a] h R:=aw af func79 (an.tn (an.tn (an.tn (an.tn (an.tn (an.tn (an.tn (an.tn (an.tn (.two (.join [] [(50,55)] .n) .n)))))))))) d
noncomputable def MZ(c:cN)(a:Sl):Prop:=
 aL (σ:=Sl×Int) (λb d f=>
 Br (b.2<(a.len:Int))
 (aR a b.2 λm=>
 aZ f (m.add (b.2.toNat*1)) λx3=>
 iC C c.1 (c.2.1.toList++[(xq xx x3)]++c.2.2.toList) iP f λi g=>
 Br (!(qS i)) (ae xB 149 #[i] bN g λn h3=>
 Br (!n)
 (aB xB (qq 22 1 #[(0,x3)]) aI h3 λl k=>
 aB xB (qt #[22,22] 22 #[b.1,l]) aI k λe j=>
 d ((⟨e.ptr,e.len,e.cap⟩:Sl),qc xx (b.2+1)) j)
 (d ((⟨b.1.ptr,b.1.len,b.1.cap⟩:Sl),qc xx (b.2+1)) h3)) (d ((⟨b.1.ptr,b.1.len,b.1.cap⟩:Sl),qc xx (b.2+1)) g))
 (R b.1 f)) ((⟨eH,0,0⟩:Sl),(0:Int)) h
theorem Ua(b:cN)(a:Sl)(c:@MZ R h b a):ac xB 80 #[(.func (.func b.1) b.2.1 b.2.2),a] h R:=aw af func80 (an.tn (an.tn (.two (an.tn (.inn (.loop [(5,cA),(11,ba)] [(5,6),(7,9),(11,30)] .n))) .n))) c
noncomputable def Kq(a:aO):Prop:=
 Br (qS a) (R eL h) (ae xB 57 #[a] bN h λc b=>
 R c b)
theorem RK(a:aO)(b:@Kq R h a):ac xB 83 #[a] h R:=aw af func83 .n b
noncomputable def jG(b:Sl)(a:Int):Prop:=
 ae xB 150 #[b,a] bx h λd c=>
 R (decide (d>=0)) c
theorem mf(a:Sl)(b:Int)(c:@jG R h a b):ac xB 84 #[a,b] h R:=aw af func84 .n c
noncomputable def ul(a:aO):Prop:=
 Br (!(qS a))
 (∃b,(a=dB b)/\
 ag xB (qf 4 (b.add 6) eL) h λ_ f=>
 ∃c,(a=dB c)/\
 ag xB (qf 85 (c.add 2) (xr eH 0 0)) f λ_ e=>
 ∃a3,(a=dB a3)/\
 ag xB (qf 3 (a3.add 3) (xq xx 0)) e λ_ h3=>
 ∃a4,(a=dB a4)/\
 ag xB (qf 85 (a4.add 4) (xr eH 0 0)) h3 λ_ g=>
 ∃a5,(a=dB a5)/\
 ag xB (qf 4 (a5.add 5) eR) g λ_ d=>
 R (.tuple #[]) d)
 (R (.tuple #[]) h)
theorem ES(a:aO)(b:@ul R h a):ac xB 85 #[a] h R:=aw af func85 .n b
noncomputable def FZ(b:Int)(a:Int):Prop:=
 Br (b>=0) (Br (b<64) (Br (a>=1) (R (decide (a<=512)) h) (R eR h)) (R eR h)) (R eR h)
theorem Na(b:Int)(a:Int)(c:@FZ R h b a):ac xB 88 #[b,a] h R:=aw af func88 .n c
noncomputable def ot(b:aO)(a:Int)(c:aO):Prop:=
 Br (!(qS b)) (Br (a>=0) (Br (a<64)
 (∃d,(b=dB d)/\
 (0<=a/\a<((64:Nat):Int))/\
 ag xB (qf 74 ((d.add 10).add (a.toNat*1)) c) h λ_ e=>
 R (.tuple #[]) e)
 (R (.tuple #[]) h)) (R (.tuple #[]) h)) (R (.tuple #[]) h)
theorem sD(b:aO)(a:Int)(c:aO)(d:@ot R h b a c):ac xB 89 #[b,a,c] h R:=aw af func89 .n d
noncomputable def sE(a:aO):Prop:=
 Br (qS a)
 (R (xt eH) h)
 (∃b,(a=dB b)/\
 kA h (b.add 8) λx2=>
 R x2 h)
theorem Dw(a:aO)(b:@sE R h a):ac xB 90 #[a] h R:=aw af func90 .n b
noncomputable def um(b:aO)(a:ByteArray):Prop:=
 aS xB (qM 9 a) h λe c=>
 ∃d,(b=dB d)/\
 bi c (d.add 7) λx3=>
 ae xB 152 #[x3,(.func (.func 153) #[] #[e])] bx c λg f=>
 R g f
theorem ET(b:aO)(a:ByteArray)(c:@um R h b a):ac xB 91 #[b,a] h R:=aw af func91 .n c
noncomputable def Dx(D:bR)(a:Int)(l:Sl):Prop:=
 aS xB (qM 24 D) h λd L=>
 bm (σ:=Unit) (λ_ K=>
 bm (σ:=Unit) (λ_ I=>
 ∃m:bR,aq I d 0 m/\
 ae xB 160 #[m,(xq xz a),l] (.many [cA,ba]) I λi h8=>
 Br (i.2 !=0)
 (R (.tuple #[(xr eH 0 0),i.2]) h8)
 (aZ h8 d λz=>
 aL (σ:=Sl×Int) (λc P u=>
 Br (c.2<z)
 (aZ u (d.add 2) λn=>
 aB xB (qF 34 n n) aI u λk r=>
 ∃t:bR,aq r d 0 t/\
 ae xB 161 #[t,(xq xz a),c.2] aI r λq G=>
 aL (σ:=Int) (λe O f=>
 Br (e<(q.len:Int))
 (aR q e λF=>
 aZ f (F.add (e.toNat*1)) λo=>
 aR i.1 o λB=>
 bi f (B.add (o.toNat*1)) λs=>
 aL (σ:=Int) (λb U g=>
 Br (b<(s.len:Int))
 (aR s b λE=>
 gg .u8 g (E.add (b.toNat*1)) λH=>
 aR k b λA=>
 gg .u8 g (A.add (b.toNat*1)) λx=>
 aR k b λa28=>
 ag xB (qf 5 (a28.add (b.toNat*1)) (xq xy (qc xy ((qD (qk xy) x^^^(qD (qk xy) H)).toNat:Nat)))) g λ_ v=>
 U (qc xx (b+1)) v)
 (O (qc xx (e+1)) g)) (0:Int) f)
 (aB xB (qt #[34,34] 34 #[c.1,k]) aI f λj y=>
 P ((⟨j.ptr,j.len,j.cap⟩:Sl),qc xx (c.2+1)) y)) (0:Int) G)
 (R (.tuple #[c.1,(xq xx 0)]) u)) ((⟨eH,0,0⟩:Sl),(0:Int)) h8))
 (λN=>
 ∃p:bR,aq K d 0 p/\
 ae xB 159 #[l] aI K λV M=>
 (az.ok [(d,p.1),(d.add 1,p.2.1),(d.add 2,p.2.2)] M)/\
 ae xB 158 #[p,(xq xz a),V] bN M λW w=>
 (az.ok [] w)/\
 Br (!W)
 (R (.tuple #[(xr eH 0 0),(xq xx 9)]) w)
 (N () w)))
 (λT=>
 ∃x2:bR,aq L d 0 x2/\
 ae xB 40 #[x2] bN L λS J=>
 Br (!S) (R (.tuple #[(xr eH 0 0),(xq xx 1)]) J) (ae xB 155 #[l,(.func (.func 156) #[] #[d])] bN J λQ h3=>
 Br Q
 (R (.tuple #[(xr eH 0 0),(xq xx 1)]) h3)
 (T () h3)))
theorem Lu(b:bR)(a:Int)(c:Sl)(d:@Dx R h b a c):ac xB 93 #[b,(xq xz a),c] h R:=aw af func93 (an.tn (.two (.join [] [(6,8),(17,25)] .n) (.two (.join [] [(6,8),(25,31)] .n) (an.tn (an.tn (an.tn (.two (an.tn (.inn (.loop [(10,cA),(43,ba)] [(10,13),(14,17),(43,81)] (an.tn (an.tn (.two (.inn (an.tn (an.tn (.two (an.tn (.inn (.loop [(54,ba)] [(14,17),(54,77)] (an.tn (an.tn (.two (.inn (an.tn (an.tn (.inn (.loop [(63,ba)] [(15,17),(63,76)] .n))))) .n)))))) .n)))) .n)))))) .n))))))) d
noncomputable def Nb(w:cQ):Prop:=
 aS xB (qM 44 w) h λc H=>
 bm (σ:=Unit) (λ_ F=>
 bm (σ:=Unit) (λ_ h8=>
 bi h8 (c.add 7) λk=>
 aL (σ:=Int) (λa K o=>
 Br (a<(k.len:Int))
 (aR k a λu=>
 ∃g:iO,aq o (u.add (a.toNat*4)) 0 g/\
 aS xB (qL 94 eL (.tuple #[])) o λd A=>
 ag xB (qf 94 d g) A λ_ f=>
 bm (σ:=Unit) (λ_ l=>
 bi l (c.add 7) λe=>
 (0<=a/\a<=(e.cap:Int))/\
 ae xB 165 #[(xr e.ptr a.toNat e.cap),(.func (.func 166) #[] #[d])] bN l λy i=>
 Br y
 (R eR i)
 (K (qc xx (a+1)) i))
 (λE=>
 ∃j:cQ,aq f c 0 j/\
 ∃m:iO,aq f d 0 m/\
 ae xB 164 #[j,m] bN f λB b=>
 (az.ok [] b)/\
 Br (!B) (R eR b) (Br (a>0) (bi b (c.add 7) λq=>
 aR q (qc xx (a-1)) λx=>
 FQ b (x.add ((qc xx (a-1)).toNat*4)) λD=>
 FQ b d λr=>
 Br (!(Op.bytesLess D.toList r.toList))
 (R eR b)
 (E () b)) (E () b))))
 (R eL o)) (0:Int) h8)
 (λJ=>
 bi F (c.add 6) λp=>
 ae xB 163 #[p,(xq xx 63)] bN F λs n=>
 Br (!s) (R eR n) (bi n (c.add 7) λz=>
 Br ((z.len:Int)>12)
 (R eR n)
 (J () n))))
 (λO=>
 aZ H c λx2=>
 ae xB 162 #[x2,(xq xx 1),(xq xx 2147483647)] bN H λN t=>
 Br (!N) (R eR t) (aZ t (c.add 1) λS=>
 ae xB 162 #[S,(xq xx 0),(xq xx 16777216)] bN t λL h3=>
 Br (!L) (R eR h3) (∃G:bR,aq h3 (c.add 2) 0 G/\
 ae xB 40 #[G] bN h3 λP v=>
 Br (!P) (R eR v) (aZ v (c.add 5) λM=>
 ae xB 162 #[M,(xq xx 0),(xq xx 16)] bN v λQ I=>
 Br (!Q)
 (R eR I)
 (O () I)))))
theorem Ub(a:cQ)(b:@Nb R h a):ac xB 95 #[a] h R:=aw af func95 (an.tn (.two (.join [] [(2,3),(5,27)] .n) (.two (.join [] [(2,3),(27,37)] .n) (.two (an.tn (.inn (.loop [(40,ba)] [(2,5),(40,72)] (an.tn (an.tn (.two (.inn (an.tn (.two (.join [] [(2,3),(45,65)] .n) .n))) .n)))))) .n)))) b
noncomputable def uX(a:aO):Prop:=
 Br (qS a)
 (R (xr eH 0 0) h)
 (∃b,(a=dB b)/\
 bi h (b.add 2) λx2=>
 ae xB 167 #[x2] aI h λc d=>
 R c d)
theorem GC(a:aO)(b:@uX R h a):ac xB 96 #[a] h R:=aw af func96 .n b
noncomputable def jy(b:Sl)(a:cN):Prop:=
 ae xB 168 #[b,(.func (.func a.1) a.2.1 a.2.2)] bx h λd c=>
 R (decide (d>=0)) c
theorem ny(b:Sl)(a:cN)(c:@jy R h b a):ac xB 97 #[b,(.func (.func a.1) a.2.1 a.2.2)] h R:=aw af func97 .n c
noncomputable def Dy(b:Sl)(a:eX):Prop:=
 bi h a λc=>
 ae xB 99 #[b,c] bN h λd e=>
 R d e
theorem Lv(b:Sl)(a:eX)(c:@Dy R h b a):ac xB 98 #[b,a] h R:=aw af func98 .n c
noncomputable def Ga(b:Sl)(a:Sl):Prop:=
 aB xB (convert 34 9 b) (.one XW) h λd f=>
 aB xB (convert 34 9 a) (.one XW) f λe c=>
 R (xv (d.toList==e.toList)) c
theorem Nc(a:Sl)(b:Sl)(c:@Ga R h a b):ac xB 99 #[a,b] h R:=aw af func99 .n c
noncomputable def Kr(am:cQ):Prop:=
 aS xB (qM 44 am) h λe h1=>
 ∃x2:cQ,aq h1 e 0 x2/\
 ae xB 95 #[x2] bN h1 λr3 G=>
 Br (!r3)
 (R (xr eH 0 0) G)
 (bm (σ:=Sl) (λs8 s=>
 aZ s (e.add 2) λx9=>
 aZ s ((e.add 2).add 1) λad=>
 aZ s ((e.add 2).add 2) λI=>
 aZ s (e.add 5) λN=>
 bi s (e.add 6) λao=>
 aB xB (qq 34 5 #[(0,(xq xy (qc xy x9))),(1,(xq xy (qc xy ad))),(2,(xq xy (qc xy I))),(3,(xq xy (qc xy N))),(4,(xq xy (qc xy (ao.len:Int))))]) aI s λZ h6=>
 aB xB (qt #[34,34] 34 #[s8,Z]) aI h6 λk h7=>
 bi h7 (e.add 6) λE=>
 aL (σ:=Sl×Int) (λd K2 h8=>
 Br (d.2<(E.len:Int))
 (aR E d.2 λP=>
 aZ h8 (P.add (d.2.toNat*1)) λX=>
 aB xB (qq 34 1 #[(0,(xq xy (qc xy X)))]) aI h8 λT h9=>
 aB xB (qt #[34,34] 34 #[d.1,T]) aI h9 λp U=>
 K2 ((⟨p.ptr,p.len,p.cap⟩:Sl),qc xx (d.2+1)) U)
 (bi h8 (e.add 7) λab=>
 aB xB (qq 34 1 #[(0,(xq xy (qc xy (ab.len:Int))))]) aI h8 λK V=>
 aB xB (qt #[34,34] 34 #[d.1,K]) aI V λn t=>
 bi t (e.add 7) λz=>
 aL (σ:=Sl×Int) (λc K3 j=>
 Br (c.2<(z.len:Int))
 (aR z c.2 λJ=>
 ∃x:iO,aq j (J.add (c.2.toNat*4)) 0 x/\
 aS xB (qL 94 eL (.tuple #[])) j λa W=>
 ag xB (qf 94 a x) W λ_ l=>
 bm (σ:=Sl) (λY g=>
 bm (σ:=Sl) (λi v=>
 bi v (a.add 3) λw=>
 aL (σ:=Sl×Int) (λb K6 q=>
 Br (b.2<(w.len:Int))
 (aR w b.2 λM=>
 aZ q (M.add (b.2.toNat*1)) λar=>
 aB xB (qq 34 1 #[(0,(xq xy (qc xy ar)))]) aI q λv45 O=>
 aB xB (qt #[34,34] 34 #[b.1,v45]) aI O λv46 ah=>
 K6 ((⟨v46.ptr,v46.len,v46.cap⟩:Sl),qc xx (b.2+1)) ah)
 (K3 ((⟨b.1.ptr,b.1.len,b.1.cap⟩:Sl),qc xx (c.2+1)) q)) ((⟨i.ptr,i.len,i.cap⟩:Sl),(0:Int)) v)
 (λK5=>
 aZ g (a.add 1) λH=>
 aZ g (a.add 2) λB=>
 ae xB 169 #[Y,H,(xq xx 3)] aI g λap y=>
 (az.ok [(a.add 2,B)] y)/\
 ae xB 169 #[ap,B,(xq xx 2)] aI y λr F=>
 (az.ok [] F)/\
 K5 (⟨r.ptr,r.len,r.cap⟩:Sl) F))
 (λK4=>
 FQ l a λf=>
 FQ l a λo=>
 aB xB (qq 34 1 #[(0,(xq xy (qc xy (f.size:Int))))]) aI l λS u=>
 (az.ok [(a,o),(a,f)] u)/\
 aB xB (qt #[34,34] 34 #[c.1,S]) aI u λQ A=>
 (az.ok [(a,o),(a,f)] A)/\
 aB xB (qt #[34,9] 34 #[Q,o]) aI A λm D=>
 (az.ok [(a,f)] D)/\
 K4 (⟨m.ptr,m.len,m.cap⟩:Sl) D))
 (R c.1 j)) ((⟨n.ptr,n.len,n.cap⟩:Sl),(0:Int)) t)) ((⟨k.ptr,k.len,k.cap⟩:Sl),(0:Int)) h7)
 (λK1=>
 aZ G e λx4=>
 aZ G (e.add 1) λx5=>
 ae xB 169 #[(xr eH 0 0),x4,(xq xx 4)] aI G λr6 h3=>
 (az.ok [(e.add 1,x5)] h3)/\
 ae xB 169 #[r6,x5,(xq xx 4)] aI h3 λL h4=>
 (az.ok [] h4)/\
 K1 (⟨L.ptr,L.len,L.cap⟩:Sl) h4))
theorem RL(a:cQ)(b:@Kr R h a):ac xB 100 #[a] h R:=aw af func100 (an.tn (an.tn (.two (.join [(3,cA)] [(3,4),(13,19)] .n) (an.tn (.two (an.tn (.inn (.loop [(3,cA),(44,ba)] [(3,4),(5,6),(44,54)] .n))) (an.tn (.two (an.tn (.inn (.loop [(3,cA),(64,ba)] [(3,4),(7,8),(9,10),(64,99)] (an.tn (an.tn (.two (.inn (an.tn (.two (.join [(3,cA)] [(3,4),(68,78)] .n) (.two (.join [(3,cA)] [(3,4),(78,85)] .n) (an.tn (.inn (.loop [(3,cA),(88,ba)] [(3,4),(9,10),(88,98)] .n))))))) .n)))))) .n))))))) b
noncomputable def Nd(a:Int)(b:Int)(c:Int)(d:Sl):Prop:=
 (0<=(24:Int))/\
 (0<=(16:Int))/\
 (0<=(8:Int))/\
 aB xB (qq 34 7 #[(0,(xq xy (qc xy (qX a (2^min (24:Int).toNat (qk xx)))))),(1,(xq xy (qc xy (qX a (2^min (16:Int).toNat (qk xx)))))),(2,(xq xy (qc xy (qX a (2^min (8:Int).toNat (qk xx)))))),(3,(xq xy (qc xy a))),(4,(xq xy (qc xy b))),(5,(xq xy (qc xy c))),(6,(xq xy (qc xy (d.len:Int))))]) aI h λf j=>
 aB xB (qt #[34,34] 34 #[f,d]) aI j λg e=>
 ae xB 147 #[(xq xx 2),g] aI e λi h3=>
 R i h3
theorem Uc(c:Int)(a:Int)(b:Int)(d:Sl)(e:@Nd R h c a b d):ac xB 101 #[c,a,b,d] h R:=aw af func101 .n e
noncomputable def mz(a:aO)(g:Sl):Prop:=
 bm (σ:=Unit) (λ_ h3=>
 bm (σ:=Unit) (λ_ h8=>
 ∃i,(a=dB i)/\
 aZ h8 (i.add 3) λp=>
 ∃e,(a=dB e)/\
 ag xB (qf 3 (e.add 3) (qc xx (p+1))) h8 λ_ w=>
 ∃a22,(a=dB a22)/\
 kA w a22 λm=>
 ae xB 170 #[m] bN w λq j=>
 Br (!q)
 (R (xq xx 14) j)
 (ae xB 171 #[a] bx j λo r=>
 R o r))
 (λF=>
 ∃b,(a=dB b)/\
 bi h3 (b.add 2) λc=>
 ae xB 146 #[g] aI h3 λn A=>
 (az.ok [(b.add 2,c)] A)/\
 aB xB (qq 85 1 #[(0,n)]) aI A λs D=>
 (az.ok [(b.add 2,c)] D)/\
 aB xB (qt #[85,85] 85 #[c,s]) aI D λl y=>
 (az.ok [] y)/\
 ∃f,(a=dB f)/\
 ag xB (qf 85 (f.add 2) l) y λ_ u=>
 (az.ok [] u)/\
 F () u))
 (λH=>
 Br ((g.len:Int) !=64)
 (R (xq xx 1) h)
 (bm (σ:=Bool) (λI d=>
 Br I
 (R (xq xx 5) d)
 (∃a4,(a=dB a4)/\
 bi d (a4.add 2) λG=>
 ∃t,(a=dB t)/\
 aZ d (t.add 1) λE=>
 Br ((G.len:Int)>=E)
 (R (xq xx 7) d)
 (∃v,(a=dB v)/\
 kA d v λJ=>
 ae xB 121 #[J] bN d λk z=>
 Br (!k)
 (R (xq xx 14) z)
 (H () z))))
 (λx=>
 Br (qS a) (x eL h) (∃B,(a=dB B)/\
 su h (B.add 6) λx2=>
 x x2 h))))
theorem oJ(a:aO)(b:Sl)(c:@mz R h a b):ac xB 102 #[a,b] h R:=aw af func102 (an.tn (.two (.join [] [(4,36)] (.inn (an.tn (an.tn (.two (.join [(9,kB)] [(9,18)] .n) .n))))) (.two (.join [] [(36,47)] .n) .n))) c
noncomputable def Nf(b:cN)(a:Sl):Prop:=
 ae xB 128 #[a] aI h λe o=>
 ae xB 148 #[e] il o λ_ m=>
 ae xB 172 #[e] aI m λf h3=>
 aL (σ:=Int) (λc n d=>
 Br (c<(f.len:Int))
 (aR f c λa5=>
 aZ d (a5.add (c.toNat*1)) λl=>
 iC C b.1 (b.2.1.toList++[(xq xx l)]++b.2.2.toList) iP d λj k=>
 ae xB 173 #[j] bx k λg i=>
 Br (g !=0)
 (R g i)
 (n (qc xx (c+1)) i))
 (R (xq xx 0) d)) (0:Int) h3
theorem Ud(b:cN)(a:Sl)(c:@Nf R h b a):ac xB 103 #[(.func (.func b.1) b.2.1 b.2.2),a] h R:=aw af func103 (an.tn (an.tn (an.tn (.two (an.tn (.inn (.loop [(15,ba)] [(4,5),(6,8),(15,27)] .n))) .n)))) c
noncomputable def Ks(d:ByteArray):Prop:=
 aB xB (convert 9 34 d) aI h λf g=>
 aL (σ:=Int) (λc e a=>
 Br (c<(f.len:Int))
 (aR f c λa3=>
 gg .u8 a (a3.add (c.toNat*1)) λb=>
 Br (b<97) (Br (b<48) (Br (b !=45)
 (R eR a)
 (e (qc xx (c+1)) a)) (Br (b>57) (Br (b !=45)
 (R eR a)
 (e (qc xx (c+1)) a)) (e (qc xx (c+1)) a))) (Br (b>122) (Br (b<48) (Br (b !=45)
 (R eR a)
 (e (qc xx (c+1)) a)) (Br (b>57) (Br (b !=45)
 (R eR a)
 (e (qc xx (c+1)) a)) (e (qc xx (c+1)) a))) (e (qc xx (c+1)) a)))
 (Br ((d.size:Int)>=1) (R (decide ((d.size:Int)<=12)) a) (R eR a))) (0:Int) g
theorem RM(a:ByteArray)(b:@Ks R h a):ac xB 104 #[a] h R:=aw af func104 (an.tn (.two (an.tn (.inn (.loop [(8,ba)] [(2,3),(4,5),(8,31)] .n))) .n)) b
noncomputable def Kt(g:bR)(a:Int)(b:Int):Prop:=
 aS xB (qM 24 g) h λc l=>
 aL (σ:=Int) (λd k e=>
 Br (d<16)
 (∃x3:bR,aq e c 0 x3/\
 ae xB 62 #[a,b,d] (.one (.sc (.int .u32))) e λj h3=>
 (az.ok [(c,x3.1),(c.add 1,x3.2.1),(c.add 2,x3.2.2)] h3)/\
 ae xB 174 #[x3,(xq xz j)] bN h3 λi f=>
 (az.ok [] f)/\
 Br i
 (R (.tuple #[d,eL]) f)
 (k (qc xx (d+1)) f))
 (R (.tuple #[(xq xx 0),eR]) e)) (0:Int) l
theorem RN(c:bR)(a:Int)(b:Int)(d:@Kt R h c a b):ac xB 105 #[c,a,b] h R:=aw af func105 (an.tn (.two (an.tn (.inn (.loop [(9,ba)] [(6,20)] .n))) .n)) d
noncomputable def AF(b:bR):Prop:=
 aS xB (qM 24 b) h λc a=>
 aZ a c λx2=>
 aZ a (c.add 2) λx3=>
 R (qc xx (x2*x3)) a
theorem Dz(a:bR)(b:@AF R h a):ac xB 106 #[a] h R:=aw af func106 .n b
noncomputable def Gb(e:bR)(a:Sl):Prop:=
 aS xB (qM 24 e) h λf m=>
 ∃x2:bR,aq m f 0 x2/\
 ae xB 48 #[x2,(xq xx (a.len:Int))] bx m λt r=>
 aL (σ:=Sl×Int) (λb u h3=>
 Br (b.2<t)
 (∃j:bR,aq h3 f 0 j/\
 ae xB 106 #[j] bx h3 λi s=>
 aB xB (qF 34 i i) aI s λl n=>
 ∃k:bR,aq n f 0 k/\
 ae xB 106 #[k] bx n λd q=>
 (0<=(qc xx (b.2*d))/\(qc xx (b.2*d))<=(a.len:Int))/\
 aB xB (yp #[34,34] 3 #[l,(.slice (if a.cap=(qc xx (b.2*d)).toNat then a.ptr else a.ptr.map (·.add ((qc xx (b.2*d)).toNat*1))) (a.len-(qc xx (b.2*d)).toNat) (a.cap-(qc xx (b.2*d)).toNat))]) bx q λ_ o=>
 aB xB (qq 85 1 #[(0,l)]) aI o λg h8=>
 aB xB (qt #[85,85] 85 #[b.1,g]) aI h8 λc p=>
 u ((⟨c.ptr,c.len,c.cap⟩:Sl),qc xx (b.2+1)) p)
 (R b.1 h3)) ((⟨eH,0,0⟩:Sl),(0:Int)) r
theorem Ng(b:bR)(a:Sl)(c:@Gb R h b a):ac xB 107 #[b,a] h R:=aw af func107 (an.tn (an.tn (.two (an.tn (.inn (.loop [(5,cA),(12,ba)] [(5,8),(12,31)] .n))) .n))) c
noncomputable def HQ(E:bR)(d:Int)(a:Sl):Prop:=
 aS xB (qM 24 E) h λc N=>
 bm (σ:=Unit) (λ_ h3=>
 ∃M:bR,aq h3 c 0 M/\
 ae xB 174 #[M,(xq xz d)] bN h3 λY D=>
 Br (!Y)
 (R (.tuple #[(xt eH),(xq xx 8)]) D)
 (aZ D (c.add 1) λZ=>
 aL (σ:=Sl×Int) (λf P x=>
 Br (f.2<Z)
 (aZ x (c.add 2) λq=>
 aB xB (qF 34 q q) aI x λy S=>
 aB xB (qq 85 1 #[(0,y)]) aI S λF O=>
 aB xB (qt #[85,85] 85 #[f.1,F]) aI O λo h8=>
 P ((⟨o.ptr,o.len,o.cap⟩:Sl),qc xx (f.2+1)) h8)
 (aZ x c λG=>
 aL (σ:=Sl×Int) (λb T p=>
 Br (b.2<G)
 (aZ p (c.add 2) λg=>
 aZ p (c.add 2) λl=>
 (0<=(qc xx (b.2*g))/\(qc xx (b.2*g))<=(qc xx ((qc xx (b.2+1))*l))/\(qc xx ((qc xx (b.2+1))*l))<=(a.cap:Int))/\
 aB xB (qq 85 1 #[(0,(.slice (if a.cap=(qc xx (b.2*g)).toNat then a.ptr else a.ptr.map (·.add ((qc xx (b.2*g)).toNat*1))) ((qc xx ((qc xx (b.2+1))*l)).toNat-(qc xx (b.2*g)).toNat) (a.cap-(qc xx (b.2*g)).toNat)))]) aI p λz K=>
 aB xB (qt #[85,85] 85 #[b.1,z]) aI K λm L=>
 T ((⟨m.ptr,m.len,m.cap⟩:Sl),qc xx (b.2+1)) L)
 (bm (σ:=Sl×Int) (λv n=>
 Br (v.2 !=0)
 (R (.tuple #[(xt eH),(xq xx 8)]) n)
 (∃k:bR,aq n c 0 k/\
 aS xB (qM 234 (xw #[k.1,k.2.1,k.2.2,(xq xz d),v.1])) n λJ B=>
 R (.tuple #[J,(xq xx 0)]) B))
 (λQ=>
 ∃e:bR,aq p c 0 e/\
 ∃i:bR,aq p c 0 i/\
 ae xB 65 #[] iP p λH u=>
 (az.ok [(c,i.1),(c.add 1,i.2.1),(c.add 2,i.2.2),(c,e.1),(c.add 1,e.2.1),(c.add 2,e.2.2)] u)/\
 ae xB 176 #[i] aI u λI w=>
 (az.ok [(c,e.1),(c.add 1,e.2.1),(c.add 2,e.2.2)] w)/\
 ae xB 66 #[e,(xq xz d),I] aI w λA r=>
 (az.ok [] r)/\
 ae xB 175 #[H,A,b.1] (.many [cA,ba]) r λj s=>
 (az.ok [] s)/\
 Q ((⟨j.1.ptr,j.1.len,j.1.cap⟩:Sl),j.2) s))) ((⟨f.1.ptr,f.1.len,f.1.cap⟩:Sl),(0:Int)) x)) ((⟨eH,0,0⟩:Sl),(0:Int)) D))
 (λW=>
 ∃x2:bR,aq N c 0 x2/\
 ae xB 40 #[x2] bN N λV t=>
 Br (!V) (R (.tuple #[(xt eH),(xq xx 1)]) t) (aZ t c λX=>
 aZ t (c.add 2) λU=>
 Br ((a.len:Int) !=(qc xx (X*U)))
 (R (.tuple #[(xt eH),(xq xx 1)]) t)
 (W () t)))
theorem Pp(c:bR)(a:Int)(b:Sl)(d:@HQ R h c a b):ac xB 108 #[c,(xq xz a),b] h R:=aw af func108 (an.tn (.two (.join [] [(6,8),(12,25)] .n) (an.tn (an.tn (.two (an.tn (.inn (.loop [(8,cA),(31,ba)] [(8,9),(31,40)] .n))) (.two (an.tn (.inn (.loop [(8,cA),(42,ba)] [(8,10),(42,60)] .n))) (.two (.join [(10,cA),(11,ba)] [(10,12),(60,71)] .n) .n))))))) d
noncomputable def Gc(a:Int)(b:Int)(c:Sl):Prop:=
 bm (σ:=Unit) (λ_ K=>
 ((64:Int)≠0)/\
 ae xB 177 #[(wi (qc xx ((qc xx (8*a))+b)) 64)] (.one (.sc (.cpx .f64))) K λA J=>
 aS xB (qL 238 eL (.tuple #[])) J λa3 h3=>
 aL (σ:=Sl×Int) (λe z l=>
 Br (e.2<(c.len:Int))
 (aR c e.2 λa5=>
 aZ l (a5.add (e.2.toNat*1)) λf=>
 bm (σ:=Bool) (λM B=>
 Br M
 ((0<=f/\f<((64:Nat):Int))/\
 ag xB (qf 4 (a3.add (f.toNat*1)) eL) B λ_ I=>
 ae xB 177 #[f] (.one (.sc (.cpx .f64))) I λD E=>
 ae xB 178 #[(.complex .f64 D.1 D.2),(.complex .f64 A.1 A.2)] (.one (.sc (.flt .f64))) E λo h8=>
 aB xB (qq 237 1 #[(0,(xw #[f,(.float .f64 o)]))]) aI h8 λt F=>
 aB xB (qt #[237,237] 237 #[e.1,t]) aI F λi w=>
 z ((⟨i.ptr,i.len,i.cap⟩:Sl),qc xx (e.2+1)) w)
 (z ((⟨e.1.ptr,e.1.len,e.1.cap⟩:Sl),qc xx (e.2+1)) B))
 (λs=>
 Br (f>=0) (Br (f<64) ((0<=f/\f<((64:Nat):Int))/\
 su l (a3.add (f.toNat*1)) λG=>
 s (!G) l) (s eR l)) (s eR l)))
 (ae xB 179 #[e.1,(.func (.func 180) #[] #[])] il l λ_ x=>
 aL (σ:=Sl×Int) (λd H j=>
 Br (d.2<(e.1.len:Int))
 (aR e.1 d.2 λy=>
 ∃g:Int×Nat,aq j (y.add (d.2.toNat*2)) 0 [g.1,(.float .f64 g.2)]/\
 aS xB (qL 242 eL (.tuple #[])) j λn u=>
 ag xB (qf 242 n (xw #[g.1,(.float .f64 g.2)])) u λ_ m=>
 aZ m n λp=>
 aB xB (qq 22 1 #[(0,p)]) aI m λr q=>
 aB xB (qt #[22,22] 22 #[d.1,r]) aI q λk v=>
 H ((⟨k.ptr,k.len,k.cap⟩:Sl),qc xx (d.2+1)) v)
 (R d.1 j)) ((⟨eH,0,0⟩:Sl),(0:Int)) x)) ((⟨eH,0,0⟩:Sl),(0:Int)) h3)
 (λL=>
 Br (a<0) (R (xr eH 0 0) h) (Br (a>16777215) (R (xr eH 0 0) h) (Br (b<0) (R (xr eH 0 0) h) (Br (b>=8)
 (R (xr eH 0 0) h)
 (L () h)))))
theorem Nh(a:Int)(b:Int)(c:Sl)(d:@Gc R h a b c):ac xB 109 #[a,b,c] h R:=aw af func109 (an.tn (.two (.join [] [(6,7),(15,29)] .n) (an.tn (an.tn (an.tn (.two (an.tn (.inn (.loop [(8,cA),(37,ba)] [(8,9),(11,12),(37,65)] (an.tn (an.tn (.two (.inn (an.tn (.two (.join [(52,kB)] [(41,53)] .n) .n))) .n)))))) (an.tn (an.tn (.two (an.tn (.inn (.loop [(12,cA),(69,ba)] [(12,13),(14,15),(69,79)] .n))) .n))))))))) d
noncomputable def pG(b:aO)(c:Int):Prop:=
 bm (σ:=Unit) (λ_ v=>
 ∃t,(b=dB t)/\
 aZ v (t.add 2) λx3=>
 aB xB (qF 34 x3 x3) aI v λv4 o=>
 ∃a5,(b=dB a5)/\
 ∃u:bR,aq o a5 0 u/\
 ∃s,(b=dB s)/\
 gg .u32 o (s.add 3) λA=>
 ae xB 161 #[u,(xq xz A),c] aI o λw h3=>
 (az.ok [] h3)/\
 aL (σ:=Int) (λd x g=>
 Br (d<(w.len:Int))
 (aR w d λk=>
 aZ g (k.add (d.toNat*1)) λf=>
 ∃e,(b=dB e)/\
 bi g (e.add 4) λl=>
 aR l f λr=>
 bi g (r.add (f.toNat*1)) λi=>
 aL (σ:=Int) (λa z j=>
 Br (a<(i.len:Int))
 (aR i a λp=>
 gg .u8 j (p.add (a.toNat*1)) λm=>
 aR v4 a λn=>
 gg .u8 j (n.add (a.toNat*1)) λq=>
 aR v4 a λa22=>
 ag xB (qf 5 (a22.add (a.toNat*1)) (xq xy (qc xy ((qD (qk xy) q^^^(qD (qk xy) m)).toNat:Nat)))) j λ_ y=>
 z (qc xx (a+1)) y)
 (x (qc xx (d+1)) j)) (0:Int) g)
 (R v4 g)) (0:Int) h3)
 (λB=>
 Br (qS b) (R (xr eH 0 0) h) (Br (c<0) (R (xr eH 0 0) h) (Br (c>65535)
 (R (xr eH 0 0) h)
 (B () h))))
theorem Bn(b:aO)(a:Int)(c:@pG R h b a):ac xB 110 #[b,a] h R:=aw af func110 (an.tn (.two (.join [] [(4,5),(10,20)] .n) (an.tn (.two (an.tn (.inn (.loop [(37,ba)] [(7,10),(37,63)] (an.tn (an.tn (.two (.inn (an.tn (an.tn (.inn (.loop [(49,ba)] [(8,10),(49,62)] .n))))) .n)))))) .n)))) c
noncomputable def Ni(a:Sl)(b:Int):Prop:=
 bm (σ:=Unit) (λ_ c=>
 ((a.len:Int)≠0)/\
 aR a (wi b (a.len:Int)) λe=>
 aZ c (e.add ((wi b (a.len:Int)).toNat*1)) λx3=>
 R x3 c)
 (λd=>
 Br ((a.len:Int)==0) (R (xq xx (-1:Int)) h) (Br (b<0)
 (R (xq xx (-1:Int)) h)
 (d () h)))
theorem Ue(a:Sl)(b:Int)(c:@Ni R h a b):ac xB 111 #[a,b] h R:=aw af func111 (an.tn (.two (.join [] [(4,12)] .n) .n)) c
noncomputable def HR(k:fg):Prop:=
 aS xB (qM 170 k) h λa s=>
 ∃x2:fg,aq s a 0 x2/\
 ae xB 184 #[x2] bN s λy i=>
 Br (!y)
 (R (xr eH 0 0) i)
 (aZ i a λB=>
 ae xB 185 #[(xr eH 0 0),B,(xq xx 3)] aI i λv h3=>
 aZ h3 (a.add 1) λx=>
 ae xB 185 #[v,x,(xq xx 1)] aI h3 λz r=>
 aZ r (a.add 2) λw=>
 ae xB 185 #[z,w,(xq xx 2)] aI r λA b=>
 aZ b (a.add 3) λd=>
 aZ b ((a.add 3).add 1) λe=>
 aZ b ((a.add 3).add 2) λg=>
 aB xB (qq 34 3 #[(0,(xq xy (qc xy d))),(1,(xq xy (qc xy e))),(2,(xq xy (qc xy g)))]) aI b λj u=>
 aB xB (qt #[34,34] 34 #[A,j]) aI u λn q=>
 gg .u32 q (a.add 6) λl=>
 ae xB 185 #[n,(qc xx l),(xq xx 4)] aI q λf h8=>
 bi h8 (a.add 7) λp=>
 aB xB (qt #[34,34] 34 #[f,p]) aI h8 λc t=>
 ae xB 147 #[(xq xx 1),c] aI t λm o=>
 R m o)
theorem Pq(a:fg)(b:@HR R h a):ac xB 112 #[a] h R:=aw af func112 .n b
noncomputable def iZ(b:Sl)(a:cN):Prop:=
 ae xB 187 #[(xq xA (qc xA (b.len:Int)))] bx h λc e=>
 ae xB 186 #[b,(xq xx 0),(xq xx (b.len:Int)),c,(.func (.func a.1) a.2.1 a.2.2)] il e λ_ d=>
 R (.tuple #[]) d
theorem mJ(b:Sl)(a:cN)(c:@iZ R h b a):ac xB 113 #[b,(.func (.func a.1) a.2.1 a.2.2)] h R:=aw af func113 .n c
noncomputable def DA(c:iO)(a:iO):Prop:=
 aS xB (qM 94 c) h λd f=>
 aS xB (qM 94 a) f λg b=>
 FQ b d λx3=>
 FQ b g λe=>
 ae xB 115 #[x3,e] bx b λi h3=>
 R i h3
theorem Lw(a:iO)(b:iO)(c:@DA R h a b):ac xB 114 #[a,b] h R:=aw af func114 .n c
noncomputable def rG(a:ByteArray)(b:ByteArray):Prop:=
 ae xB 188 #[a] bN h λf e=>
 ae xB 188 #[b] bN e λd c=>
 Br f
 (Br d
 (R (xq xx 0) c)
 (R (xq xx (-1:Int)) c))
 (Br d
 (R (xq xx 1) c)
 (Br (Op.bytesLess a.toList b.toList)
 (R (xq xx (-1:Int)) c)
 (Br (!(Op.bytesLess a.toList b.toList||a.toList==b.toList))
 (R (xq xx 1) c)
 (R (xq xx 0) c))))
theorem CI(b:ByteArray)(a:ByteArray)(c:@rG R h b a):ac xB 115 #[b,a] h R:=aw af func115 .n c
noncomputable def iF(b:Sl)(a:cN):Prop:=
 ae xB 189 #[b,(.func (.func a.1) a.2.1 a.2.2)] bx h λd c=>
 R (decide (d>=0)) c
theorem kC(b:Sl)(a:cN)(c:@iF R h b a):ac xB 116 #[b,(.func (.func a.1) a.2.1 a.2.2)] h R:=aw af func116 .n c
noncomputable def rH(b:Int)(a:eX)(d:eX):Prop:=
 kA h a λf=>
 ∃g,(f=dB g)/\
 (0<=b/\b<((64:Nat):Int))/\
 kA h ((g.add 10).add (b.toNat*1)) λx3=>
 kA h a λi=>
 ∃a5,(i=dB a5)/\
 ∃c:cQ,aq h a5 0 c/\
 ∃e:cN,cellOf h d=dB (.func (.func e.1) e.2.1 e.2.2)/\
 iC C e.1 (e.2.1.toList++[(xq xx b)]++e.2.2.toList) bx h λm k=>
 (az.ok [(a5,c.1),(a5.add 1,c.2.1),(a5.add 2,c.2.2.1),(a5.add 3,c.2.2.2.1),(a5.add 4,c.2.2.2.2.1),(a5.add 5,c.2.2.2.2.2.1),(a5.add 6,c.2.2.2.2.2.2.1),(a5.add 7,c.2.2.2.2.2.2.2),(a,i),((g.add 10).add (b.toNat*1),x3),(a,f)] k)/\
 ae xB 118 #[x3,c,m] bN k λl j=>
 (az.ok [(a,i),(a,f)] j)/\
 R (xv (!l)) j
theorem CJ(c:Int)(b:eX)(a:eX)(d:@rH R h c b a):ac xB 117 #[c,b,a] h R:=aw af func117 .n d
noncomputable def CK(a:aO)(c:cQ)(b:Int):Prop:=
 aS xB (qM 44 c) h λm g=>
 bm (σ:=Unit) (λ_ h3=>
 ae xB 191 #[a] bx h3 λr k=>
 ae xB 190 #[a,r,b] bN k λl d=>
 Br l (R eL d) (∃f:cQ,aq d m 0 f/\
 ae xB 123 #[a,f] aI d λp j=>
 ae xB 190 #[a,(xq xx (p.len:Int)),b] bN j λq i=>
 R q i))
 (λo=>
 Br (qS a) (R eR g) (ae xB 149 #[a] bN g λn e=>
 Br n
 (R eR e)
 (o () e)))
theorem Gd(a:aO)(b:cQ)(c:Int)(d:@CK R h a b c):ac xB 118 #[a,b,c] h R:=aw af func118 (an.tn (.two (.join [] [(6,13)] .n) .n)) d
noncomputable def CL(a:aO)(d:cQ)(b:Int):Prop:=
 aS xB (qM 44 d) h λk l=>
 bm (σ:=Unit) (λ_ f=>
 ∃n:cQ,aq f k 0 n/\
 ae xB 123 #[a,n] aI f λc h8=>
 ae xB 125 #[a,c] bx h8 λe o=>
 R e o)
 (λt=>
 bm (σ:=Bool) (λv h3=>
 Br v
 (R (xq xx 5) h3)
 (∃m:cQ,aq h3 k 0 m/\
 ae xB 118 #[a,m,b] bN h3 λr j=>
 Br (!r)
 (R (xq xx 7) j)
 (ae xB 191 #[a] bx j λp w=>
 ae xB 190 #[a,p,b] bN w λu i=>
 Br u
 (R (xq xx 0) i)
 (t () i))))
 (λg=>
 Br (qS a) (g eL l) (ae xB 149 #[a] bN l λs q=>
 g s q)))
theorem Ge(a:aO)(b:cQ)(c:Int)(d:@CL R h a b c):ac xB 119 #[a,b,c] h R:=aw af func119 (an.tn (.two (.join [] [(6,26)] (.inn (.two (.join [(7,kB)] [(7,14)] .n) .n))) .n)) d
noncomputable def AG(a:aO):Prop:=
 Br (!(qS a)) (∃b,(a=dB b)/\
 su h b λx2=>
 R (xv (!x2)) h) (R eR h)
theorem HS(a:aO)(b:@AG R h a):ac xB 121 #[a] h R:=aw af func121 .n b
noncomputable def HT(a:Int)(b:Int):Prop:=
 Br (a>=0) (Br (a<=64) (Br (b>=0) (R (decide (b<=a)) h) (R eR h)) (R eR h)) (R eR h)
theorem Pr(b:Int)(a:Int)(c:@HT R h b a):ac xB 122 #[b,a] h R:=aw af func122 .n c
noncomputable def Ku(b:aO)(c:cQ):Prop:=
 aS xB (qM 44 c) h λa d=>
 ∃x2:cQ,aq d a 0 x2/\
 ∃x3:cQ,aq d a 0 x3/\
 ae xB 42 #[x2] aI d λg e=>
 (az.ok [(a,x3.1),(a.add 1,x3.2.1),(a.add 2,x3.2.2.1),(a.add 3,x3.2.2.2.1),(a.add 4,x3.2.2.2.2.1),(a.add 5,x3.2.2.2.2.2.1),(a.add 6,x3.2.2.2.2.2.2.1),(a.add 7,x3.2.2.2.2.2.2.2)] e)/\
 ae xB 192 #[b,x3] aI e λj h3=>
 (az.ok [] h3)/\
 aB xB (qt #[85,85] 85 #[g,j]) aI h3 λi f=>
 (az.ok [] f)/\
 R i f
theorem RO(a:aO)(b:cQ)(c:@Ku R h a b):ac xB 123 #[a,b] h R:=aw af func123 .n c
noncomputable def gZ(b:Sl)(d:Sl)(a:cN):Prop:=
 Br ((b.len:Int) !=(d.len:Int))
 (R eR h)
 (aL (σ:=Int) (λc i e=>
 Br (c<(b.len:Int))
 (aR b c λk=>
 bi e (k.add (c.toNat*1)) λx3=>
 aR d c λa4=>
 bi e (a4.add (c.toNat*1)) λf=>
 iC C a.1 (a.2.1.toList++[(xr x3.ptr x3.len x3.cap),(xr f.ptr f.len f.cap)]++a.2.2.toList) bN e λj g=>
 Br (!j)
 (R eR g)
 (i (qc xx (c+1)) g))
 (R eL e)) (0:Int) h)
theorem lF(b:Sl)(c:Sl)(a:cN)(d:@gZ R h b c a):ac xB 124 #[b,c,(.func (.func a.1) a.2.1 a.2.2)] h R:=aw af func124 (an.tn (an.tn (.two (an.tn (.inn (.loop [(17,ba)] [(6,10),(17,32)] .n))) .n))) d
noncomputable def pH(a:aO)(b:Sl):Prop:=
 aL (σ:=Int) (λk H c=>
 Br (k<(b.len:Int))
 (aR b k λE=>
 bi c (E.add (k.toNat*1)) λx3=>
 Br ((x3.len:Int) !=64)
 (R (xq xx 1) c)
 (H (qc xx (k+1)) c))
 (bm (σ:=Unit) (λ_ x=>
 ∃d,(a=dB d)/\
 kA x d λn=>
 ae xB 170 #[n] bN x λl y=>
 Br (!l)
 (ae xB 167 #[b] aI y λo D=>
 ∃j,(a=dB j)/\
 ag xB (qf 85 (j.add 4) o) D λ_ z=>
 ∃g,(a=dB g)/\
 ag xB (qf 4 (g.add 5) eL) z λ_ h8=>
 R (xq xx 14) h8)
 (ae xB 167 #[b] aI y λr A=>
 ∃e,(a=dB e)/\
 ag xB (qf 85 (e.add 2) r) A λ_ s=>
 ∃i,(a=dB i)/\
 ag xB (qf 3 (i.add 3) (xq xx 0)) s λ_ t=>
 ae xB 171 #[a] bx t λu q=>
 R u q))
 (λB=>
 bm (σ:=Bool) (λI f=>
 Br I
 (R (xq xx 5) f)
 (∃v,(a=dB v)/\
 aZ f (v.add 1) λG=>
 Br ((b.len:Int)>G)
 (R (xq xx 7) f)
 (∃a9,(a=dB a9)/\
 kA f a9 λm=>
 ae xB 121 #[m] bN f λp h3=>
 Br (!p)
 (R (xq xx 14) h3)
 (B () h3))))
 (λw=>
 Br (qS a) (w eL c) (∃a4,(a=dB a4)/\
 su c (a4.add 6) λF=>
 w F c))))) (0:Int) h
theorem Bo(a:aO)(b:Sl)(c:@pH R h a b):ac xB 125 #[a,b] h R:=aw af func125 (an.tn (.two (an.tn (.inn (.loop [(9,ba)] [(4,5),(6,7),(9,17)] .n))) (.two (.join [] [(4,5),(17,41)] (.inn (.two (.join [(17,kB)] [(17,26)] .n) .n))) .n))) c
noncomputable def pI(a:aO)(P:iO)(b:Int):Prop:=
 aS xB (qM 94 P) h λe x=>
 bm (σ:=aO) (λo j=>
 bm (σ:=Sl×Int) (λq E=>
 Br (q.2 !=0)
 (R (.tuple #[(xt eH),(xq xx 11)]) E)
 (bm (σ:=Unit) (λ_ l=>
 bm (σ:=Unit) (λ_ F=>
 R (.tuple #[o,(xq xx 0)]) F)
 (λK5=>
 ∃y,(a=dB y)/\
 kA l y λL=>
 aZ l (e.add 1) λM=>
 ae xB 18 #[L,M,b] aI l λK t=>
 (az.ok [] t)/\
 ∃s,(o=dB s)/\
 ag xB (qf 51 (s.add 4) K) t λ_ w=>
 (az.ok [] w)/\
 K5 () w))
 (λY=>
 bm (σ:=Int) (λH B=>
 Br (H !=0)
 (R (.tuple #[(xt eH),(xq xx 11)]) B)
 (Y () B))
 (λX=>
 ∃u,(a=dB u)/\
 ∃D:bR,aq E ((u.add 1).add 2) 0 D/\
 ∃p,(o=dB p)/\
 gg .u32 E (p.add 2) λG=>
 ae xB 108 #[D,(xq xz G),q.1] (.many [FR,ba]) E λm h8=>
 (az.ok [] h8)/\
 ∃A,(o=dB A)/\
 ag xB (qf 165 (A.add 3) m.1) h8 λ_ Q=>
 (az.ok [] Q)/\
 X m.2 Q))))
 (λW=>
 ∃d,(a=dB d)/\
 ∃c:bR,aq j ((d.add 1).add 2) 0 c/\
 ∃i,(o=dB i)/\
 gg .u32 j (i.add 2) λv=>
 ∃f,(a=dB f)/\
 kA j f λk=>
 ∃z,(a=dB z)/\
 bi j (z.add 9) λO=>
 ∃r,(a=dB r)/\
 ∃n:cQ,aq j (r.add 1) 0 n/\
 aZ j (e.add 1) λI=>
 ae xB 63 #[(.func (.func 35) #[k] #[]),O,n,I,b] aI j λJ U=>
 (az.ok [(f,k),(i.add 2,(xq xz v)),((d.add 1).add 2,c.1),(((d.add 1).add 2).add 1,c.2.1),(((d.add 1).add 2).add 2,c.2.2)] U)/\
 ae xB 93 #[c,(xq xz v),J] (.many [cA,ba]) U λg S=>
 (az.ok [(f,k)] S)/\
 W ((⟨g.1.ptr,g.1.len,g.1.cap⟩:Sl),g.2) S))
 (λK1=>
 aZ x (e.add 1) λx2=>
 aZ x (e.add 1) λx3=>
 bi x (e.add 3) λN=>
 aR N b λa5=>
 aZ x (a5.add (b.toNat*1)) λZ=>
 ae xB 62 #[x3,b,Z] (.one (.sc (.int .u32))) x λr7 T=>
 (az.ok [(e.add 3,N),(e.add 1,x2)] T)/\
 aS xB (qM 187 (xw #[x2,b,(xq xz r7),(xt eH),(xr eH 0 0),(xr eH 0 0)])) T λV h3=>
 (az.ok [(e.add 3,N),(e.add 1,x2)] h3)/\
 K1 (dB V) h3)
theorem Bp(c:aO)(b:iO)(a:Int)(d:@pI R h c b a):ac xB 126 #[c,b,a] h R:=aw af func126 (an.tn (.two (.join [(8,FR)] [(8,9),(11,25)] .n) (.two (.join [(9,cA),(10,ba)] [(9,11),(25,55)] .n) (an.tn (.two (.join [] [(6,8),(10,11),(57,76)] (.two (.join [(10,ba)] [(10,11),(57,74)] .n) .n)) (.two (.join [] [(76,87)] .n) .n)))))) d
noncomputable def pJ(b:aO)(c:aO):Prop:=
 aL (σ:=Unit) (λ_ r i=>
 ∃n,(b=dB n)/\
 ∃x3:bR,aq i ((n.add 1).add 2) 0 x3/\
 ∃a4,(c=dB a4)/\
 gg .u32 i (a4.add 2) λq=>
 ∃l,(c=dB l)/\
 bi i (l.add 4) λp=>
 ∃m,(b=dB m)/\
 aZ i (m.add 10) λo=>
 ae xB 23 #[x3,(xq xz q),p,o] (.many [cA,kB,ba]) i λa d=>
 (az.ok [] d)/\
 Br (a.2.2 !=0)
 (R a.2.2 d)
 (Br (!a.2.1)
 (R (xq xx 0) d)
 (∃f,(c=dB f)/\
 bi d (f.add 5) λk=>
 ∃g,(b=dB g)/\
 aZ d (g.add 11) λj=>
 Br ((k.len:Int)>=j)
 (R (xq xx 12) d)
 (ae xB 193 #[b,c,a.1] bx d λe h3=>
 Br (e !=0)
 (R e h3)
 (r () h3))))) () h
theorem Bq(a:aO)(b:aO)(c:@pJ R h a b):ac xB 127 #[a,b] h R:=aw af func127 (an.tn (.inn (.loop [] [(4,56)] .n))) c
noncomputable def oK(a:Sl):Prop:=
 Br (qS a.ptr)
 (R (xr eH 0 0) h)
 (aB xB (qq 22 0 #[]) aI h λc e=>
 aB xB (qt #[22,22] 22 #[c,a]) aI e λd b=>
 R d b)
theorem AH(a:Sl)(b:@oK R h a):ac xB 128 #[a] h R:=aw af func128 .n b
noncomputable def jz(a:Sl):Prop:=
 Br (qS a.ptr)
 (R (xr eH 0 0) h)
 (aB xB (qq 42 0 #[]) aI h λc e=>
 aB xB (qt #[42,42] 42 #[c,a]) aI e λd b=>
 R d b)
theorem nz(a:Sl)(b:@jz R h a):ac xB 129 #[a] h R:=aw af func129 .n b
noncomputable def DB(m:aO)(j:cQ):Prop:=
 aS xB (qM 44 j) h λz B=>
 ae xB 96 #[m] aI B λq w=>
 aL (σ:=Sl×Int) (λa A h3=>
 Br ((qc xx (a.2+1))>=(q.len:Int))
 (ae xB 196 #[a.1,(.func (.func 197) #[] #[])] il h3 λ_ x=>
 ae xB 198 #[a.1,(.func (.func 199) #[] #[])] aI x λy D=>
 R y D)
 (bm (σ:=Sl) (λb l=>
 A ((⟨b.ptr,b.len,b.cap⟩:Sl),qc xx (a.2+1)) l)
 (λi=>
 aR q (qc xx (a.2+1)) λs=>
 bi h3 (s.add ((qc xx (a.2+1)).toNat*1)) λu=>
 ae xB 194 #[u] (.many [(.agg [(.int .i64),(.int .i64),(.int .i64),(.int .i64),(.int .i64),(.int .i64),(.int .u32),.slc]),kB]) h3 λr v=>
 aS xB (qL 170 eL (.tuple #[])) v λa9 t=>
 ag xB (qf 170 a9 r.1) t λ_ h8=>
 Br r.2 (∃d:cQ,aq h8 z 0 d/\
 ∃e:fg,aq h8 a9 0 e/\
 ae xB 195 #[d,e] bN h8 λk g=>
 Br k
 (∃f:fg,aq g a9 0 f/\
 aB xB (qq 189 1 #[(0,f)]) aI g λn o=>
 aB xB (qt #[189,189] 189 #[a.1,n]) aI o λc p=>
 i (⟨c.ptr,c.len,c.cap⟩:Sl) p)
 (i (⟨a.1.ptr,a.1.len,a.1.cap⟩:Sl) g)) (i (⟨a.1.ptr,a.1.len,a.1.cap⟩:Sl) h8)))) ((⟨eH,0,0⟩:Sl),(-1:Int)) w
theorem Lx(a:aO)(b:cQ)(c:@DB R h a b):ac xB 130 #[a,b] h R:=aw af func130 (an.tn (.scope 0 [(6,cA),(7,ba)] [(4,5),(6,10),(12,40)] [.n,.n,.n] [(an.tn (an.tn (.two (.join [(6,cA)] [(6,7),(8,10),(18,36)] .n) .n)))] [(1,[.n])])) c
noncomputable def HU(c:aO)(a:Sl):Prop:=
 ae xB 200 #[a] bN h λl e=>
 Br (!l)
 (R (xr eH 0 0) e)
 (ae xB 201 #[a] aI e λb g=>
 ae xB 203 #[c] iP g λj h3=>
 ae xB 204 #[b] bx h3 λi k=>
 ae xB 202 #[j,b,i] bx k λd f=>
 (0<=d/\d<=(b.cap:Int))/\
 R (xr b.ptr d.toNat b.cap) f)
theorem Ps(b:aO)(a:Sl)(c:@HU R h b a):ac xB 131 #[b,a] h R:=aw af func131 .n c
noncomputable def Kv:Prop:=
 aS xB (qL 192 eL (.tuple #[])) h λc k=>
 aL (σ:=Int×Int) (λb j d=>
 Br (b.2<255)
 ((0<=b.2/\b.2<((255:Nat):Int))/\
 ag xB (qf 5 (c.add (b.2.toNat*1)) (xq xy b.1)) d λ_ h3=>
 ae xB 205 #[(xq xy b.1),(xq xy 3)] (.one (.sc (.int .u8))) h3 λg i=>
 j (g,qc xx (b.2+1)) i)
 (∃e:List (Int),(e.length=255/\aq d c 0 (e.map (Sc.enc (.int .u8))))/\
 ag xB (qf 192 c (xw (e.map (Sc.enc (.int .u8))).toArray)) d λ_ f=>
 ∃a:List (Int),(a.length=255/\aq f c 0 (a.map (Sc.enc (.int .u8))))/\
 R (xw (a.map (Sc.enc (.int .u8))).toArray) f)) ((1:Int),(0:Int)) k
theorem RP(a:@Kv R h):ac xB 132 #[] h R:=aw af func132 (an.tn (an.tn (.two (an.tn (.inn (.loop [(1,(.sc (.int .u8))),(3,ba)] [(1,12)] .n))) .n))) a
noncomputable def QE(f:List (Int)):Prop:=
 aS xB (qM 192 (xw (f.map (Sc.enc (.int .u8))).toArray)) h λj m=>
 aS xB (qL 194 eL (.tuple #[])) m λd i=>
 ∃x3:List (Int),(x3.length=255/\aq i j 0 (x3.map (Sc.enc (.int .u8))))/\
 aL (σ:=Int) (λb l h3=>
 Br (b<255)
 (∃c:Int,(0<=b/\b<((255:Nat):Int)/\((x3.map (Sc.enc (.int .u8))).toArray:Array eS)[b.toNat]?=dB (xq xy c))/\
 (0<=c/\c<((256:Nat):Int))/\
 ag xB (qf 3 (d.add (c.toNat*1)) b) h3 λ_ k=>
 l (qc xx (b+1)) k)
 (∃e:List (Int),(e.length=256/\aq h3 d 0 (e.map (Sc.enc (.int .i64))))/\
 ag xB (qf 194 d (xw (e.map (Sc.enc (.int .i64))).toArray)) h3 λ_ g=>
 ∃a:List (Int),(a.length=256/\aq g d 0 (a.map (Sc.enc (.int .i64))))/\
 R (xw (a.map (Sc.enc (.int .i64))).toArray) g)) (0:Int) i
theorem Wo(a:List (Int))(b:@QE R h a):ac xB 133 #[(xw (a.map (Sc.enc (.int .u8))).toArray)] h R:=aw af func133 (an.tn (.two (an.tn (.inn (.loop [(6,ba)] [(3,5),(6,14)] .n))) .n)) b
noncomputable def Uf(j:bR)(c:Int)(a:Int):Prop:=
 aS xB (qM 24 j) h λk p=>
 bm (σ:=Unit) (λ_ h3=>
 ∃m:bR,aq h3 k 0 m/\
 ae xB 21 #[m] bx h3 λl u=>
 aB xB (qF 34 l l) aI u λo q=>
 ∃n:bR,aq q k 0 n/\
 ae xB 161 #[n,(xq xz c),a] aI q λr t=>
 aL (σ:=Int) (λb s f=>
 Br (b<(r.len:Int))
 (aR r b λg=>
 aZ f (g.add (b.toNat*1)) λd=>
 aR o d λi=>
 ag xB (qf 5 (i.add (d.toNat*1)) (xq xy 1)) f λ_ h8=>
 s (qc xx (b+1)) h8)
 (R o f)) (0:Int) t)
 (λw=>
 ∃x2:bR,aq p k 0 x2/\
 ae xB 40 #[x2] bN p λv e=>
 Br (!v) (R (xr eH 0 0) e) (Br (a<0) (R (xr eH 0 0) e) (Br (a>65535)
 (R (xr eH 0 0) e)
 (w () e))))
theorem Zm(c:bR)(a:Int)(b:Int)(d:@Uf R h c a b):ac xB 134 #[c,(xq xz a),b] h R:=aw af func134 (an.tn (.two (.join [] [(6,7),(10,21)] .n) (an.tn (.two (an.tn (.inn (.loop [(29,ba)] [(9,10),(29,37)] .n))) .n)))) d
noncomputable def Kw(a:Sl)(f:Int):Prop:=
 aL (σ:=Int) (λb o d=>
 Br (b>=0)
 (aR a b λl=>
 aZ d (l.add (b.toNat*1)) λx3=>
 Br (decide (x3<(qc xx ((qc xx (f-(a.len:Int)))+b))))
 (aR a b λa4=>
 aZ d (a4.add (b.toNat*1)) λn=>
 aR a b λg=>
 ag xB (qf 3 (g.add (b.toNat*1)) (qc xx (n+1))) d λ_ k=>
 aL (σ:=Int) (λc j h3=>
 Br (c<(a.len:Int))
 (aR a (qc xx (c-1)) λi=>
 aZ h3 (i.add ((qc xx (c-1)).toNat*1)) λp=>
 aR a c λe=>
 ag xB (qf 3 (e.add (c.toNat*1)) (qc xx (p+1))) h3 λ_ m=>
 j (qc xx (c+1)) m)
 (R eL h3)) (qc xx (b+1)) k)
 (o (qc xx (b-1)) d))
 (R eR d)) (qc xx ((a.len:Int)-1)) h
theorem RQ(b:Sl)(a:Int)(c:@Kw R h b a):ac xB 135 #[b,a] h R:=aw af func135 (an.tn (.two (an.tn (.inn (.loop [(5,ba)] [(4,7),(10,48)] (an.tn (.two (.inn (an.tn (.two (an.tn (.two (an.tn (.inn (.loop [(6,ba)] [(6,7),(33,48)] .n))) .n)) .n))) .n))))) .n)) c
noncomputable def Nj(b:Int)(a:Int):Prop:=
 bm (σ:=Unit) (λ_ f=>
 aB xB (qF 34 b b) aI f λc d=>
 aR c a λa3=>
 ag xB (qf 5 (a3.add (a.toNat*1)) (xq xy 1)) d λ_ h3=>
 R c h3)
 (λe=>
 Br (b<1) (R (xr eH 0 0) h) (Br (b>64) (R (xr eH 0 0) h) (Br (a<0) (R (xr eH 0 0) h) (Br (a>=b)
 (R (xr eH 0 0) h)
 (e () h)))))
theorem Ug(b:Int)(a:Int)(c:@Nj R h b a):ac xB 136 #[b,a] h R:=aw af func136 (an.tn (.two (.join [] [(4,5),(6,21)] .n) .n)) c
noncomputable def DC(b:aO)(a:Int):Prop:=
 ((255:Int)≠0)/\
 bm (σ:=Int) (λc i=>
 ae xB 206 #[b] iP i λg d=>
 ∃a3,(g=dB a3)/\
 (0<=c/\c<((255:Nat):Int))/\
 gg .u8 d (a3.add (c.toNat*1)) λf=>
 R (xq xy f) d)
 (λe=>
 Br ((wi a 255)<0)
 (e (qc xx ((wi a 255)+255)) h)
 (e (wi a 255) h))
theorem Ly(b:aO)(a:Int)(c:@DC R h b a):ac xB 137 #[b,a] h R:=aw af func137 (an.tn (an.tn (.two (.join [(1,ba)] [(1,2),(7,11)] .n) .n))) c
noncomputable def AI(b:aO)(f:Sl):Prop:=
 bm (σ:=Unit) (λ_ s=>
 ae xB 146 #[f] aI s λl n=>
 ∃a5,(b=dB a5)/\
 bi n (a5.add 2) λp=>
 aL (σ:=Sl×Int) (λa m h3=>
 Br (a.2<(p.len:Int))
 (aR p a.2 λr=>
 bi h3 (r.add (a.2.toNat*1)) λq=>
 ae xB 139 #[q] bx h3 λd i=>
 aR a.1 d λj=>
 gg .u8 i (j.add (d.toNat*1)) λg=>
 Br (g !=0)
 (∃e,(b=dB e)/\
 kA i e λk=>
 ae xB 207 #[k,(xq xy g),q,a.1] (.many [cA,kB]) i λc u=>
 m ((⟨c.1.ptr,c.1.len,c.1.cap⟩:Sl),qc xx (a.2+1)) u)
 (m ((⟨a.1.ptr,a.1.len,a.1.cap⟩:Sl),qc xx (a.2+1)) i))
 (R (.tuple #[a.1,eL]) h3)) ((⟨l.ptr,l.len,l.cap⟩:Sl),(0:Int)) n)
 (λt=>
 Br (qS b) (R (.tuple #[(xr eH 0 0),eR]) h) (∃o,(b=dB o)/\
 aZ h (o.add 1) λx2=>
 Br ((f.len:Int) !=x2)
 (R (.tuple #[(xr eH 0 0),eR]) h)
 (t () h)))
theorem HV(a:aO)(b:Sl)(c:@AI R h a b):ac xB 138 #[a,b] h R:=aw af func138 (an.tn (.two (.join [] [(4,6),(10,21)] .n) (an.tn (.two (an.tn (.inn (.loop [(6,cA),(28,ba)] [(6,7),(8,10),(28,51)] .n))) .n)))) c
end Go.Qw
namespace Go.Qw
open Go Go.Vc Go.Proofs
variable {R:KZ} {h:Heap}
noncomputable def Nk(a:Sl):Prop:=
 ae xB 208 #[a,(.func (.func 209) #[] #[])] bx h λc b=>
 R c b
theorem Uh(a:Sl)(b:@Nk R h a):ac xB 139 #[a] h R:=aw af func139 .n b
noncomputable def uY(a:aO):Prop:=
 Br (qS a)
 (R (xt eH) h)
 (∃b,(a=dB b)/\
 kA h b λx2=>
 ∃a3,(a=dB a3)/\
 aZ h (a3.add 1) λc=>
 ae xB 210 #[a] aI h λg e=>
 (az.ok [(a3.add 1,c),(b,x2)] e)/\
 aS xB (qM 200 (xw #[x2,c,g])) e λf d=>
 (az.ok [(a3.add 1,c),(b,x2)] d)/\
 R f d)
theorem GD(a:aO)(b:@uY R h a):ac xB 140 #[a] h R:=aw af func140 .n b
noncomputable def AJ(a:aO):Prop:=
 Br (qS a)
 (R (xq xx 0) h)
 (∃b,(a=dB b)/\
 bi h (b.add 2) λx2=>
 R (xq xx (x2.len:Int)) h)
theorem HW(a:aO)(b:@AJ R h a):ac xB 141 #[a] h R:=aw af func141 .n b
noncomputable def pK(U:bR)(K:Int)(a:Int)(c:Int):Prop:=
 aS xB (qM 24 U) h λr h1=>
 aS xB (qL 135 eL (.tuple #[])) h1 λb h2=>
 ae xB 12 #[K,(xq xx 26)] bx h2 λi h3=>
 Br (i<8)
 (((5:Int)≠0)/\
 aZ h3 r λE=>
 aZ h3 (r.add 2) λD=>
 ae xB 211 #[a] (.one XW) h3 λr6 h4=>
 (az.ok [(r.add 2,D),(r,E)] h4)/\
 ae xB 12 #[(qc xx (wy a 5)),(qc xx ((qc xx ((qc xx (3*E))*D))+2))] bx h4 λr7 h5=>
 (az.ok [(r.add 2,D),(r,E)] h5)/\
 ae xB 11 #[r7,c] aI h5 λr8 h6=>
 (az.ok [(r.add 2,D),(r,E)] h6)/\
 ag xB (qf 135 b (xw #[(xq xx 1),r6,r8,(xq xx 0),(xq xx 0),(xq xx 0),(xq xz 0),(xr eH 0 0),(xr eH 0 0)])) h6 λ_ F=>
 (az.ok [] F)/\
 ∃q:Dn,aq F b 0 q/\
 R q F)
 (Br (i<11)
 (ae xB 211 #[a] (.one XW) h3 λH h8=>
 ag xB (qf 135 b (xw #[(xq xx 2),H,(xr eH 0 0),(xq xx 0),(xq xx 0),(xq xx 0),(xq xz 0),(xr eH 0 0),(xr eH 0 0)])) h8 λ_ h9=>
 ∃p:Dn,aq h9 b 0 p/\
 R p h9)
 (Br (i<13)
 (ae xB 211 #[a] (.one XW) h3 λN ay=>
 ag xB (qf 135 b (xw #[(xq xx 3),N,(xr eH 0 0),(xq xx 0),(xq xx 0),(xq xx 0),(xq xz 0),(xr eH 0 0),(xr eH 0 0)])) ay λ_ A=>
 ∃n:Dn,aq A b 0 n/\
 R n A)
 (Br (i==13)
 (ag xB (qf 135 b (xw #[(xq xx 4),rz,(xr eH 0 0),(xq xx 0),(xq xx 0),(xq xx 0),(xq xz 0),(xr eH 0 0),(xr eH 0 0)])) h3 λ_ z=>
 ∃e:Dn,aq z b 0 e/\
 R e z)
 (Br (i==14)
 (ae xB 211 #[a] (.one XW) h3 λI ah=>
 ag xB (qf 135 b (xw #[(xq xx 5),I,(xr eH 0 0),(xq xx 0),(xq xx 0),(xq xx 0),(xq xz 0),(xr eH 0 0),(xr eH 0 0)])) ah λ_ s=>
 ∃d:Dn,aq s b 0 d/\
 R d s)
 (Br (i==15)
 (ae xB 12 #[a,(xq xx 9)] bx h3 λao M=>
 ae xB 12 #[c,(xq xx 60)] bx M λX ap=>
 ag xB (qf 135 b (xw #[(xq xx 6),rz,(xr eH 0 0),ao,(qc xx (6+X)),(xq xx 0),(xq xz 0),(xr eH 0 0),(xr eH 0 0)])) ap λ_ x=>
 ∃j:Dn,aq x b 0 j/\
 R j x)
 (Br (i==16)
 (ae xB 12 #[a,(xq xx 8)] bx h3 λQ V=>
 ag xB (qf 135 b (xw #[(xq xx 7),rz,(xr eH 0 0),Q,(xq xx 0),(xq xx 0),(xq xz 0),(xr eH 0 0),(xr eH 0 0)])) V λ_ u=>
 ∃o:Dn,aq u b 0 o/\
 R o u)
 (Br (i==17)
 (ae xB 12 #[a,(xq xx 8)] bx h3 λa0 ar=>
 ae xB 12 #[c,(xq xx 60)] bx ar λZ a6=>
 ag xB (qf 135 b (xw #[(xq xx 8),rz,(xr eH 0 0),a0,(qc xx (6+Z)),(xq xx 0),(xq xz 0),(xr eH 0 0),(xr eH 0 0)])) a6 λ_ v=>
 ∃g:Dn,aq v b 0 g/\
 R g v)
 (Br (i==18)
 (ae xB 12 #[a,(xq xx 8)] bx h3 λP ad=>
 ag xB (qf 135 b (xw #[(xq xx 9),rz,(xr eH 0 0),P,(xq xx 0),(xq xx 0),(xq xz 0),(xr eH 0 0),(xr eH 0 0)])) ad λ_ w=>
 ∃f:Dn,aq w b 0 f/\
 R f w)
 (Br (i<22)
 (ae xB 12 #[a,(xq xx 3)] bx h3 λY T=>
 ae xB 12 #[c,(xq xx 20)] bx T λG a4=>
 ag xB (qf 135 b (xw #[(xq xx 10),rz,(xr eH 0 0),(xq xx 0),Y,G,(xq xz 0),(xr eH 0 0),(xr eH 0 0)])) a4 λ_ t=>
 ∃l:Dn,aq t b 0 l/\
 R l t)
 (Br (i==22)
 (ae xB 12 #[a,(xq xx 9)] bx h3 λa3 a5=>
 ae xB 12 #[c,(xq xx 70)] bx a5 λam ax=>
 ag xB (qf 135 b (xw #[(xq xx 10),rz,(xr eH 0 0),(xq xx 0),(qc xx (a3-1)),(qc xx (am-1)),(xq xz 0),(xr eH 0 0),(xr eH 0 0)])) ax λ_ y=>
 ∃m:Dn,aq y b 0 m/\
 R m y)
 (ae xB 12 #[a,(xq xx 7)] bx h3 λL J=>
 ((7:Int)≠0)/\
 ae xB 12 #[(qc xx (wy a 7)),(xq xx 40)] bx J λO ab=>
 ae xB 12 #[c,(xq xx 61)] bx ab λW S=>
 ag xB (qf 135 b (xw #[(xq xx 11),rz,(xr eH 0 0),L,O,W,(xq xz (qc xz ((qc xz ((qc xz c)*2654435761))+(qc xz a)))),(xr eH 0 0),(xr eH 0 0)])) S λ_ B=>
 ∃k:Dn,aq B b 0 k/\
 R k B)))))))))))
theorem Bt(a:bR)(d:Int)(b:Int)(c:Int)(e:@pK R h a d b c):ac xB 143 #[a,d,b,c] h R:=aw af func143 .n e
noncomputable def jr(a:Sl)(d:Int)(b:Int):Prop:=
 aB xB (Instr.sliceAt 42 a (dB d) (dB b) (dB (xq xx (a.len:Int)))) aI h λ_ f=>
 Br (d==b)
 (R a f)
 ((0<=d/\d<=(a.cap:Int))/\
 (0<=b/\b<=(a.len:Int))/\
 aB xB (qt #[42,42] 42 #[(xr a.ptr d.toNat a.cap),(.slice (if a.cap=b.toNat then a.ptr else a.ptr.map (·.add (b.toNat*4))) (a.len-b.toNat) (a.cap-b.toNat))]) aI f λc e=>
 (az.ok [] e)/\
 (0<=(c.len:Int)/\(c.len:Int)<=(a.len:Int)/\(a.len:Int)<=(c.cap:Int))/\
 ag xB (yK #[42] 0 #[(.slice (if c.cap=(c.len:Int).toNat then c.ptr else c.ptr.map (·.add ((c.len:Int).toNat*4))) ((a.len:Int).toNat-(c.len:Int).toNat) (c.cap-(c.len:Int).toNat))]) e λ_ h3=>
 R c h3)
theorem nf(b:Sl)(c:Int)(a:Int)(d:@jr R h b c a):ac xB 144 #[b,c,a] h R:=aw af func144 .n d
noncomputable def rI(a:aO)(j:cQ):Prop:=
 aS xB (qM 44 j) h λg A=>
 ae xB 55 #[a] bN A λz l=>
 Br z
 (R (xq xx 14) l)
 (bm (σ:=Unit) (λ_ s=>
 bi s (g.add 6) λE=>
 ae xB 80 #[(.func (.func 35) #[a] #[]),E] aI s λb t=>
 ∃e:cQ,aq t g 0 e/\
 ae xB 42 #[e] aI t λk x=>
 aS xB (qL 3 eL (.tuple #[])) x λc u=>
 ag xB (qf 3 c (xq xx (k.len:Int))) u λ_ h8=>
 bm (σ:=Unit) (λ_ p=>
 ae xB 53 #[a,b,(.func (.func 212) #[] #[c])] bx p λf d=>
 Br (f !=0)
 (R f d)
 (∃i:cQ,aq d g 0 i/\
 ae xB 54 #[a,i,b] bx d λo n=>
 R o n))
 (λv=>
 Br ((b.len:Int)==0) (R (xq xx 7) h8) (ae xB 52 #[a,b,(.func (.func 212) #[] #[c])] bN h8 λm r=>
 Br (!m)
 (R (xq xx 7) r)
 (v () r))))
 (λB=>
 ∃x3:cQ,aq l g 0 x3/\
 ae xB 95 #[x3] bN l λD h3=>
 (az.ok [] h3)/\
 Br (!D) (R (xq xx 1) h3) (aZ h3 g λy=>
 ∃q,(a=dB q)/\
 aZ h3 q λw=>
 Br (y !=(qc xx (w+1)))
 (R (xq xx 1) h3)
 (B () h3))))
theorem CM(a:aO)(b:cQ)(c:@rI R h a b):ac xB 145 #[a,b] h R:=aw af func145 (an.tn (an.tn (.two (.join [] [(4,5),(11,25)] .n) (an.tn (an.tn (an.tn (.two (.join [] [(4,5),(34,44)] .n) .n))))))) c
noncomputable def Gg(a:Sl):Prop:=
 Br (qS a.ptr)
 (R (xr eH 0 0) h)
 (aB xB (qq 34 0 #[]) aI h λc e=>
 aB xB (qt #[34,34] 34 #[c,a]) aI e λd b=>
 R d b)
theorem Nl(a:Sl)(b:@Gg R h a):ac xB 146 #[a] h R:=aw af func146 .n b
noncomputable def Nm(a:Int)(b:Sl):Prop:=
 bm (σ:=Unit) (λ_ o=>
 aB xB (qF 34 (xq xx 64) (xq xx 64)) aI o λc l=>
 aB xB (qq 34 4 #[(0,(xq xy 87)),(1,(xq xy 115)),(2,(xq xy 1)),(3,(xq xy (qc xy a)))]) aI l λv3 h3=>
 aB xB (yp #[34,34] 3 #[c,v3]) bx h3 λ_ m=>
 (0<=(4:Int)/\(4:Int)<=(c.len:Int))/\
 aB xB (yp #[34,34] 3 #[(.slice (if c.cap=(4:Int).toNat then c.ptr else c.ptr.map (·.add ((4:Int).toNat*1))) (c.len-(4:Int).toNat) (c.cap-(4:Int).toNat)),b]) bx m λ_ p=>
 (0<=(59:Int)/\(59:Int)<=(c.cap:Int))/\
 ae xB 213 #[(xr c.ptr ((59:Int).toNat) c.cap)] (.one (.sc (.int .u32))) p λj k=>
 aL (σ:=Int) (λd i e=>
 Br (d<4)
 ((0<=(qc xx (8*d)))/\
 aR c (qc xx (59+d)) λf=>
 ag xB (qf 5 (f.add ((qc xx (59+d)).toNat*1)) (xq xy (qc xy (qX j (2^min (qc xx (8*d)).toNat (qk xz)))))) e λ_ h8=>
 i (qc xx (d+1)) h8)
 (aR c (63:Int) λa9=>
 ag xB (qf 5 (a9.add ((63:Int).toNat*1)) (xq xy 165)) e λ_ g=>
 R c g)) (0:Int) k)
 (λn=>
 Br (a<1) (R (xr eH 0 0) h) (Br (a>255) (R (xr eH 0 0) h) (Br ((b.len:Int)>55)
 (R (xr eH 0 0) h)
 (n () h))))
theorem Ui(b:Int)(a:Sl)(c:@Nm R h b a):ac xB 147 #[b,a] h R:=aw af func147 (an.tn (.two (.join [] [(4,5),(8,19)] .n) (an.tn (an.tn (an.tn (an.tn (.two (an.tn (.inn (.loop [(32,ba)] [(7,8),(32,45)] .n))) .n))))))) c
noncomputable def un(a:aO):Prop:=
 Br (!(qS a)) (∃b,(a=dB b)/\
 su h (b.add 6) λx2=>
 R x2 h) (R eR h)
theorem EU(a:aO)(b:@un R h a):ac xB 149 #[a] h R:=aw af func149 .n b
noncomputable def lx(a:Sl)(d:Int):Prop:=
 aL (σ:=Int) (λb e c=>
 Br (b<(a.len:Int))
 (aR a b λf=>
 aZ c (f.add (b.toNat*1)) λx3=>
 Br (d==x3)
 (R b c)
 (e (qc xx (b+1)) c))
 (R (xq xx (-1:Int)) c)) (0:Int) h
theorem nA(a:Sl)(b:Int)(c:@lx R h a b):ac xB 150 #[a,b] h R:=aw af func150 (an.tn (.two (an.tn (.inn (.loop [(8,ba)] [(4,6),(8,19)] .n))) .n)) c
noncomputable def fG(b:Sl)(a:cN):Prop:=
 aL (σ:=Int) (λc g d=>
 Br (c<(b.len:Int))
 (aR b c λi=>
 ∃x3:iO,aq d (i.add (c.toNat*4)) 0 x3/\
 iC C a.1 (a.2.1.toList++[(xw #[x3.1,x3.2.1,x3.2.2.1,x3.2.2.2])]++a.2.2.toList) bN d λf e=>
 Br f
 (R c e)
 (g (qc xx (c+1)) e))
 (R (xq xx (-1:Int)) d)) (0:Int) h
theorem im(b:Sl)(a:cN)(c:@fG R h b a):ac xB 152 #[b,(.func (.func a.1) a.2.1 a.2.2)] h R:=aw af func152 (an.tn (.two (an.tn (.inn (.loop [(8,ba)] [(4,6),(8,19)] .n))) .n)) c
noncomputable def rJ(b:iO)(a:eX):Prop:=
 aS xB (qM 94 b) h λd c=>
 FQ c d λx2=>
 FQ c a λx3=>
 R (xv (x2.toList==x3.toList)) c
theorem CN(b:iO)(a:eX)(c:@rJ R h b a):ac xB 153 #[b,a] h R:=aw af func153 .n c
noncomputable def gI(b:Sl)(a:cN):Prop:=
 ae xB 215 #[b,(.func (.func a.1) a.2.1 a.2.2)] bx h λd c=>
 R (decide (d>=0)) c
theorem kR(b:Sl)(a:cN)(c:@gI R h b a):ac xB 155 #[b,(.func (.func a.1) a.2.1 a.2.2)] h R:=aw af func155 .n c
noncomputable def AK(b:Int×Sl)(a:eX):Prop:=
 aS xB (qM 117 b) h λd c=>
 ∃x2:bR,aq c a 0 x2/\
 ∃x3:Int×Sl,aq c d 0 x3/\
 ae xB 157 #[x2,x3] bN c λf e=>
 R (xv (!f)) e
theorem HX(b:Int×Sl)(a:eX)(c:@AK R h b a):ac xB 156 #[b,a] h R:=aw af func156 .n c
noncomputable def DD(c:bR)(d:Int×Sl):Prop:=
 aS xB (qM 24 c) h λf j=>
 aS xB (qM 117 d) j λb a=>
 aZ a b λx3=>
 Br (x3>=0) (aZ a b λi=>
 Br (i<=65535) (bi a (b.add 1) λe=>
 aZ a (f.add 2) λg=>
 R (xv ((e.len:Int)==g)) a) (R eR a)) (R eR a)
theorem Lz(b:bR)(a:Int×Sl)(c:@DD R h b a):ac xB 157 #[b,a] h R:=aw af func157 .n c
noncomputable def Gh(f:bR)(a:Int)(b:Sl):Prop:=
 aS xB (qM 24 f) h λd i=>
 ∃x2:bR,aq i d 0 x2/\
 ae xB 40 #[x2] bN i λl c=>
 (az.ok [] c)/\
 Br l (∃g:bR,aq c d 0 g/\
 ∃e:bR,aq c d 0 e/\
 ae xB 20 #[g,(xq xz a),b] bx c λm h3=>
 (az.ok [(d,e.1),(d.add 1,e.2.1),(d.add 2,e.2.2)] h3)/\
 ae xB 21 #[e] bx h3 λk j=>
 (az.ok [] j)/\
 R (xv (m==k)) j) ((az.ok [] c)/\
 (az.ok [] c)/\
 R eR c)
theorem Nn(c:bR)(a:Int)(b:Sl)(d:@Gh R h c a b):ac xB 158 #[c,(xq xz a),b] h R:=aw af func158 .n d
noncomputable def HY(b:Sl):Prop:=
 aL (σ:=Sl×Int) (λa j d=>
 Br (a.2<(b.len:Int))
 (aR b a.2 λl=>
 ∃x3:Int×Sl,aq d (l.add (a.2.toNat*2)) 0 x3/\
 aS xB (qL 117 eL (.tuple #[])) d λa4 g=>
 ag xB (qf 117 a4 x3) g λ_ h3=>
 aZ h3 a4 λe=>
 aB xB (qq 22 1 #[(0,e)]) aI h3 λk i=>
 aB xB (qt #[22,22] 22 #[a.1,k]) aI i λc f=>
 j ((⟨c.ptr,c.len,c.cap⟩:Sl),qc xx (a.2+1)) f)
 (R a.1 d)) ((⟨eH,0,0⟩:Sl),(0:Int)) h
theorem Pt(a:Sl)(b:@HY R h a):ac xB 159 #[a] h R:=aw af func159 (an.tn (an.tn (.two (an.tn (.inn (.loop [(3,cA),(8,ba)] [(3,4),(5,6),(8,18)] .n))) .n))) b
noncomputable def HZ(K:bR)(c:Int)(x:Sl):Prop:=
 aS xB (qM 24 K) h λe h1=>
 aL (σ:=Sl×Int) (λl K1 A=>
 Br (l.2<(x.len:Int))
 (aR x l.2 λa3=>
 ∃x4:Int×Sl,aq A (a3.add (l.2.toNat*2)) 0 x4/\
 aS xB (qL 117 eL (.tuple #[])) A λa5 h3=>
 ag xB (qf 117 a5 x4) h3 λ_ B=>
 ∃Z:bR,aq B e 0 Z/\
 aZ B a5 λx7=>
 bi B (a5.add 1) λD=>
 ae xB 161 #[Z,(xq xz c),x7] aI B λr9 h5=>
 (az.ok [(a5.add 1,D)] h5)/\
 aB xB (qq 273 1 #[(0,(xw #[r9,D]))]) aI h5 λO Y=>
 (az.ok [(a5.add 1,D)] Y)/\
 aB xB (qt #[273,273] 273 #[l.1,O]) aI Y λk W=>
 (az.ok [(a5.add 1,D)] W)/\
 K1 ((⟨k.ptr,k.len,k.cap⟩:Sl),qc xx (l.2+1)) W)
 (bm (σ:=aO) (λa v=>
 ∃y:bR,aq v e 0 y/\
 ae xB 21 #[y] bx v λS U=>
 ae xB 216 #[S,l.1] (.many [cA,cA,cA,ba]) U λf q=>
 Br (f.2.2.2 !=0)
 (R (.tuple #[(xr eH 0 0),(xq xx 10)]) q)
 (∃s,(a=dB s)/\
 ag xB (qf 85 (s.add 4) f.2.1) q λ_ P=>
 ∃o,(a=dB o)/\
 ag xB (qf 273 (o.add 5) f.2.2.1) P λ_ E=>
 ae xB 217 #[a,f.1] il E λ_ G=>
 ae xB 218 #[a] il G λ_ T=>
 ae xB 219 #[a] il T λ_ J=>
 ae xB 220 #[a] (.many [cA,cA]) J λi d=>
 ∃a25,(a=dB a25)/\
 bi d ((a25.add 6).add 1) λF=>
 Br ((F.len:Int)==0)
 (aL (σ:=Int) (λg K3 j=>
 Br (g<(i.2.len:Int))
 (aR i.2 g λa28=>
 bi j (a28.add (g.toNat*1)) λL=>
 ae xB 221 #[L,abG] aI j λV u=>
 Br ((V.len:Int)>0)
 (R (.tuple #[(xr eH 0 0),(xq xx 10)]) u)
 (K3 (qc xx (g+1)) u))
 (ae xB 222 #[a,(xr eH 0 0)] il j λ_ z=>
 ∃t,(a=dB t)/\
 bi z (t.add 4) λN=>
 R (.tuple #[N,(xq xx 0)]) z)) (0:Int) d)
 (∃p,(a=dB p)/\
 kA d p λH=>
 ae xB 175 #[H,i.1,i.2] (.many [cA,ba]) d λw n=>
 Br (w.2 !=0)
 (R (.tuple #[(xr eH 0 0),(xq xx 10)]) n)
 (ae xB 222 #[a,w.1] il n λ_ r=>
 ∃m,(a=dB m)/\
 bi r (m.add 4) λI=>
 R (.tuple #[I,(xq xx 0)]) r))))
 (λK2=>
 ∃b:bR,aq A e 0 b/\
 ae xB 65 #[] iP A λM h8=>
 (az.ok [(e,b.1),(e.add 1,b.2.1),(e.add 2,b.2.2)] h8)/\
 aS xB (qM 281 (xw #[M,b.1,b.2.1,b.2.2,(xr eH 0 0),(xr eH 0 0),(xr eH 0 0),(xr eH 0 0),(xr eH 0 0),(xr eH 0 0),(xr eH 0 0)])) h8 λQ X=>
 (az.ok [(e,b.1),(e.add 1,b.2.1),(e.add 2,b.2.2)] X)/\
 K2 (dB Q) X))) ((⟨eH,0,0⟩:Sl),(0:Int)) h1
theorem Pu(b:bR)(a:Int)(c:Sl)(d:@HZ R h b a c):ac xB 160 #[b,(xq xz a),c] h R:=aw af func160 (an.tn (.fwd (an.tn (.two (an.tn (.inn (.loop [(8,cA),(23,ba)] [(8,9),(10,11),(23,39)] .n))) (.two (.join [(11,FR)] [(11,12),(39,43)] .n) .n))) [(0,[.n]),(1,[(.two (an.tn (.inn (.loop [(95,ba)] [(20,21),(95,104)] .n))) .n)]),(2,[.n])])) d
noncomputable def QF(f:bR)(b:Int)(a:Int):Prop:=
 aS xB (qM 24 f) h λk l=>
 bm (σ:=Unit) (λ_ h3=>
 ∃j:bR,aq h3 k 0 j/\
 ae xB 21 #[j] bx h3 λi p=>
 ae xB 223 #[(xq xz (qc xz ((qD (qk xz) b^^^(qD (qk xz) (qc xz ((qc xz a)*2654435761)))).toNat:Nat)))] iP p λg s=>
 ae xB 224 #[g] (.one (.sc (.int .u32))) s λ_ o=>
 ae xB 226 #[i] aI o λt m=>
 ae xB 225 #[t,g] bx m λd h8=>
 ae xB 227 #[g,i,d] aI h8 λe n=>
 R e n)
 (λr=>
 ∃x2:bR,aq l k 0 x2/\
 ae xB 40 #[x2] bN l λq c=>
 Br (!q) (R (xr eH 0 0) c) (Br (a<0) (R (xr eH 0 0) c) (Br (a>65535)
 (R (xr eH 0 0) c)
 (r () c))))
theorem Wp(c:bR)(a:Int)(b:Int)(d:@QF R h c a b):ac xB 161 #[c,(xq xz a),b] h R:=aw af func161 (an.tn (.two (.join [] [(6,7),(10,21)] .n) .n)) d
noncomputable def Gi(c:Int)(a:Int)(b:Int):Prop:=
 Br (c>=a) (R (decide (c<=b)) h) (R eR h)
theorem No(c:Int)(a:Int)(b:Int)(d:@Gi R h c a b):ac xB 162 #[c,a,b] h R:=aw af func162 .n d
noncomputable def Kx(c:Sl)(a:Int):Prop:=
 aL (σ:=Int) (λb f e=>
 Br (b<(c.len:Int))
 (aR c b λj=>
 aZ e (j.add (b.toNat*1)) λx3=>
 ae xB 162 #[x3,(xq xx 0),a] bN e λi d=>
 Br (!i) (R eR d) (Br (b>0) (aR c (qc xx (b-1)) λa5=>
 aZ d (a5.add ((qc xx (b-1)).toNat*1)) λg=>
 Br (g>=x3)
 (R eR d)
 (f (qc xx (b+1)) d)) (f (qc xx (b+1)) d)))
 (R eL e)) (0:Int) h
theorem RR(b:Sl)(a:Int)(c:@Kx R h b a):ac xB 163 #[b,a] h R:=aw af func163 (an.tn (.two (an.tn (.inn (.loop [(9,ba)] [(4,7),(9,32)] .n))) .n)) c
noncomputable def Ia(k:cQ)(o:iO):Prop:=
 aS xB (qM 44 k) h λf w=>
 aS xB (qM 94 o) w λa q=>
 bm (σ:=Unit) (λ_ p=>
 bi p (a.add 3) λm=>
 ae xB 116 #[m,(.func (.func 228) #[] #[])] bN p λi b=>
 Br (!i) (bi b (a.add 3) λd=>
 ∃e:bR,aq b (f.add 2) 0 e/\
 aZ b (a.add 2) λn=>
 ae xB 48 #[e,n] bx b λl h8=>
 (az.ok [(a.add 3,d)] h8)/\
 R (xv ((d.len:Int)==l)) h8) ((az.ok [] b)/\
 R eR b))
 (λv=>
 FQ q a λx3=>
 ae xB 104 #[x3] bN q λy h3=>
 Br (!y) (R eR h3) (aZ h3 (a.add 1) λs=>
 aZ h3 (f.add 1) λu=>
 ae xB 162 #[s,(xq xx 0),(qc xx (u-1))] bN h3 λx c=>
 Br (!x) (R eR c) (aZ c (a.add 2) λt=>
 aZ c (f.add 2) λz=>
 aZ c ((f.add 2).add 2) λg=>
 ae xB 162 #[t,(xq xx 0),(qc xx ((qc xx (z*g))*8))] bN c λj r=>
 Br (!j)
 (R eR r)
 (v () r))))
theorem Pv(b:cQ)(a:iO)(c:@Ia R h b a):ac xB 164 #[b,a] h R:=aw af func164 (an.tn (.two (.join [] [(4,5),(6,33)] .n) .n)) c
noncomputable def fe(b:Sl)(a:cN):Prop:=
 ae xB 152 #[b,(.func (.func a.1) a.2.1 a.2.2)] bx h λd c=>
 R (decide (d>=0)) c
theorem gJ(b:Sl)(a:cN)(c:@fe R h b a):ac xB 165 #[b,(.func (.func a.1) a.2.1 a.2.2)] h R:=aw af func165 .n c
noncomputable def Ib(b:iO)(a:eX):Prop:=
 aS xB (qM 94 b) h λd c=>
 aZ c (d.add 1) λx2=>
 aZ c (a.add 1) λx3=>
 R (xv (x2==x3)) c
theorem Pw(b:iO)(a:eX)(c:@Ib R h b a):ac xB 166 #[b,a] h R:=aw af func166 .n c
noncomputable def Ky(b:Sl):Prop:=
 aL (σ:=Sl×Int) (λa i d=>
 Br (a.2<(b.len:Int))
 (aR b a.2 λj=>
 bi d (j.add (a.2.toNat*1)) λx3=>
 ae xB 146 #[x3] aI d λf e=>
 aB xB (qq 85 1 #[(0,f)]) aI e λv5 h3=>
 aB xB (qt #[85,85] 85 #[a.1,v5]) aI h3 λc g=>
 i ((⟨c.ptr,c.len,c.cap⟩:Sl),qc xx (a.2+1)) g)
 (R a.1 d)) ((⟨eH,0,0⟩:Sl),(0:Int)) h
theorem RS(a:Sl)(b:@Ky R h a):ac xB 167 #[a] h R:=aw af func167 (an.tn (an.tn (.two (an.tn (.inn (.loop [(3,cA),(8,ba)] [(3,4),(5,6),(8,18)] .n))) .n))) b
noncomputable def kD(b:Sl)(a:cN):Prop:=
 aL (σ:=Int) (λc g d=>
 Br (c<(b.len:Int))
 (aR b c λi=>
 bi d (i.add (c.toNat*1)) λx3=>
 iC C a.1 (a.2.1.toList++[(xr x3.ptr x3.len x3.cap)]++a.2.2.toList) bN d λf e=>
 Br f
 (R c e)
 (g (qc xx (c+1)) e))
 (R (xq xx (-1:Int)) d)) (0:Int) h
theorem oL(b:Sl)(a:cN)(c:@kD R h b a):ac xB 168 #[b,(.func (.func a.1) a.2.1 a.2.2)] h R:=aw af func168 (an.tn (.two (an.tn (.inn (.loop [(8,ba)] [(4,6),(8,19)] .n))) .n)) c
noncomputable def Gj(a:Sl)(d:Int)(b:Int):Prop:=
 aL (σ:=Sl×Int) (λc i e=>
 Br (c.2>=0)
 ((0<=(qc xx (8*c.2)))/\
 aB xB (qq 34 1 #[(0,(xq xy (qc xy (qX d (2^min (qc xx (8*c.2)).toNat (qk xx))))))]) aI e λg f=>
 aB xB (qt #[34,34] 34 #[c.1,g]) aI f λv3 h3=>
 i ((⟨v3.ptr,v3.len,v3.cap⟩:Sl),qc xx (c.2-1)) h3)
 (R c.1 e)) ((⟨a.ptr,a.len,a.cap⟩:Sl),qc xx (b-1)) h
theorem Np(b:Sl)(c:Int)(a:Int)(d:@Gj R h b c a):ac xB 169 #[b,c,a] h R:=aw af func169 (an.tn (.two (an.tn (.inn (.loop [(0,cA),(7,ba)] [(0,1),(7,8),(10,22)] .n))) .n)) d
noncomputable def uo(a:aO):Prop:=
 ae xB 121 #[a] bN h λl b=>
 Br (!l)
 (R eR b)
 (∃j,(a=dB j)/\
 su b (j.add 1) λx3=>
 Br (!x3)
 (R eL b)
 (∃a4,(a=dB a4)/\
 aZ b (a4.add 2) λk=>
 Br (k==0)
 (∃f,(a=dB f)/\
 ag xB (qf 4 f eL) b λ_ i=>
 ∃g,(a=dB g)/\
 aZ i (g.add 3) λm=>
 ∃a9,(a=dB a9)/\
 ag xB (qf 3 (a9.add 3) (qc xx (m+1))) i λ_ h3=>
 R eR h3)
 (∃d,(a=dB d)/\
 aZ b (d.add 2) λe=>
 ∃c,(a=dB c)/\
 ag xB (qf 3 (c.add 2) (qc xx (e-1))) b λ_ n=>
 R eL n)))
theorem EV(a:aO)(b:@uo R h a):ac xB 170 #[a] h R:=aw af func170 .n b
noncomputable def uq(a:aO):Prop:=
 ∃b,(a=dB b)/\
 ag xB (qf 85 (b.add 4) (xr eH 0 0)) h λ_ e=>
 ∃c,(a=dB c)/\
 ag xB (qf 4 (c.add 5) eR) e λ_ d=>
 R (xq xx 0) d
theorem EW(a:aO)(b:@uq R h a):ac xB 171 #[a] h R:=aw af func171 .n b
noncomputable def nB(a:aO):Prop:=
 bm (σ:=Unit) (λ_ e=>
 ∃a4,(a=dB a4)/\
 kA e a4 λf=>
 ae xB 170 #[f] bN e λj d=>
 Br (!j)
 (R (xq xx 14) d)
 (∃b,(a=dB b)/\
 ag xB (qf 3 (b.add 3) (xq xx 0)) d λ_ h3=>
 ae xB 171 #[a] bx h3 λk g=>
 R k g))
 (λi=>
 Br (qS a) (R (xq xx 5) h) (∃c,(a=dB c)/\
 su h (c.add 6) λx2=>
 Br x2
 (R (xq xx 5) h)
 (i () h)))
theorem rK(a:aO)(b:@nB R h a):ac xB 173 #[a] h R:=aw af func173 (an.tn (.two (.join [] [(2,11)] .n) .n)) b
noncomputable def DE(d:bR)(a:Int):Prop:=
 aS xB (qM 24 d) h λb c=>
 ∃x2:bR,aq c b 0 x2/\
 ∃x3:bR,aq c b 0 x3/\
 ae xB 176 #[x3] aI c λf e=>
 (az.ok [(b,x2.1),(b.add 1,x2.2.1),(b.add 2,x2.2.2)] e)/\
 ae xB 158 #[x2,(xq xz a),f] bN e λg h3=>
 (az.ok [] h3)/\
 R g h3
theorem LA(b:bR)(a:Int)(c:@DE R h b a):ac xB 174 #[b,(xq xz a)] h R:=aw af func174 .n c
noncomputable def CO(w:aO)(e:Sl)(m:Sl):Prop:=
 bm (σ:=Unit) (λ_ h3=>
 ae xB 204 #[e] bx h3 λi N=>
 ae xB 201 #[e] aI N λd S=>
 aL (σ:=Int) (λg J r=>
 Br (g<(d.len:Int))
 (aR d g λL=>
 bi r (L.add (g.toNat*1)) λO=>
 aR m g λa9=>
 bi r (a9.add (g.toNat*1)) λt=>
 aB xB (qt #[34,34] 34 #[O,t]) aI r λB G=>
 (az.ok [] G)/\
 aR d g λx=>
 ag xB (qf 34 (x.add (g.toNat*1)) B) G λ_ h8=>
 (az.ok [] h8)/\
 J (qc xx (g+1)) h8)
 (ae xB 203 #[w] iP r λA I=>
 ae xB 202 #[A,d,i] bx I λa q=>
 Br (a<i)
 (R (.tuple #[(xr eH 0 0),(xq xx 9)]) q)
 ((0<=a/\a<=(d.len:Int))/\
 aL (σ:=Int) (λf M k=>
 Br (decide (f<(((d.len-a.toNat):Nat):Int)))
 (∃p:eX,((if d.cap=a.toNat then d.ptr else d.ptr.map (·.add (a.toNat*1)))=dB p/\0<=f/\f<(((d.len-a.toNat):Nat):Int))/\
 bi k (p.add (f.toNat*1)) λF=>
 ae xB 139 #[F] bx k λz o=>
 Br (z>=0)
 (R (.tuple #[(xr eH 0 0),(xq xx 10)]) o)
 (M (qc xx (f+1)) o))
 ((0<=a/\a<=(d.cap:Int))/\
 aL (σ:=Sl×Int) (λb K j=>
 Br (b.2<(a.toNat:Int))
 (∃n,(d.ptr=dB n/\0<=b.2/\b.2<(a.toNat:Int))/\
 bi j (n.add (b.2.toNat*1)) λc=>
 (0<=i/\i<=(c.len:Int))/\
 ae xB 146 #[(.slice (if c.cap=i.toNat then c.ptr else c.ptr.map (·.add (i.toNat*1))) (c.len-i.toNat) (c.cap-i.toNat))] aI j λE u=>
 aB xB (qq 85 1 #[(0,E)]) aI u λy v=>
 aB xB (qt #[85,85] 85 #[b.1,y]) aI v λl D=>
 K ((⟨l.ptr,l.len,l.cap⟩:Sl),qc xx (b.2+1)) D)
 (R (.tuple #[b.1,(xq xx 0)]) j)) ((⟨eH,0,0⟩:Sl),(0:Int)) k)) (0:Int) q))) (0:Int) S)
 (λQ=>
 ae xB 200 #[e] bN h λT H=>
 Br (!T) (R (.tuple #[(xr eH 0 0),(xq xx 1)]) H) (ae xB 200 #[m] bN H λP s=>
 Br (!P) (R (.tuple #[(xr eH 0 0),(xq xx 1)]) s) (Br ((e.len:Int) !=(m.len:Int)) (R (.tuple #[(xr eH 0 0),(xq xx 1)]) s) (Br ((e.len:Int)==0)
 (R (.tuple #[(xr eH 0 0),(xq xx 1)]) s)
 (Q () s)))))
theorem Gk(b:aO)(a:Sl)(c:Sl)(d:@CO R h b a c):ac xB 175 #[b,a,c] h R:=aw af func175 (an.tn (.two (.join [] [(6,8),(17,37)] .n) (an.tn (an.tn (.two (an.tn (.inn (.loop [(43,ba)] [(10,11),(43,59)] .n))) (an.tn (an.tn (.two (an.tn (.inn (.loop [(71,ba)] [(6,8),(13,14),(71,79)] .n))) (an.tn (.two (an.tn (.inn (.loop [(14,cA),(83,ba)] [(14,15),(16,17),(83,95)] .n))) .n)))))))))) d
noncomputable def DF(b:bR):Prop:=
 aS xB (qM 24 b) h λe d=>
 aZ d e λx2=>
 aL (σ:=Sl×Int) (λa f c=>
 Br (decide (a.2<(if(if(16:Int)<x2 then(16:Int)else x2)>(0:Int)then(if(16:Int)<x2 then(16:Int)else x2)else(0:Int))))
 (aB xB (qq 22 1 #[(0,a.2)]) aI c λv4 h3=>
 aB xB (qt #[22,22] 22 #[a.1,v4]) aI h3 λv5 g=>
 f ((⟨v5.ptr,v5.len,v5.cap⟩:Sl),qc xx (a.2+1)) g)
 (R a.1 c)) ((⟨eH,0,0⟩:Sl),(0:Int)) d
theorem LB(a:bR)(b:@DF R h a):ac xB 176 #[a] h R:=aw af func176 (an.tn (an.tn (.two (an.tn (.inn (.loop [(3,cA),(9,ba)] [(3,5),(9,17)] .n))) .n))) b
noncomputable def Nq(a:Int):Prop:=
 Br (a<0) (R (.complex .f64 0 0) h) (Br (a>=4096)
 (R (.complex .f64 0 0) h)
 (ae xB 229 #[] iP h λd f=>
 aL (σ:=Int) (λe g c=>
 Br (e==a)
 (∃a3,(d=dB a3)/\
 ∃b:Nat×Nat,cellOf c a3=dB (.complex .f64 b.1 b.2)/\
 R (.complex .f64 b.1 b.2) c)
 (ae xB 230 #[d] il c λ_ h3=>
 g (qc xx (e+1)) h3)) (0:Int) f))
theorem Uj(a:Int)(b:@Nq R h a):ac xB 177 #[a] h R:=aw af func177 (an.tn (.scope 0 [(4,ba)] [(2,3),(4,5),(12,23)] [.n,.n,.n] [.n] [])) b
noncomputable def Kz(c:Nat×Nat)(b:Nat×Nat):Prop:=
 ∃a:Nat×Nat,(kK xB .sub 235 (.tmp 6) (.tmp 7) (.complex .f64 c.1 c.2) (.complex .f64 b.1 b.2) (.complex .f64 a.1 a.2))/\
 ∃e:Nat,((FloatKind.format .f64).mul a.1 a.1=dB e)/\
 ∃d:Nat,((FloatKind.format .f64).mul a.2 a.2=dB d)/\
 ∃f:Nat,((FloatKind.format .f64).add e d=dB f)/\
 R (.float .f64 f) h
theorem RT(a:Nat×Nat)(b:Nat×Nat)(c:@Kz R h a b):ac xB 178 #[(.complex .f64 a.1 a.2),(.complex .f64 b.1 b.2)] h R:=aw af func178 .n c
noncomputable def Cb(c:Int×Nat)(a:Int×Nat):Prop:=
 aS xB (qM 242 (xw #[c.1,(.float .f64 c.2)])) h λd p=>
 aS xB (qM 242 (xw #[a.1,(.float .f64 a.2)])) p λf b=>
 ∃x3:Nat,cellOf b (d.add 1)=dB (.float .f64 x3)/\
 ∃k:Nat,cellOf b (f.add 1)=dB (.float .f64 k)/\
 aZ b d λg=>
 aZ b f λj=>
 ae xB 182 #[(.float .f64 x3),(.float .f64 k)] bx b λn h3=>
 (az.ok [(f,j),(d,g)] h3)/\
 ae xB 183 #[g,j] bx h3 λo l=>
 (az.ok [] l)/\
 aB xB (qq 22 2 #[(0,n),(1,o)]) aI l λv9 i=>
 (az.ok [] i)/\
 ae xB 181 #[v9] bx i λe m=>
 (az.ok [] m)/\
 R e m
theorem JW(a:Int×Nat)(b:Int×Nat)(c:@Cb R h a b):ac xB 180 #[(xw #[a.1,(.float .f64 a.2)]),(xw #[b.1,(.float .f64 b.2)])] h R:=aw af func180 .n c
noncomputable def AL(a:Sl):Prop:=
 aL (σ:=Int) (λc d b=>
 Br (c<(a.len:Int))
 (aR a c λe=>
 aZ b (e.add (c.toNat*1)) λx3=>
 Br (x3 !=0)
 (R x3 b)
 (d (qc xx (c+1)) b))
 (R (xq xx 0) b)) (0:Int) h
theorem DG(a:Sl)(b:@AL R h a):ac xB 181 #[a] h R:=aw af func181 (an.tn (an.tn (.two (an.tn (.inn (.loop [(8,ba)] [(2,3),(5,6),(8,17)] .n))) .n))) b
noncomputable def pL(a:Nat)(b:Nat):Prop:=
 ae xB 232 #[(.float .f64 a)] bN h λf e=>
 ae xB 232 #[(.float .f64 b)] bN e λd c=>
 Br f
 (Br d
 (R (xq xx 0) c)
 (R (xq xx (-1:Int)) c))
 (Br d
 (R (xq xx 1) c)
 (Br ((FloatKind.format .f64).order a b==dB .lt)
 (R (xq xx (-1:Int)) c)
 (Br ((FloatKind.format .f64).order a b==dB .gt)
 (R (xq xx 1) c)
 (R (xq xx 0) c))))
theorem Bu(b:Nat)(a:Nat)(c:@pL R h b a):ac xB 182 #[(.float .f64 b),(.float .f64 a)] h R:=aw af func182 .n c
noncomputable def ou(a:Int)(b:Int):Prop:=
 ae xB 233 #[a] bN h λf e=>
 ae xB 233 #[b] bN e λd c=>
 Br f
 (Br d
 (R (xq xx 0) c)
 (R (xq xx (-1:Int)) c))
 (Br d
 (R (xq xx 1) c)
 (Br (a<b)
 (R (xq xx (-1:Int)) c)
 (Br (a>b)
 (R (xq xx 1) c)
 (R (xq xx 0) c))))
theorem sF(b:Int)(a:Int)(c:@ou R h b a):ac xB 183 #[b,a] h R:=aw af func183 .n c
noncomputable def Ic(g:fg):Prop:=
 aS xB (qM 170 g) h λb a=>
 bm (σ:=Bool) (λl f=>
 Br l (∃j:bR,aq f (b.add 3) 0 j/\
 ae xB 40 #[j] bN f λe h3=>
 Br e (bi h3 (b.add 7) λi=>
 aZ h3 ((b.add 3).add 2) λd=>
 R (xv ((i.len:Int)==d)) h3) (R eR h3)) (R eR f))
 (λc=>
 aZ a b λx2=>
 Br (x2>=0) (aZ a b λx3=>
 Br (x3<=16777215) (aZ a (b.add 1) λo=>
 Br (o>=0) (aZ a (b.add 1) λk=>
 Br (k<8) (aZ a (b.add 2) λm=>
 Br (m>=0) (aZ a (b.add 2) λn=>
 c (decide (n<=65535)) a) (c eR a)) (c eR a)) (c eR a)) (c eR a)) (c eR a))
theorem Px(a:fg)(b:@Ic R h a):ac xB 184 #[a] h R:=aw af func184 (an.tn (.two (.join [(3,kB)] [(3,32)] .n) .n)) b
noncomputable def Cc(a:Sl)(d:Int)(b:Int):Prop:=
 aL (σ:=Sl×Int) (λc i e=>
 Br (c.2>=0)
 ((0<=(qc xx (8*c.2)))/\
 aB xB (qq 34 1 #[(0,(xq xy (qc xy (qX d (2^min (qc xx (8*c.2)).toNat (qk xx))))))]) aI e λg f=>
 aB xB (qt #[34,34] 34 #[c.1,g]) aI f λv3 h3=>
 i ((⟨v3.ptr,v3.len,v3.cap⟩:Sl),qc xx (c.2-1)) h3)
 (R c.1 e)) ((⟨a.ptr,a.len,a.cap⟩:Sl),qc xx (b-1)) h
theorem JX(b:Sl)(c:Int)(a:Int)(d:@Cc R h b c a):ac xB 185 #[b,c,a] h R:=aw af func185 (an.tn (.two (an.tn (.inn (.loop [(0,cA),(7,ba)] [(0,1),(7,8),(10,22)] .n))) .n)) d
noncomputable def jS(b:Sl)(x:Int)(E:Int)(e:Int)(a:cN):Prop:=
 aL (σ:=Tu5) (λc z r=>
 Br ((qc xx (c.2.1-c.1))<=12)
 (ae xB 234 #[b,c.1,c.2.1,(.func (.func a.1) a.2.1 a.2.2)] il r λ_ L=>
 R (.tuple #[]) L)
 (Br (c.2.2.1==0)
 (ae xB 235 #[b,c.1,c.2.1,(.func (.func a.1) a.2.1 a.2.2)] il r λ_ h3=>
 R (.tuple #[]) h3)
 (bm (σ:=Int) (λl O=>
 ae xB 237 #[b,c.1,c.2.1,(.func (.func a.1) a.2.1 a.2.2)] (.many [ba,ba]) O λp H=>
 bm (σ:=Int×Int) (λn h8=>
 bm (σ:=Unit) (λ_ j=>
 bm (σ:=Int) (λg u=>
 ae xB 241 #[b,g,c.2.1,n.1,(.func (.func a.1) a.2.1 a.2.2)] (.many [ba,kB]) u λd k=>
 ((8:Int)≠0)/\
 Br ((qc xx (d.1-g))<(qc xx (c.2.1-d.1)))
 (ae xB 186 #[b,g,d.1,l,(.func (.func a.1) a.2.1 a.2.2)] il k λ_ B=>
 z (qc xx (d.1+1),c.2.1,l,decide ((qc xx (d.1-g))>=(qc xx (wy (qc xx (c.2.1-c.1)) 8))),d.2) B)
 (ae xB 186 #[b,(qc xx (d.1+1)),c.2.1,l,(.func (.func a.1) a.2.1 a.2.2)] il k λ_ w=>
 z (g,d.1,l,decide ((qc xx (c.2.1-d.1))>=(qc xx (wy (qc xx (c.2.1-c.1)) 8))),d.2) w))
 (λN=>
 bm (σ:=Bool) (λy m=>
 Br y
 (ae xB 240 #[b,c.1,c.2.1,n.1,(.func (.func a.1) a.2.1 a.2.2)] bx m λD A=>
 z (D,c.2.1,l,c.2.2.2.1,c.2.2.2.2) A)
 (N c.1 m))
 (λJ=>
 Br (c.1>0) (aR b (qc xx (c.1-1)) λt=>
 ∃i:iO,aq j (t.add ((qc xx (c.1-1)).toNat*4)) 0 i/\
 aR b n.1 λv=>
 ∃f:iO,aq j (v.add (n.1.toNat*4)) 0 f/\
 iC C a.1 (a.2.1.toList++[(xw #[i.1,i.2.1,i.2.2.1,i.2.2.2]),(xw #[f.1,f.2.1,f.2.2.1,f.2.2.2])]++a.2.2.toList) bx j λs o=>
 (az.ok [] o)/\
 J (!(decide (s<0))) o) ((az.ok [] j)/\
 J eR j))))
 (λq=>
 Br c.2.2.2.1 (Br c.2.2.2.2 (Br (n.2==1)
 (ae xB 239 #[b,c.1,c.2.1,(.func (.func a.1) a.2.1 a.2.2)] bN h8 λP F=>
 Br P
 (R (.tuple #[]) F)
 (q () F))
 (q () h8)) (q () h8)) (q () h8)))
 (λI=>
 Br (p.2==2)
 (ae xB 238 #[b,c.1,c.2.1,(.func (.func a.1) a.2.1 a.2.2)] il H λ_ K=>
 I (qc xx ((qc xx (c.2.1-1))-(qc xx (p.1-c.1))),(1:Int)) K)
 (I (p.1,p.2) H)))
 (λG=>
 Br (!c.2.2.2.1)
 (ae xB 236 #[b,c.1,c.2.1,(.func (.func a.1) a.2.1 a.2.2)] il r λ_ M=>
 G (qc xx (c.2.2.1-1)) M)
 (G c.2.2.1 r))))) (x,E,e,eL,eL) h
theorem nU(c:Sl)(d:Int)(e:Int)(b:Int)(a:cN)(f:@jS R h c d e b a):ac xB 186 #[c,d,e,b,(.func (.func a.1) a.2.1 a.2.2)] h R:=aw af func186 (an.tn (an.tn (.inn (.loop [(1,ba),(2,ba),(3,ba),(10,kB),(11,kB)] [(1,4),(10,148)] (.inn (an.tn (an.tn (an.tn (.two (.join [(3,ba)] [(3,4),(38,47)] .n) (an.tn (.two (.join [(13,ba),(14,ba)] [(13,15),(55,68)] .n) (.two (.join [] [(68,81)] .n) (.two (.join [(1,ba)] [(1,2),(15,16),(81,105)] (.two (.join [(97,kB)] [(81,98)] .n) .n)) .n))))))))))))) f
noncomputable def ur(a:ByteArray):Prop:=
 R (xv (!(a.toList==a.toList))) h
theorem EX(a:ByteArray)(b:@ur R h a):ac xB 188 #[a] h R:=aw af func188 .n b
noncomputable def gD(b:Sl)(a:cN):Prop:=
 aL (σ:=Int) (λc g d=>
 Br (c<(b.len:Int))
 (aR b c λi=>
 aZ d (i.add (c.toNat*1)) λx3=>
 iC C a.1 (a.2.1.toList++[(xq xx x3)]++a.2.2.toList) bN d λf e=>
 Br f
 (R c e)
 (g (qc xx (c+1)) e))
 (R (xq xx (-1:Int)) d)) (0:Int) h
theorem iT(b:Sl)(a:cN)(c:@gD R h b a):ac xB 189 #[b,(.func (.func a.1) a.2.1 a.2.2)] h R:=aw af func189 (an.tn (.two (an.tn (.inn (.loop [(8,ba)] [(4,6),(8,19)] .n))) .n)) c
noncomputable def Gl(c:aO)(a:Int)(b:Int):Prop:=
 ae xB 244 #[c] bx h λe d=>
 R (decide ((if(0:Int)>b then(0:Int)else b)<=(qc xx (e-a)))) d
theorem Nr(c:aO)(a:Int)(b:Int)(d:@Gl R h c a b):ac xB 190 #[c,a,b] h R:=aw af func190 .n d
noncomputable def uZ(a:aO):Prop:=
 Br (qS a)
 (R (xq xx 0) h)
 (∃b,(a=dB b)/\
 bi h (b.add 2) λx2=>
 R (xq xx (x2.len:Int)) h)
theorem GF(a:aO)(b:@uZ R h a):ac xB 191 #[a] h R:=aw af func191 .n b
noncomputable def Ie(d:aO)(c:cQ):Prop:=
 aS xB (qM 44 c) h λq k=>
 ∃x2:cQ,aq k q 0 x2/\
 ae xB 130 #[d,x2] aI k λj o=>
 aL (σ:=Sl×Int) (λb r h3=>
 Br (b.2<(j.len:Int))
 (aR j b.2 λa5=>
 ∃i:fg,aq h3 (a5.add (b.2.toNat*8)) 0 i/\
 aS xB (qL 170 eL (.tuple #[])) h3 λf p=>
 ag xB (qf 170 f i) p λ_ l=>
 ∃g:fg,aq l f 0 g/\
 ae xB 112 #[g] aI l λs n=>
 aB xB (qq 85 1 #[(0,s)]) aI n λe m=>
 aB xB (qt #[85,85] 85 #[b.1,e]) aI m λa h8=>
 r ((⟨a.ptr,a.len,a.cap⟩:Sl),qc xx (b.2+1)) h8)
 (R b.1 h3)) ((⟨eH,0,0⟩:Sl),(0:Int)) o
theorem Py(a:aO)(b:cQ)(c:@Ie R h a b):ac xB 192 #[a,b] h R:=aw af func192 (an.tn (an.tn (.two (an.tn (.inn (.loop [(5,cA),(12,ba)] [(5,6),(7,8),(12,22)] .n))) .n))) c
noncomputable def pM(k:aO)(e:aO)(z:Sl):Prop:=
 ae xB 245 #[e] bx h λA h1=>
 ∃a2,(e=dB a2)/\
 aZ h1 a2 λx3=>
 ∃a4,(e=dB a4)/\
 aZ h1 (a4.add 1) λx5=>
 ∃a6,(k=dB a6)/\
 bi h1 (a6.add 9) λx7=>
 ae xB 109 #[x3,x5,x7] aI h1 λr8 h2=>
 (az.ok [] h2)/\
 aL (σ:=Int) (λs9 K1 h3=>
 Br (s9<(r8.len:Int))
 (ae xB 111 #[r8,(qc xx (A+s9))] bx h3 λu h4=>
 ∃ap,(k=dB ap)/\
 bi h4 (ap.add 9) λbr=>
 ae xB 150 #[br,u] bx h4 λf h5=>
 ∃H,(k=dB H)/\
 kA h5 H λb4=>
 ae xB 35 #[b4,u] iP h5 λv h6=>
 bm (σ:=Unit) (λ_ h9=>
 ∃a22,(k=dB a22)/\
 ∃E:cQ,aq h9 (a22.add 1) 0 E/\
 ae xB 119 #[v,E,(xq xx 1)] bx h9 λT l=>
 Br (T !=0)
 (R T l)
 (bm (σ:=eX) (λb9 ay=>
 ∃ar:fg,aq ay b9 0 ar/\
 ae xB 112 #[ar] aI ay λb7 cf=>
 ae xB 102 #[v,b7] bx cf λB m=>
 Br (B !=0)
 (R B m)
 (bm (σ:=Unit) (λ_ K=>
 ∃a7,(k=dB a7)/\
 aZ K (a7.add 12) λbq=>
 ∃J,(k=dB J)/\
 ag xB (qf 3 (J.add 12) (qc xx (bq+1))) K λ_ bd=>
 R (xq xx 0) bd)
 (λK4=>
 ∃d,(e=dB d)/\
 bi m (d.add 4) λc=>
 ∃a45,(e=dB a45)/\
 bi m (a45.add 4) λg=>
 aR g f λt=>
 bi m (t.add (f.toNat*1)) λn=>
 ∃j,(e=dB j)/\
 bi m (j.add 5) λi=>
 (aB xB (qq 22 1 #[(0,A)]) aI m λv51 x=>
 (az.ok [(j.add 5,i),(t.add (f.toNat*1),n),(a45.add 4,g),(d.add 4,c)] x)/\
 (aB xB (qt #[22,22] 22 #[n,v51]) aI x λb6 a9=>
 (az.ok [(j.add 5,i),(a45.add 4,g),(d.add 4,c)] a9)/\
 aB xB (qq 22 1 #[(0,u)]) aI a9 λv53 Y=>
 (az.ok [(j.add 5,i),(a45.add 4,g),(d.add 4,c)] Y)/\
 aB xB (qt #[22,22] 22 #[i,v53]) aI Y λcd a5=>
 (az.ok [(a45.add 4,g),(d.add 4,c)] a5)/\
 aR c f λa55=>
 ag xB (qf 22 (a55.add (f.toNat*1)) b6) a5 λ_ M=>
 (az.ok [] M)/\
 ∃ao,(e=dB ao)/\
 ag xB (qf 22 (ao.add 5) cd) M λ_ a1=>
 (az.ok [] a1)/\
 K4 () a1)/\(aB xB (qq 22 1 #[(0,u)]) aI x λcc W=>
 (az.ok [(j.add 5,i),(t.add (f.toNat*1),n),(a45.add 4,g),(d.add 4,c)] W)/\
 aB xB (qt #[22,22] 22 #[n,v51]) aI W λbs L=>
 (az.ok [(j.add 5,i),(a45.add 4,g),(d.add 4,c)] L)/\
 aB xB (qt #[22,22] 22 #[i,cc]) aI L λb2 a8=>
 (az.ok [(a45.add 4,g),(d.add 4,c)] a8)/\
 aR c f λbb=>
 ag xB (qf 22 (bb.add (f.toNat*1)) bs) a8 λ_ I=>
 (az.ok [] I)/\
 ∃a0,(e=dB a0)/\
 ag xB (qf 22 (a0.add 5) b2) I λ_ N=>
 (az.ok [] N)/\
 K4 () N))/\(aB xB (qq 22 1 #[(0,u)]) aI m λcl D=>
 (az.ok [(j.add 5,i),(t.add (f.toNat*1),n),(a45.add 4,g),(d.add 4,c)] D)/\
 aB xB (qq 22 1 #[(0,A)]) aI D λb1 ah=>
 (az.ok [(j.add 5,i),(t.add (f.toNat*1),n),(a45.add 4,g),(d.add 4,c)] ah)/\
 aB xB (qt #[22,22] 22 #[n,b1]) aI ah λb0 F=>
 (az.ok [(j.add 5,i),(a45.add 4,g),(d.add 4,c)] F)/\
 aB xB (qt #[22,22] 22 #[i,cl]) aI F λbl am=>
 (az.ok [(a45.add 4,g),(d.add 4,c)] am)/\
 aR c f λa66=>
 ag xB (qf 22 (a66.add (f.toNat*1)) b0) am λ_ a3=>
 (az.ok [] a3)/\
 ∃ab,(e=dB ab)/\
 ag xB (qf 22 (ab.add 5) bl) a3 λ_ O=>
 (az.ok [] O)/\
 K4 () O))))
 (λK3=>
 ∃a25,(e=dB a25)/\
 aZ l a25 λq=>
 ∃o,(e=dB o)/\
 aZ l (o.add 1) λr=>
 ∃b,(k=dB b)/\
 ∃a:bR,aq l ((b.add 1).add 2) 0 a/\
 ∃s,(e=dB s)/\
 gg .u32 l (s.add 2) λp=>
 ∃y,(e=dB y)/\
 kA l (y.add 3) λw=>
 (ae xB 110 #[w,A] aI l λb3 V=>
 (az.ok [(s.add 2,(xq xz p)),((b.add 1).add 2,a.1),(((b.add 1).add 2).add 1,a.2.1),(((b.add 1).add 2).add 2,a.2.2),(o.add 1,r),(a25,q)] V)/\
 aS xB (qL 170 eL (.tuple #[])) V λQ S=>
 (az.ok [(s.add 2,(xq xz p)),((b.add 1).add 2,a.1),(((b.add 1).add 2).add 1,a.2.1),(((b.add 1).add 2).add 2,a.2.2),(o.add 1,r),(a25,q)] S)/\
 ag xB (qf 170 Q (xw #[q,r,A,a.1,a.2.1,a.2.2,(xq xz p),b3])) S λ_ G=>
 (az.ok [] G)/\
 K3 Q G)/\(aS xB (qL 170 eL (.tuple #[])) l λax X=>
 (az.ok [(y.add 3,w),(s.add 2,(xq xz p)),((b.add 1).add 2,a.1),(((b.add 1).add 2).add 1,a.2.1),(((b.add 1).add 2).add 2,a.2.2),(o.add 1,r),(a25,q)] X)/\
 ae xB 110 #[w,A] aI X λcn Z=>
 (az.ok [(s.add 2,(xq xz p)),((b.add 1).add 2,a.1),(((b.add 1).add 2).add 1,a.2.1),(((b.add 1).add 2).add 2,a.2.2),(o.add 1,r),(a25,q)] Z)/\
 ag xB (qf 170 ax (xw #[q,r,A,a.1,a.2.1,a.2.2,(xq xz p),cn])) Z λ_ U=>
 (az.ok [] U)/\
 K3 ax U))))
 (λK2=>
 ae xB 84 #[z,f] bN h6 λb5 h7=>
 Br b5 (K1 (qc xx (s9+1)) h7) (∃P,(k=dB P)/\
 ∃ad:cQ,aq h7 (P.add 1) 0 ad/\
 ae xB 118 #[v,ad,(xq xx 1)] bN h7 λbk h8=>
 Br (!bk)
 (K1 (qc xx (s9+1)) h8)
 (K2 () h8))))
 (R (xq xx 7) h3)) (0:Int) h2
theorem Bv(b:aO)(c:aO)(a:Sl)(d:@pM R h b c a):ac xB 193 #[b,c,a] h R:=aw af func193 (an.tn (an.tn (an.tn (.two (an.tn (.inn (.loop [(33,ba)] [(6,7),(9,16),(33,140)] (an.tn (an.tn (.two (.inn (an.tn (an.tn (an.tn (an.tn (.two (.join [] [(53,65)] .n) (an.tn (.two (.join [(14,(.sc .adr))] [(14,15),(74,99)] .n) (an.tn (.two (.join [] [(106,132)] .n) .n)))))))))) .n)))))) .n)))) d
noncomputable def Gm(A:Sl):Prop:=
 aS xB (qL 170 eL (.tuple #[])) h λf h1=>
 ae xB 76 #[A] (.many [ba,cA,kB]) h1 λa X=>
 bm (σ:=Unit) (λ_ h5=>
 bm (σ:=eX) (λb a0=>
 bm (σ:=Unit) (λ_ a6=>
 (0<=(9:Int)/\(9:Int)<=(13:Int)/\(13:Int)<=(a.2.1.cap:Int))/\
 ae xB 246 #[(.slice (if a.2.1.cap=(9:Int).toNat then a.2.1.ptr else a.2.1.ptr.map (·.add ((9:Int).toNat*1))) ((13:Int).toNat-(9:Int).toNat) (a.2.1.cap-(9:Int).toNat))] bx a6 λay a4=>
 ag xB (qf 46 (b.add 6) (xq xz (qc xz ay))) a4 λ_ w=>
 ∃n:bR,aq w (b.add 3) 0 n/\
 ae xB 40 #[n] bN w λW j=>
 Br (!W)
 (ag xB (qf 170 f (xw #[(xq xx 0),(xq xx 0),(xq xx 0),(xq xx 0),(xq xx 0),(xq xx 0),(xq xz 0),(xr eH 0 0)])) j λ_ E=>
 ∃e:fg,aq E f 0 e/\
 R (.tuple #[e,eR]) E)
 (aZ j ((b.add 3).add 2) λk=>
 (0<=(13:Int)/\(13:Int)<=(qc xx (13+k))/\(qc xx (13+k))<=(a.2.1.cap:Int))/\
 ae xB 146 #[(.slice (if a.2.1.cap=(13:Int).toNat then a.2.1.ptr else a.2.1.ptr.map (·.add ((13:Int).toNat*1))) ((qc xx (13+k)).toNat-(13:Int).toNat) (a.2.1.cap-(13:Int).toNat))] aI j λax ad=>
 ag xB (qf 34 (b.add 7) ax) ad λ_ L=>
 ∃m:fg,aq L b 0 m/\
 ae xB 112 #[m] aI L λa2 am=>
 ae xB 99 #[A,a2] bN am λao l=>
 Br (!ao)
 (ag xB (qf 170 f (xw #[(xq xx 0),(xq xx 0),(xq xx 0),(xq xx 0),(xq xx 0),(xq xx 0),(xq xz 0),(xr eH 0 0)])) l λ_ M=>
 ∃c:fg,aq M f 0 c/\
 R (.tuple #[c,eR]) M)
 (∃G:fg,aq l b 0 G/\
 ag xB (qf 170 f G) l λ_ o=>
 ∃d:fg,aq o f 0 d/\
 R (.tuple #[d,eL]) o)))
 (λK3=>
 (0<=(6:Int)/\(6:Int)<=(7:Int)/\(7:Int)<=(a.2.1.cap:Int))/\
 (0<=(7:Int)/\(7:Int)<=(8:Int)/\(8:Int)<=(a.2.1.cap:Int))/\
 (0<=(8:Int)/\(8:Int)<=(9:Int)/\(9:Int)<=(a.2.1.cap:Int))/\
 ae xB 246 #[(.slice (if a.2.1.cap=(6:Int).toNat then a.2.1.ptr else a.2.1.ptr.map (·.add ((6:Int).toNat*1))) ((7:Int).toNat-(6:Int).toNat) (a.2.1.cap-(6:Int).toNat))] bx a0 λab x=>
 (az.ok [] x)/\
 ae xB 246 #[(.slice (if a.2.1.cap=(7:Int).toNat then a.2.1.ptr else a.2.1.ptr.map (·.add ((7:Int).toNat*1))) ((8:Int).toNat-(7:Int).toNat) (a.2.1.cap-(7:Int).toNat))] bx x λah y=>
 (az.ok [] y)/\
 ae xB 246 #[(.slice (if a.2.1.cap=(8:Int).toNat then a.2.1.ptr else a.2.1.ptr.map (·.add ((8:Int).toNat*1))) ((9:Int).toNat-(8:Int).toNat) (a.2.1.cap-(8:Int).toNat))] bx y λa5 N=>
 (az.ok [] N)/\
 ag xB (qf 24 (b.add 3) (xw #[ab,ah,a5])) N λ_ p=>
 (az.ok [] p)/\
 K3 () p))
 (λQ=>
 (0<=(3:Int)/\(3:Int)<=(a.2.1.cap:Int))/\
 (0<=(3:Int)/\(3:Int)<=(4:Int)/\(4:Int)<=(a.2.1.cap:Int))/\
 (0<=(4:Int)/\(4:Int)<=(6:Int)/\(6:Int)<=(a.2.1.cap:Int))/\
 (ae xB 246 #[(xr a.2.1.ptr ((3:Int).toNat) a.2.1.cap)] bx h5 λT U=>
 (az.ok [] U)/\
 (ae xB 246 #[(.slice (if a.2.1.cap=(3:Int).toNat then a.2.1.ptr else a.2.1.ptr.map (·.add ((3:Int).toNat*1))) ((4:Int).toNat-(3:Int).toNat) (a.2.1.cap-(3:Int).toNat))] bx U λr7 S=>
 (az.ok [] S)/\
 (ae xB 246 #[(.slice (if a.2.1.cap=(4:Int).toNat then a.2.1.ptr else a.2.1.ptr.map (·.add ((4:Int).toNat*1))) ((6:Int).toNat-(4:Int).toNat) (a.2.1.cap-(4:Int).toNat))] bx S λr8 h8=>
 (az.ok [] h8)/\
 aS xB (qL 170 eL (.tuple #[])) h8 λa9 h9=>
 (az.ok [] h9)/\
 ag xB (qf 170 a9 (xw #[T,r7,r8,(xq xx 0),(xq xx 0),(xq xx 0),(xq xz 0),(xr eH 0 0)])) h9 λ_ J=>
 (az.ok [] J)/\
 Q a9 J)/\(aS xB (qL 170 eL (.tuple #[])) S λq K=>
 (az.ok [] K)/\
 ae xB 246 #[(.slice (if a.2.1.cap=(4:Int).toNat then a.2.1.ptr else a.2.1.ptr.map (·.add ((4:Int).toNat*1))) ((6:Int).toNat-(4:Int).toNat) (a.2.1.cap-(4:Int).toNat))] bx K λZ D=>
 (az.ok [] D)/\
 ag xB (qf 170 q (xw #[T,r7,Z,(xq xx 0),(xq xx 0),(xq xx 0),(xq xz 0),(xr eH 0 0)])) D λ_ F=>
 (az.ok [] F)/\
 Q q F))/\(aS xB (qL 170 eL (.tuple #[])) U λv r=>
 (az.ok [] r)/\
 ae xB 246 #[(.slice (if a.2.1.cap=(3:Int).toNat then a.2.1.ptr else a.2.1.ptr.map (·.add ((3:Int).toNat*1))) ((4:Int).toNat-(3:Int).toNat) (a.2.1.cap-(3:Int).toNat))] bx r λar u=>
 (az.ok [] u)/\
 ae xB 246 #[(.slice (if a.2.1.cap=(4:Int).toNat then a.2.1.ptr else a.2.1.ptr.map (·.add ((4:Int).toNat*1))) ((6:Int).toNat-(4:Int).toNat) (a.2.1.cap-(4:Int).toNat))] bx u λY H=>
 (az.ok [] H)/\
 ag xB (qf 170 v (xw #[T,ar,Y,(xq xx 0),(xq xx 0),(xq xx 0),(xq xz 0),(xr eH 0 0)])) H λ_ z=>
 (az.ok [] z)/\
 Q v z))/\(aS xB (qL 170 eL (.tuple #[])) h5 λP B=>
 (az.ok [] B)/\
 ae xB 246 #[(xr a.2.1.ptr ((3:Int).toNat) a.2.1.cap)] bx B λV s=>
 (az.ok [] s)/\
 ae xB 246 #[(.slice (if a.2.1.cap=(3:Int).toNat then a.2.1.ptr else a.2.1.ptr.map (·.add ((3:Int).toNat*1))) ((4:Int).toNat-(3:Int).toNat) (a.2.1.cap-(3:Int).toNat))] bx s λa3 I=>
 (az.ok [] I)/\
 ae xB 246 #[(.slice (if a.2.1.cap=(4:Int).toNat then a.2.1.ptr else a.2.1.ptr.map (·.add ((4:Int).toNat*1))) ((6:Int).toNat-(4:Int).toNat) (a.2.1.cap-(4:Int).toNat))] bx I λap O=>
 (az.ok [] O)/\
 ag xB (qf 170 P (xw #[V,a3,ap,(xq xx 0),(xq xx 0),(xq xx 0),(xq xz 0),(xr eH 0 0)])) O λ_ t=>
 (az.ok [] t)/\
 Q P t)))
 (λK1=>
 Br (!a.2.2) (ag xB (qf 170 f (xw #[(xq xx 0),(xq xx 0),(xq xx 0),(xq xx 0),(xq xx 0),(xq xx 0),(xq xz 0),(xr eH 0 0)])) X λ_ h3=>
 ∃g:fg,aq h3 f 0 g/\
 R (.tuple #[g,eR]) h3) (Br (a.1 !=1)
 (ag xB (qf 170 f (xw #[(xq xx 0),(xq xx 0),(xq xx 0),(xq xx 0),(xq xx 0),(xq xx 0),(xq xz 0),(xr eH 0 0)])) X λ_ h4=>
 ∃i:fg,aq h4 f 0 i/\
 R (.tuple #[i,eR]) h4)
 (K1 () X)))
theorem Ns(a:Sl)(b:@Gm R h a):ac xB 194 #[a] h R:=aw af func194 (an.tn (an.tn (.two (.join [] [(3,4),(14,21)] .n) (.two (.join [(7,(.sc .adr))] [(7,8),(21,31)] .n) (.two (.join [] [(31,42)] .n) .n))))) b
noncomputable def Gn(c:cQ)(a:fg):Prop:=
 aS xB (qM 44 c) h λf o=>
 aS xB (qM 170 a) o λd j=>
 bm (σ:=Unit) (λ_ k=>
 bi k (f.add 7) λp=>
 ae xB 165 #[p,(.func (.func 247) #[] #[d])] bN k λb l=>
 R b l)
 (λn=>
 ∃x3:fg,aq j d 0 x3/\
 ae xB 184 #[x3] bN j λm h3=>
 Br (!m) (R eR h3) (∃e:bR,aq h3 (d.add 3) 0 e/\
 ∃g:bR,aq h3 (f.add 2) 0 g/\
 ∃i:Bool,(kK xB .neq 24 (.tmp 10) (.tmp 12) e g (xv i))/\
 Br i
 (R eR h3)
 (n () h3)))
theorem Nt(b:cQ)(a:fg)(c:@Gn R h b a):ac xB 195 #[b,a] h R:=aw af func195 (an.tn (.two (.join [] [(4,15)] .n) .n)) c
noncomputable def gx(b:Sl)(a:cN):Prop:=
 ae xB 248 #[b,(xq xx (b.len:Int)),(.func (.func a.1) a.2.1 a.2.2)] il h λ_ c=>
 R (.tuple #[]) c
theorem ky(b:Sl)(a:cN)(c:@gx R h b a):ac xB 196 #[b,(.func (.func a.1) a.2.1 a.2.2)] h R:=aw af func196 .n c
noncomputable def If(l:fg)(i:fg):Prop:=
 aS xB (qM 170 l) h λc s=>
 aS xB (qM 170 i) s λb a=>
 aZ a c λx3=>
 aZ a b λu=>
 aZ a (c.add 1) λp=>
 aZ a (b.add 1) λq=>
 aZ a (c.add 2) λe=>
 aZ a (b.add 2) λj=>
 ae xB 183 #[x3,u] bx a λt h3=>
 (az.ok [(b.add 2,j),(c.add 2,e),(b.add 1,q),(c.add 1,p)] h3)/\
 ae xB 183 #[p,q] bx h3 λd o=>
 (az.ok [(b.add 2,j),(c.add 2,e)] o)/\
 ae xB 183 #[e,j] bx o λg r=>
 (az.ok [] r)/\
 aB xB (qq 22 3 #[(0,t),(1,d),(2,g)]) aI r λf n=>
 (az.ok [] n)/\
 ae xB 181 #[f] bx n λk m=>
 (az.ok [] m)/\
 R k m
theorem Pz(a:fg)(b:fg)(c:@If R h a b):ac xB 197 #[a,b] h R:=aw af func197 .n c
noncomputable def gV(a:Sl)(c:cN):Prop:=
 Br ((a.len:Int)<2)
 (R a h)
 (aL (σ:=Int) (λe v m=>
 Br (e<(a.len:Int))
 (aR a e λu=>
 ∃x3:fg,aq m (u.add (e.toNat*8)) 0 x3/\
 aR a (qc xx (e-1)) λa4=>
 ∃g:fg,aq m (a4.add ((qc xx (e-1)).toNat*8)) 0 g/\
 iC C c.1 (c.2.1.toList++[(xw #[x3.1,x3.2.1,x3.2.2.1,x3.2.2.2.1,x3.2.2.2.2.1,x3.2.2.2.2.2.1,(xq xz x3.2.2.2.2.2.2.1),x3.2.2.2.2.2.2.2]),(xw #[g.1,g.2.1,g.2.2.1,g.2.2.2.1,g.2.2.2.2.1,g.2.2.2.2.2.1,(xq xz g.2.2.2.2.2.2.1),g.2.2.2.2.2.2.2])]++c.2.2.toList) bN m λs o=>
 (az.ok [] o)/\
 Br s
 ((0<=e/\e<=(a.len:Int))/\
 aL (σ:=Int×Int) (λb r h3=>
 Br (decide (b.2<(((a.len-e.toNat):Nat):Int)))
 (∃q:eX,((if a.cap=e.toNat then a.ptr else a.ptr.map (·.add (e.toNat*8)))=dB q/\0<=b.2/\b.2<(((a.len-e.toNat):Nat):Int))/\
 ∃f:fg,aq h3 (q.add (b.2.toNat*8)) 0 f/\
 ∃j:eX,((if a.cap=e.toNat then a.ptr else a.ptr.map (·.add (e.toNat*8)))=dB j/\0<=(qc xx (b.2-1))/\(qc xx (b.2-1))<(((a.len-e.toNat):Nat):Int))/\
 ∃d:fg,aq h3 (j.add ((qc xx (b.2-1)).toNat*8)) 0 d/\
 iC C c.1 (c.2.1.toList++[(xw #[f.1,f.2.1,f.2.2.1,f.2.2.2.1,f.2.2.2.2.1,f.2.2.2.2.2.1,(xq xz f.2.2.2.2.2.2.1),f.2.2.2.2.2.2.2]),(xw #[d.1,d.2.1,d.2.2.1,d.2.2.2.1,d.2.2.2.2.1,d.2.2.2.2.2.1,(xq xz d.2.2.2.2.2.2.1),d.2.2.2.2.2.2.2])]++c.2.2.toList) bN h3 λn l=>
 (az.ok [] l)/\
 Br (!n)
 (∃k:eX,((if a.cap=e.toNat then a.ptr else a.ptr.map (·.add (e.toNat*8)))=dB k/\0<=b.2/\b.2<(((a.len-e.toNat):Nat):Int))/\
 ∃i:fg,aq l (k.add (b.2.toNat*8)) 0 i/\
 aR a b.1 λp=>
 ag xB (qf 170 (p.add (b.1.toNat*8)) i) l λ_ w=>
 r (qc xx (b.1+1),qc xx (b.2+1)) w)
 (r (b.1,qc xx (b.2+1)) l))
 ((0<=b.1/\b.1<=(a.len:Int))/\
 ag xB (yK #[189] 0 #[(.slice (if a.cap=b.1.toNat then a.ptr else a.ptr.map (·.add (b.1.toNat*8))) (a.len-b.1.toNat) (a.cap-b.1.toNat))]) h3 λ_ t=>
 (0<=b.1/\b.1<=(a.cap:Int))/\
 R (xr a.ptr b.1.toNat a.cap) t)) (e,(1:Int)) o)
 (v (qc xx (e+1)) o))
 (R a m)) (1:Int) h)
theorem ly(b:Sl)(a:cN)(c:@gV R h b a):ac xB 198 #[b,(.func (.func a.1) a.2.1 a.2.2)] h R:=aw af func198 (an.tn (an.tn (.two (an.tn (.inn (.loop [(5,ba)] [(4,8),(12,65)] (an.tn (.two (.inn (an.tn (.two (an.tn (.two (an.tn (.inn (.loop [(5,ba),(7,ba)] [(5,6),(7,8),(32,59)] .n))) .n)) .n))) .n))))) .n))) c
noncomputable def AM(c:fg)(a:fg):Prop:=
 aS xB (qM 170 c) h λe f=>
 aS xB (qM 170 a) f λg b=>
 ∃x3:fg,aq b e 0 x3/\
 ∃d:fg,aq b g 0 d/\
 ae xB 197 #[x3,d] bx b λi h3=>
 R (xv (i==0)) h3
theorem Ig(a:fg)(b:fg)(c:@AM R h a b):ac xB 199 #[a,b] h R:=aw af func199 .n c
noncomputable def QG(a:Sl):Prop:=
 aL (σ:=Int) (λc e b=>
 Br (c<(a.len:Int))
 (aR a c λf=>
 bi b (f.add (c.toNat*1)) λx3=>
 aR a (0:Int) λa4=>
 bi b (a4.add ((0:Int).toNat*1)) λd=>
 Br ((x3.len:Int) !=(d.len:Int)) (R eR b) (Br ((x3.len:Int)>64)
 (R eR b)
 (e (qc xx (c+1)) b)))
 (R eL b)) (0:Int) h
theorem Wq(a:Sl)(b:@QG R h a):ac xB 200 #[a] h R:=aw af func200 (an.tn (.two (an.tn (.inn (.loop [(7,ba)] [(2,3),(4,5),(7,24)] .n))) .n)) b
noncomputable def QH(a:Sl):Prop:=
 aB xB (qF 85 (xq xx 0) (xq xx (a.len:Int))) aI h λd m=>
 aL (σ:=Sl×Int) (λb j c=>
 Br (b.2<(a.len:Int))
 (aR a b.2 λa3=>
 bi c (a3.add (b.2.toNat*1)) λi=>
 ae xB 146 #[i] aI c λf h3=>
 aB xB (qq 85 1 #[(0,f)]) aI h3 λk l=>
 aB xB (qt #[85,85] 85 #[b.1,k]) aI l λe g=>
 j ((⟨e.ptr,e.len,e.cap⟩:Sl),qc xx (b.2+1)) g)
 (R b.1 c)) ((⟨d.ptr,d.len,d.cap⟩:Sl),(0:Int)) m
theorem Wr(a:Sl)(b:@QH R h a):ac xB 201 #[a] h R:=aw af func201 (an.tn (an.tn (.two (an.tn (.inn (.loop [(3,cA),(11,ba)] [(3,4),(5,6),(11,21)] .n))) .n))) b
noncomputable def Ih(i:aO)(b:Sl)(e:Int):Prop:=
 aL (σ:=Int×Int) (λa G H=>
 Br (a.2<e)
 (ae xB 249 #[b,a.1,a.2] bx H λl p=>
 Br (l<0)
 (G (a.1,qc xx (a.2+1)) p)
 (bm (σ:=Unit) (λ_ q=>
 bm (σ:=Unit) (λ_ J=>
 aL (σ:=Int) (λc D d=>
 Br (c<(b.len:Int))
 (Br (c !=a.1)
 (aR b c λj=>
 bi d (j.add (c.toNat*1)) λn=>
 aR n a.2 λx=>
 gg .u8 d (x.add (a.2.toNat*1)) λr=>
 aR b a.1 λa25=>
 bi d (a25.add (a.1.toNat*1)) λs=>
 aR b c λt=>
 bi d (t.add (c.toNat*1)) λw=>
 ae xB 252 #[i,(xq xy r),s,w] il d λ_ o=>
 (az.ok [(j.add (c.toNat*1),n)] o)/\
 D (qc xx (c+1)) o)
 (D (qc xx (c+1)) d))
 (G (qc xx (a.1+1),qc xx (a.2+1)) d)) (0:Int) J)
 (λM=>
 aR b a.1 λg=>
 bi q (g.add (a.1.toNat*1)) λf=>
 aR f a.2 λv=>
 gg .u8 q (v.add (a.2.toNat*1)) λz=>
 aR b a.1 λm=>
 bi q (m.add (a.1.toNat*1)) λk=>
 ae xB 251 #[i,(xq xy z)] (.one (.sc (.int .u8))) q λu E=>
 (az.ok [(m.add (a.1.toNat*1),k),(g.add (a.1.toNat*1),f)] E)/\
 ae xB 250 #[i,(xq xy u),k] aI E λA B=>
 (az.ok [(g.add (a.1.toNat*1),f)] B)/\
 aR b a.1 λy=>
 ag xB (qf 34 (y.add (a.1.toNat*1)) A) B λ_ h8=>
 (az.ok [] h8)/\
 M () h8))
 (λK=>
 aR b l λa3=>
 bi p (a3.add (l.toNat*1)) λO=>
 aR b a.1 λa5=>
 bi p (a5.add (a.1.toNat*1)) λN=>
 aR b a.1 λL=>
 ag xB (qf 34 (L.add (a.1.toNat*1)) O) p λ_ h3=>
 (az.ok [] h3)/\
 aR b l λI=>
 ag xB (qf 34 (I.add (l.toNat*1)) N) h3 λ_ F=>
 (az.ok [] F)/\
 K () F)))
 (R a.1 H)) ((0:Int),(0:Int)) h
theorem PA(c:aO)(b:Sl)(a:Int)(d:@Ih R h c b a):ac xB 202 #[c,b,a] h R:=aw af func202 (an.tn (an.tn (.two (an.tn (.inn (.loop [(7,ba),(12,ba)] [(7,11),(12,82)] (an.tn (an.tn (.two (.inn (an.tn (an.tn (an.tn (.two (.join [] [(21,35)] .n) (.two (.join [] [(35,53)] .n) (.two (an.tn (.inn (.loop [(55,ba)] [(10,11),(55,79)] .n))) .n))))))) .n)))))) .n))) d
noncomputable def Nu(a:aO):Prop:=
 Br (qS a)
 (ae xB 65 #[] iP h λc b=>
 R c b)
 (R a h)
theorem Uk(a:aO)(b:@Nu R h a):ac xB 203 #[a] h R:=aw af func203 .n b
noncomputable def KA(a:Sl):Prop:=
 Br ((a.len:Int)==0)
 (R (xq xx 0) h)
 (aR a (0:Int) λb=>
 bi h (b.add ((0:Int).toNat*1)) λx2=>
 R (xq xx (x2.len:Int)) h)
theorem RU(a:Sl)(b:@KA R h a):ac xB 204 #[a] h R:=aw af func204 .n b
noncomputable def Nv(c:Int)(b:Int):Prop:=
 aL (σ:=bR) (λa j d=>
 Br (a.2.1==0)
 (R (xq xy a.2.2) d)
 (bm (σ:=Int) (λk f=>
 (0<=(1:Int))/\
 bm (σ:=Int) (λi h3=>
 (0<=(1:Int))/\
 j (i,qX a.2.1 (2^min (1:Int).toNat (qk xy)),k) h3)
 (λg=>
 Br ((qc xy ((qD (qk xy) a.1&&&(qD (qk xy) (128:Int))).toNat:Nat)) !=0)
 (g (qc xy ((qD (qk xy) (qc xy (a.1*2^min (1:Int).toNat (qk xy)))^^^(qD (qk xy) (27:Int))).toNat:Nat)) f)
 (g (qc xy (a.1*2^min (1:Int).toNat (qk xy))) f)))
 (λe=>
 Br ((qc xy ((qD (qk xy) a.2.1&&&(qD (qk xy) (1:Int))).toNat:Nat))==1)
 (e (qc xy ((qD (qk xy) a.2.2^^^(qD (qk xy) a.1)).toNat:Nat)) d)
 (e a.2.2 d)))) (c,b,(0:Int)) h
theorem Ul(a:Int)(b:Int)(c:@Nv R h a b):ac xB 205 #[(xq xy a),(xq xy b)] h R:=aw af func205 (an.tn (.scope 0 [(0,(.sc (.int .u8))),(1,(.sc (.int .u8))),(5,(.sc (.int .u8)))] [(0,2),(4,26)] [.n] [(an.tn (.two (.join [(5,(.sc (.int .u8)))] [(5,6),(10,16)] .n) (an.tn (an.tn (.two (.join [(0,(.sc (.int .u8)))] [(0,1),(21,24)] .n) .n)))))] [])) c
noncomputable def DH(a:aO):Prop:=
 Br (qS a)
 (ae xB 65 #[] iP h λc b=>
 R c b)
 (R a h)
theorem LC(a:aO)(b:@DH R h a):ac xB 206 #[a] h R:=aw af func206 .n b
noncomputable def Nw(a:aO)(d:Int)(b:Sl)(c:Sl):Prop:=
 ae xB 250 #[a,(xq xy d),b] aI h λi g=>
 ae xB 253 #[i,c] (.many [cA,kB]) g λe f=>
 R (.tuple #[e.1,e.2]) f
theorem Um(a:aO)(d:Int)(b:Sl)(c:Sl)(e:@Nw R h a d b c):ac xB 207 #[a,(xq xy d),b,c] h R:=aw af func207 .n e
noncomputable def lT(b:Sl)(a:cN):Prop:=
 aL (σ:=Int) (λc g d=>
 Br (c<(b.len:Int))
 (aR b c λi=>
 gg .u8 d (i.add (c.toNat*1)) λx3=>
 iC C a.1 (a.2.1.toList++[(xq xy x3)]++a.2.2.toList) bN d λf e=>
 Br f
 (R c e)
 (g (qc xx (c+1)) e))
 (R (xq xx (-1:Int)) d)) (0:Int) h
theorem rL(b:Sl)(a:cN)(c:@lT R h b a):ac xB 208 #[b,(.func (.func a.1) a.2.1 a.2.2)] h R:=aw af func208 (an.tn (.two (an.tn (.inn (.loop [(8,ba)] [(4,6),(8,19)] .n))) .n)) c
noncomputable def Ii(a:Int):Prop:=
 R (xv (a !=0)) h
theorem PB(a:Int)(b:@Ii R h a):ac xB 209 #[(xq xy a)] h R:=aw af func209 .n b
noncomputable def AN(b:aO):Prop:=
 Br (qS b)
 (R (xr eH 0 0) h)
 (∃e,(b=dB e)/\
 bi h (e.add 2) λx2=>
 aL (σ:=Sl×Int) (λa k d=>
 Br (a.2<(x2.len:Int))
 (aR x2 a.2 λa4=>
 bi d (a4.add (a.2.toNat*1)) λf=>
 ae xB 146 #[f] aI d λj g=>
 aB xB (qq 85 1 #[(0,j)]) aI g λi h3=>
 aB xB (qt #[85,85] 85 #[a.1,i]) aI h3 λc l=>
 k ((⟨c.ptr,c.len,c.cap⟩:Sl),qc xx (a.2+1)) l)
 (R a.1 d)) ((⟨eH,0,0⟩:Sl),(0:Int)) h)
theorem Ij(a:aO)(b:@AN R h a):ac xB 210 #[a] h R:=aw af func210 (an.tn (an.tn (an.tn (.two (an.tn (.inn (.loop [(3,cA),(13,ba)] [(3,4),(5,6),(13,23)] .n))) .n)))) b
noncomputable def pN(a:Int):Prop:=
 aB xB (qq 37 5 #[(0,ahr),(1,ahs),(2,Zj),(3,aht),(4,HK)]) aI h λd f=>
 ae xB 12 #[a,(xq xx 5)] bx f λc b=>
 aR d c λa3=>
 FQ b (a3.add (c.toNat*1)) λe=>
 R e b
theorem Bw(a:Int)(b:@pN R h a):ac xB 211 #[a] h R:=aw af func211 .n b
noncomputable def oM(c:Int)(a:eX):Prop:=
 aZ h a λb=>
 R b h
theorem AO(b:Int)(a:eX)(c:@oM R h b a):ac xB 212 #[b,a] h R:=aw af func212 .n c
noncomputable def QI(c:Sl):Prop:=
 aL (σ:=Int×Int) (λb g e=>
 Br (b.2<(c.len:Int))
 (aR c b.2 λi=>
 gg .u8 e (i.add (b.2.toNat*1)) λx3=>
 aL (σ:=Int×Int) (λa f d=>
 Br (a.2<8)
 ((0<=(1:Int))/\
 Br ((qc xz ((qD (qk xz) a.1&&&(qD (qk xz) (1:Int))).toNat:Nat))==1)
 (f (qc xz ((qD (qk xz) (qX a.1 (2^min (1:Int).toNat (qk xz)))^^^(qD (qk xz) (3988292384:Int))).toNat:Nat),qc xx (a.2+1)) d)
 (f (qX a.1 (2^min (1:Int).toNat (qk xz)),qc xx (a.2+1)) d))
 (g (a.1,qc xx (b.2+1)) d)) (qc xz ((qD (qk xz) b.1^^^(qD (qk xz) (qc xz x3))).toNat:Nat),(0:Int)) e)
 (R (xq xz (qc xz ((qD (qk xz) (4294967295:Int)^^^(qD (qk xz) b.1)).toNat:Nat))) e)) ((4294967295:Int),(0:Int)) h
theorem Ws(a:Sl)(b:@QI R h a):ac xB 213 #[a] h R:=aw af func213 (an.tn (an.tn (.two (an.tn (.inn (.loop [(3,(.sc (.int .u32))),(9,ba)] [(3,4),(5,7),(9,29)] (an.tn (an.tn (.two (.inn (an.tn (an.tn (an.tn (.inn (.loop [(3,(.sc (.int .u32))),(17,ba)] [(3,4),(6,7),(17,28)] .n)))))) .n)))))) .n))) b
noncomputable def io(b:Sl)(a:cN):Prop:=
 aL (σ:=Int) (λc g d=>
 Br (c<(b.len:Int))
 (aR b c λi=>
 ∃x3:Int×Sl,aq d (i.add (c.toNat*2)) 0 x3/\
 iC C a.1 (a.2.1.toList++[(xw #[x3.1,x3.2])]++a.2.2.toList) bN d λf e=>
 Br f
 (R c e)
 (g (qc xx (c+1)) e))
 (R (xq xx (-1:Int)) d)) (0:Int) h
theorem lU(b:Sl)(a:cN)(c:@io R h b a):ac xB 215 #[b,(.func (.func a.1) a.2.1 a.2.2)] h R:=aw af func215 (an.tn (.two (an.tn (.inn (.loop [(8,ba)] [(4,6),(8,19)] .n))) .n)) c
noncomputable def KB(b:Int)(c:Sl):Prop:=
 ae xB 263 #[b,c] bN h λQ y=>
 Br (!Q)
 (R (.tuple #[(xr eH 0 0),(xr eH 0 0),(xr eH 0 0),(xq xx 1)]) y)
 (bm (σ:=aO) (λp h8=>
 ae xB 264 #[p] il h8 λ_ M=>
 aL (σ:=Sl×Int) (λa G e=>
 Br (a.2<(c.len:Int))
 (aR c a.2 λr=>
 ∃l:Sl×Sl,aq e (r.add (a.2.toNat*2)) 0 l/\
 aS xB (qL 275 eL (.tuple #[])) e λk B=>
 ag xB (qf 275 k l) B λ_ o=>
 ∃i:Sl×Sl,aq o k 0 i/\
 ae xB 265 #[p,i] (.one (.agg [.slc,.slc])) o λq x=>
 aS xB (qL 275 eL (.tuple #[])) x λf t=>
 ag xB (qf 275 f q) t λ_ d=>
 bi d f λE=>
 Br ((E.len:Int)>0)
 (∃j:Sl×Sl,aq d f 0 j/\
 aB xB (qq 273 1 #[(0,j)]) aI d λv A=>
 aB xB (qt #[273,273] 273 #[a.1,v]) aI A λg w=>
 G ((⟨g.ptr,g.len,g.cap⟩:Sl),qc xx (a.2+1)) w)
 (bi d (f.add 1) λz=>
 ae xB 266 #[z] bN d λD n=>
 Br (!D)
 (R (.tuple #[(xr eH 0 0),(xr eH 0 0),(xr eH 0 0),(xq xx 10)]) n)
 (G ((⟨a.1.ptr,a.1.len,a.1.cap⟩:Sl),qc xx (a.2+1)) n)))
 (∃m,(p=dB m)/\
 bi e (m.add 1) λs=>
 ∃a25,(p=dB a25)/\
 bi e (a25.add 2) λu=>
 R (.tuple #[s,u,a.1,(xq xx 0)]) e)) ((⟨eH,0,0⟩:Sl),(0:Int)) M)
 (λK=>
 (aB xB (qF 282 b b) aI y λP I=>
 (az.ok [] I)/\
 aB xB (qF 85 b b) aI I λv3 h3=>
 (az.ok [] h3)/\
 aS xB (qM 326 (xw #[c,P,v3])) h3 λa4 J=>
 (az.ok [] J)/\
 K (dB a4) J)/\(aB xB (qF 85 b b) aI y λv5 L=>
 (az.ok [] L)/\
 aB xB (qF 282 b b) aI L λN H=>
 (az.ok [] H)/\
 aS xB (qM 326 (xw #[c,N,v5])) H λO F=>
 (az.ok [] F)/\
 K (dB O) F)))
theorem RV(a:Int)(b:Sl)(c:@KB R h a b):ac xB 216 #[a,b] h R:=aw af func216 (an.tn (an.tn (.two (.join [(8,FR)] [(8,9),(16,23)] .n) (an.tn (.two (an.tn (.inn (.loop [(6,cA),(27,ba)] [(4,8),(10,12),(27,47)] .n))) .n))))) c
noncomputable def pO(u:aO)(b:Sl):Prop:=
 aS xB (qM 276 u) h λn B=>
 kA B n λx2=>
 ∃a3,(x2=dB a3)/\
 bi B (a3.add 5) λN=>
 aL (σ:=Sl×Int) (λd S t=>
 Br (d.2<(N.len:Int))
 (aR N d.2 λO=>
 ∃L:Sl×Sl,aq t (O.add (d.2.toNat*2)) 0 L/\
 aS xB (qL 275 eL (.tuple #[])) t λJ h3=>
 ag xB (qf 275 J L) h3 λ_ M=>
 bi M J λU=>
 aB xB (qq 51 1 #[(0,U)]) aI M λD T=>
 aB xB (qt #[51,51] 51 #[d.1,D]) aI T λg Q=>
 S ((⟨g.ptr,g.len,g.cap⟩:Sl),qc xx (d.2+1)) Q)
 (aL (σ:=Sl×Int) (λa K m=>
 Br (a.2<(b.len:Int))
 (aR b a.2 λs=>
 su m (s.add (a.2.toNat*1)) λo=>
 Br o
 (aB xB (qq 22 1 #[(0,a.2)]) aI m λI h8=>
 aB xB (qq 51 1 #[(0,I)]) aI h8 λq P=>
 aB xB (qt #[51,51] 51 #[a.1,q]) aI P λe F=>
 K ((⟨e.ptr,e.len,e.cap⟩:Sl),qc xx (a.2+1)) F)
 (K ((⟨a.1.ptr,a.1.len,a.1.cap⟩:Sl),qc xx (a.2+1)) m))
 (ae xB 267 #[(xq xx (b.len:Int)),a.1] (.many [(.agg [.slc,.slc,.slc]),kB]) m λz G=>
 aS xB (qL 279 eL (.tuple #[])) G λc y=>
 ag xB (qf 279 c z.1) y λ_ k=>
 bi k c λv=>
 ae xB 268 #[v,(.func (.func 269) #[] #[n])] aI k λw r=>
 ag xB (qf 277 c w) r λ_ i=>
 bi i (c.add 2) λH=>
 ae xB 270 #[H,(.func (.func 271) #[] #[n])] aI i λA E=>
 ag xB (qf 22 (c.add 2) A) E λ_ f=>
 kA f n λp=>
 ∃l:Sl×Sl×Sl,aq f c 0 l/\
 ∃j,(p=dB j)/\
 ag xB (qf 279 (j.add 6) l) f λ_ x=>
 R (.tuple #[]) x)) ((⟨d.1.ptr,d.1.len,d.1.cap⟩:Sl),(0:Int)) t)) ((⟨eH,0,0⟩:Sl),(0:Int)) B
theorem Bx(b:aO)(a:Sl)(c:@pO R h b a):ac xB 217 #[b,a] h R:=aw af func217 (an.tn (an.tn (.two (an.tn (.inn (.loop [(4,cA),(16,ba)] [(4,5),(6,7),(16,26)] .n))) (.two (an.tn (.inn (.loop [(4,cA),(28,ba)] [(4,5),(7,9),(28,40)] .n))) .n)))) c
noncomputable def pP(a:aO):Prop:=
 ∃a1,(a=dB a1)/\
 bi h ((a1.add 6).add 1) λx2=>
 bm (σ:=Unit) (λ_ V=>
 ∃U,(a=dB U)/\
 bi V ((U.add 6).add 1) λao=>
 aL (σ:=Int) (λg K2 d=>
 Br (g<(ao.len:Int))
 (aR ao g λb2=>
 aZ d (b2.add (g.toNat*1)) λb=>
 bm (σ:=Unit) (λ_ E=>
 ∃a6,(a=dB a6)/\
 bi E (a6.add 9) λcd=>
 aR cd b λcp=>
 bi E (cp.add (b.toNat*1)) λb1=>
 aR b1 g λcc=>
 ag xB (qf 5 (cc.add (g.toNat*1)) (xq xy 1)) E λ_ b9=>
 K2 (qc xx (g+1)) b9)
 (λK3=>
 ∃j,(a=dB j)/\
 bi d (j.add 9) λi=>
 ∃a25,(a=dB a25)/\
 bi d (a25.add 10) λe=>
 ∃t,(a=dB t)/\
 aZ d ((t.add 1).add 2) λf=>
 (aB xB (qF 34 (xq xx (x2.len:Int)) (xq xx (x2.len:Int))) aI d λK x=>
 (az.ok [((t.add 1).add 2,f),(a25.add 10,e),(j.add 9,i)] x)/\
 aR i b λap=>
 (aB xB (qF 34 f f) aI x λcl am=>
 (az.ok [(a25.add 10,e),(j.add 9,i)] am)/\
 ag xB (qf 34 (ap.add (b.toNat*1)) K) am λ_ Y=>
 (az.ok [] Y)/\
 aR e b λc0=>
 ag xB (qf 34 (c0.add (b.toNat*1)) cl) Y λ_ a2=>
 (az.ok [] a2)/\
 K3 () a2)/\(ag xB (qf 34 (ap.add (b.toNat*1)) K) x λ_ bb=>
 (az.ok [] bb)/\
 aB xB (qF 34 f f) aI bb λb6 H=>
 (az.ok [] H)/\
 aR e b λcs=>
 ag xB (qf 34 (cs.add (b.toNat*1)) b6) H λ_ ar=>
 (az.ok [] ar)/\
 K3 () ar))/\(aB xB (qF 34 f f) aI d λb0 bq=>
 (az.ok [(a25.add 10,e),(j.add 9,i)] bq)/\
 aB xB (qF 34 (xq xx (x2.len:Int)) (xq xx (x2.len:Int))) aI bq λc2 ah=>
 (az.ok [(a25.add 10,e),(j.add 9,i)] ah)/\
 aR i b λcq=>
 ag xB (qf 34 (cq.add (b.toNat*1)) c2) ah λ_ bd=>
 (az.ok [] bd)/\
 aR e b λbs=>
 ag xB (qf 34 (bs.add (b.toNat*1)) b0) bd λ_ Q=>
 (az.ok [] Q)/\
 K3 () Q)))
 (∃a45,(a=dB a45)/\
 bi d (a45.add 6) λad=>
 aL (σ:=Int) (λp K4 w=>
 Br (p<(ad.len:Int))
 (aR ad p λbr=>
 ∃I:Int×Int,aq w (br.add (p.toNat*2)) 0 I/\
 aS xB (qL 332 eL (.tuple #[])) w λa50 c1=>
 ag xB (qf 332 a50 I) c1 λ_ o=>
 bm (σ:=eX) (λA z=>
 bm (σ:=Sl×Sl) (λq M=>
 bi M A λbk=>
 aL (σ:=Int) (λk K7 c=>
 Br (k<(bk.len:Int))
 (aR bk k λa66=>
 aZ c (a66.add (k.toNat*1)) λN=>
 aZ c (a50.add 1) λcr=>
 Br (N !=cr)
 (ae xB 272 #[a,(xq xy 1),N,q.1,q.2] il c λ_ b7=>
 K7 (qc xx (k+1)) b7)
 (K7 (qc xx (k+1)) c))
 (∃a70,(a=dB a70)/\
 bi c (a70.add 9) λb4=>
 aZ c (a50.add 1) λX=>
 ∃bl,(a=dB bl)/\
 bi c (bl.add 10) λb5=>
 aZ c (a50.add 1) λD=>
 aR b4 X λa76=>
 ag xB (qf 34 (a76.add (X.toNat*1)) q.1) c λ_ a7=>
 (az.ok [(a50.add 1,D)] a7)/\
 aR b5 D λa77=>
 ag xB (qf 34 (a77.add (D.toNat*1)) q.2) a7 λ_ L=>
 (az.ok [] L)/\
 K4 (qc xx (p+1)) L)) (0:Int) M)
 (λK6=>
 bi z (A.add 1) λu=>
 (aB xB (qF 34 (xq xx (x2.len:Int)) (xq xx (x2.len:Int))) aI z λy J=>
 (az.ok [(A.add 1,u)] J)/\
 ae xB 146 #[u] aI J λB ax=>
 (az.ok [] ax)/\
 K6 ((⟨y.ptr,y.len,y.cap⟩:Sl),(⟨B.ptr,B.len,B.cap⟩:Sl)) ax)/\(ae xB 146 #[u] aI z λs a4=>
 (az.ok [] a4)/\
 aB xB (qF 34 (xq xx (x2.len:Int)) (xq xx (x2.len:Int))) aI a4 λF S=>
 (az.ok [] S)/\
 K6 ((⟨F.ptr,F.len,F.cap⟩:Sl),(⟨s.ptr,s.len,s.cap⟩:Sl)) S)))
 (λK5=>
 ∃a51,(a=dB a51)/\
 bi o (a51.add 5) λa9=>
 aZ o a50 λl=>
 aR a9 l λv=>
 ∃n:Sl×Sl,aq o (v.add (l.toNat*2)) 0 n/\
 aS xB (qL 275 eL (.tuple #[])) o λay T=>
 (az.ok [(v.add (l.toNat*2),n.1),((v.add (l.toNat*2)).add 1,n.2),(a50,l),(a51.add 5,a9)] T)/\
 ag xB (qf 275 ay n) T λ_ G=>
 (az.ok [] G)/\
 K5 ay G))
 (R (.tuple #[]) w)) (0:Int) d)) (0:Int) V)
 (λK1=>
 ∃a3,(a=dB a3)/\
 bi h (a3.add 4) λr=>
 ∃a5,(a=dB a5)/\
 bi h (a5.add 4) λm=>
 (aB xB (qF 85 (xq xx (r.len:Int)) (xq xx (r.len:Int))) aI h λv7 h1=>
 (az.ok [(a5.add 4,m),(a3.add 4,r)] h1)/\
 ∃a8,(a=dB a8)/\
 (aB xB (qF 85 (xq xx (m.len:Int)) (xq xx (m.len:Int))) aI h1 λv9 h2=>
 (az.ok [(a5.add 4,m),(a3.add 4,r)] h2)/\
 ag xB (qf 85 (a8.add 9) v7) h2 λ_ h3=>
 (az.ok [] h3)/\
 ∃O,(a=dB O)/\
 ag xB (qf 85 (O.add 10) v9) h3 λ_ h4=>
 (az.ok [] h4)/\
 K1 () h4)/\(ag xB (qf 85 (a8.add 9) v7) h1 λ_ h5=>
 (az.ok [] h5)/\
 aB xB (qF 85 (xq xx (m.len:Int)) (xq xx (m.len:Int))) aI h5 λcf h6=>
 (az.ok [] h6)/\
 ∃P,(a=dB P)/\
 ag xB (qf 85 (P.add 10) cf) h6 λ_ h7=>
 (az.ok [] h7)/\
 K1 () h7))/\(aB xB (qF 85 (xq xx (m.len:Int)) (xq xx (m.len:Int))) aI h λb3 h8=>
 (az.ok [(a5.add 4,m),(a3.add 4,r)] h8)/\
 aB xB (qF 85 (xq xx (r.len:Int)) (xq xx (r.len:Int))) aI h8 λcn h9=>
 (az.ok [(a5.add 4,m),(a3.add 4,r)] h9)/\
 ∃a0,(a=dB a0)/\
 ag xB (qf 85 (a0.add 9) cn) h9 λ_ Z=>
 (az.ok [] Z)/\
 ∃W,(a=dB W)/\
 ag xB (qf 85 (W.add 10) b3) Z λ_ ab=>
 (az.ok [] ab)/\
 K1 () ab))
theorem By(a:aO)(b:@pP R h a):ac xB 218 #[a] h R:=aw af func218 (an.tn (.two (.join [] [(18,36)] .n) (.two (an.tn (.inn (.loop [(42,ba)] [(3,5),(42,77)] (an.tn (an.tn (.two (.inn (an.tn (.two (.join [] [(47,67)] .n) .n))) .n)))))) (an.tn (.inn (.loop [(83,ba)] [(6,10),(11,12),(83,134)] (an.tn (an.tn (.two (.inn (an.tn (.two (.join [(7,(.sc .adr))] [(7,8),(87,95)] .n) (.two (.join [(8,cA),(9,cA)] [(8,10),(95,100)] .n) (.two (an.tn (.inn (.loop [(103,ba)] [(11,12),(103,117)] .n))) .n))))) .n))))))))) b
end Go.Qw
