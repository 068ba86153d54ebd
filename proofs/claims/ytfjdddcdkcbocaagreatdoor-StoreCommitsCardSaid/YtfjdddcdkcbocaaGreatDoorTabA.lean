/- Lemmas for the proof of the law; no condition. -/
import Derived.Test.YtfjdddcdkcbocaaGreatDoorPlA
import Derived.Test.YtfjdddcdkcbocaaGreatDoorProg
set_option linter.unusedVariables false
open Go.Proofs.Tryz renaming prog -> xZ
open Go.Value renaming agg -> xU, bool -> xT, int -> xP, pointer -> xR, slice -> xQ, string -> xS
open Go.IntKind renaming i64 -> xV, u32 -> xX, u64 -> xY, u8 -> xW, wrap -> qe
open List renaming replicate -> qi, toArray -> yE
open Nat renaming ble -> xE
open Go.Instr renaming box -> xn
set_option maxRecDepth 1000000
open Option renaming none -> dB
open Bool renaming false -> eL
open Go renaming Value -> eX
namespace Go.Qw
open Go.Proofs
instance:Coe Int eX:=⟨λx=>xP xV x⟩
instance:Coe Sl eX:=⟨λs=>xQ s.ptr s.len s.cap⟩
instance:Coe ByteArray eX:=⟨.string⟩
instance:Coe (Option Addr) eX:=⟨.pointer⟩
instance:Coe Addr eX:=⟨λa=>xR (some a)⟩
instance:Coe Bool eX:=⟨.bool⟩
instance:Coe (Int×Int×Int×Int×Int×Int×Sl×Sl) (List eX):=⟨λx=>[x.1,x.2.1,x.2.2.1,x.2.2.2.1,x.2.2.2.2.1,x.2.2.2.2.2.1,x.2.2.2.2.2.2.1,x.2.2.2.2.2.2.2]⟩
instance:Coe (Int×Int×Int×Int×Int×Int×Sl×Sl) eX:=⟨λx=>xU (yE x)⟩
instance:Coe (Int×Int×Int) (List eX):=⟨λx=>[x.1,x.2.1,x.2.2]⟩
instance:Coe (Int×Int×Int) eX:=⟨λx=>xU (yE x)⟩
instance:Coe (Int×ByteArray×Sl×Int×Int×Int×Int×Sl×Sl) (List eX):=⟨λx=>[x.1,x.2.1,x.2.2.1,x.2.2.2.1,x.2.2.2.2.1,x.2.2.2.2.2.1,(xP xX x.2.2.2.2.2.2.1),x.2.2.2.2.2.2.2.1,x.2.2.2.2.2.2.2.2]⟩
instance:Coe (Int×ByteArray×Sl×Int×Int×Int×Int×Sl×Sl) eX:=⟨λx=>xU (yE x)⟩
instance:Coe (ByteArray×Int×Int×Sl) (List eX):=⟨λx=>[x.1,x.2.1,x.2.2.1,x.2.2.2]⟩
instance:Coe (ByteArray×Int×Int×Sl) eX:=⟨λx=>xU (yE x)⟩
instance:Coe (Int×Int×Int×Sl) (List eX):=⟨λx=>[x.1,x.2.1,x.2.2.1,x.2.2.2]⟩
instance:Coe (Int×Int×Int×Sl) eX:=⟨λx=>xU (yE x)⟩
instance:Coe (Int×Int×Int×Int×Int×Int×Int×Sl) (List eX):=⟨λx=>[x.1,x.2.1,x.2.2.1,x.2.2.2.1,x.2.2.2.2.1,x.2.2.2.2.2.1,(xP xX x.2.2.2.2.2.2.1),x.2.2.2.2.2.2.2]⟩
instance:Coe (Int×Int×Int×Int×Int×Int×Int×Sl) eX:=⟨λx=>xU (yE x)⟩
instance:Coe (Int×Sl) (List eX):=⟨λx=>[x.1,x.2]⟩
instance:Coe (Int×Sl) eX:=⟨λx=>xU (yE x)⟩
instance:Coe (Int×Int) (List eX):=⟨λx=>[x.1,x.2]⟩
instance:Coe (Int×Int) eX:=⟨λx=>xU (yE x)⟩
instance:Coe (Sl×Sl) (List eX):=⟨λx=>[x.1,x.2]⟩
instance:Coe (Sl×Sl) eX:=⟨λx=>xU (yE x)⟩
instance:Coe (Sl×Sl×Sl) (List eX):=⟨λx=>[x.1,x.2.1,x.2.2]⟩
instance:Coe (Sl×Sl×Sl) eX:=⟨λx=>xU (yE x)⟩
abbrev ji(h:Heap)(a:Addr)(k:Int->Prop):Prop:=∃x,cellOf h a=some (xP xV x)/\k x
abbrev LdK(i:IntKind)(h:Heap)(a:Addr)(k:Int->Prop):Prop:=∃x:Int,cellOf h a=some (.int i x)/\k x
abbrev Dc(h:Heap)(a:Addr)(k:Sl->Prop):Prop:=∃x:Sl,cellOf h a=some (x:eX)/\k x
abbrev LdT(h:Heap)(a:Addr)(k:ByteArray->Prop):Prop:=∃x:ByteArray,cellOf h a=some (xS x)/\k x
abbrev BV(s:Sl)(i:Int)(k:Addr->Prop):Prop:=∃a,(s.ptr=some a/\0<=i/\i<((s.len:Nat):Int))/\k a
abbrev Zl:=Int×Int×Int
abbrev Tu1:=Int×Int×Int×Int×Int×Int×Sl×Sl
abbrev Tu2:=ByteArray×Int×Int×Sl
abbrev rtI:Rt:=.one (.sc (.int .i64))
abbrev EM:Rt:=.one (.sc .bool)
abbrev bN:Ty:=.sc .slc
abbrev aH:Ty:=.sc (.int .i64)
abbrev Zm:Ty:=.sc .ptr
abbrev mH:Ty:=.sc .bool
variable {R:vq} {h:Heap}
def aek:ByteArray:=⟨#[0]⟩
def aec:ByteArray:=⟨#[97]⟩
def ado:ByteArray:=⟨#[99,97,116,45,55]⟩
def aed:ByteArray:=⟨#[100]⟩
def UG:ByteArray:=⟨#[101,49,50,51,52,53,54,55,56,57,48,49]⟩
def aee:ByteArray:=⟨#[120]⟩
def aef:ByteArray:=⟨#[98]⟩
def ael:ByteArray:=⟨#[]⟩
abbrev aQ:TI:=⟨.fn,(.sc .fn),1,8,[.nilFunc]⟩
abbrev Zn:TI:=⟨.int .i64,(.sc (.int .i64)),1,8,[(xP xV 0)]⟩
abbrev Zo:TI:=⟨.int .u8,(.sc (.int .u8)),1,1,[(xP xW 0)]⟩
abbrev ti3:TI:=⟨.str,(.sc .str),1,16,[(.string ⟨#[]⟩)]⟩
abbrev Zp:TI:=⟨.int .u64,(.sc (.int .u64)),1,8,[(xP xY 0)]⟩
abbrev ti5:TI:=⟨.int .i32,(.sc (.int .i32)),1,4,[(.int .i32 0)]⟩
abbrev Zq:TI:=⟨.other,(.sc .any),1,0,[(.tuple #[(xR dB),(xP xV 0)])]⟩
abbrev Zr:TI:=⟨.struct [(0,4),(1,4),(2,3),(3,3)],(.agg [.bool,.bool,(.int .i64),(.int .i64)]),4,24,[(.bool .false),(.bool .false),(xP xV 0),(xP xV 0)]⟩
abbrev ti8:TI:=⟨.other,(.sc .any),1,0,[(.tuple #[(xQ dB 0 0),(.bool .false)])]⟩
abbrev UH:TI:=⟨.struct [(0,3),(1,41)],(.agg [(.int .i64),.slc]),2,32,[(xP xV 0),(xQ dB 0 0)]⟩
abbrev Sf:TI:=⟨.struct [(0,24),(3,42),(4,98)],(.agg [(.int .i64),(.int .i64),(.int .i64),(.int .u32),.slc]),5,56,[(xP xV 0),(xP xV 0),(xP xV 0),(xP xX 0),(xQ dB 0 0)]⟩
abbrev Sg:TI:=⟨.struct [(0,3),(1,3)],(.agg [(.int .i64),(.int .i64)]),2,16,[(xP xV 0),(xP xV 0)]⟩
abbrev Sh:TI:=⟨.struct [(0,267)],(.agg [(.int .u64)]),1,8,[(xP xY 0)]⟩
abbrev acd:TI:=⟨.struct [(0,2),(1,3),(2,4),(3,6)],(.agg [(.int .i64),(.int .i64),.bool,(.int .u8)]),4,24,[(xP xV 0),(xP xV 0),(.bool .false),(xP xW 0)]⟩
abbrev ace:TI:=⟨.struct [(0,9),(1,12)],(.agg [.str,(.int .u64)]),2,24,[(xS ⟨#[]⟩),(xP xY 0)]⟩
abbrev acf:TI:=⟨.struct [(0,17)],(.agg [.ptr]),1,8,[(xR dB)]⟩
abbrev acg:TI:=⟨.struct [(0,3),(1,3),(2,3)],(.agg [(.int .i64),(.int .i64),(.int .i64)]),3,24,[(xP xV 0),(xP xV 0),(xP xV 0)]⟩
abbrev ach:TI:=⟨.struct [(0,3),(1,3),(2,24),(5,3),(6,22),(7,25)],(.agg [(.int .i64),(.int .i64),(.int .i64),(.int .i64),(.int .i64),(.int .i64),.slc,.slc]),8,96,[(xP xV 0),(xP xV 0),(xP xV 0),(xP xV 0),(xP xV 0),(xP xV 0),(xQ dB 0 0),(xQ dB 0 0)]⟩
abbrev aci:TI:=⟨.struct [(0,27),(8,36),(9,3),(10,38)],(.arr .any),74,624,[(xP xV 0),(xP xV 0),(xP xV 0),(xP xV 0),(xP xV 0),(xP xV 0),(xQ dB 0 0),(xQ dB 0 0),(xR dB),(xP xV 0)]++qi 64 (xR dB)⟩
abbrev acj:TI:=⟨.struct [(0,3),(1,9),(2,41),(3,3),(4,3),(5,3),(6,42),(7,22),(8,22)],(.agg [(.int .i64),.str,.slc,(.int .i64),(.int .i64),(.int .i64),(.int .u32),.slc,.slc]),9,128,[(xP xV 0),(xS ⟨#[]⟩),(xQ dB 0 0),(xP xV 0),(xP xV 0),(xP xV 0),(xP xX 0),(xQ dB 0 0),(xQ dB 0 0)]⟩
abbrev ack:TI:=⟨.struct [(0,9),(1,3),(2,3),(3,22)],(.agg [.str,(.int .i64),(.int .i64),.slc]),4,56,[(xS ⟨#[]⟩),(xP xV 0),(xP xV 0),(xQ dB 0 0)]⟩
abbrev acl:TI:=⟨.other,(.sc .any),1,0,[(.tuple #[(xQ dB 0 0),(xP xV 0)])]⟩
abbrev acm:TI:=⟨.struct [(0,3),(1,3),(2,3),(3,22)],(.agg [(.int .i64),(.int .i64),(.int .i64),.slc]),4,48,[(xP xV 0),(xP xV 0),(xP xV 0),(xQ dB 0 0)]⟩
abbrev Zs:TI:=⟨.struct [(0,27),(8,51),(9,3),(10,92)],(.arr .any),74,624,[(xP xV 0),(xP xV 0),(xP xV 0),(xP xV 0),(xP xV 0),(xP xV 0),(xQ dB 0 0),(xQ dB 0 0),(xR dB),(xP xV 0)]++qi 64 (xR dB)⟩
abbrev Zt:TI:=⟨.struct [(0,3),(1,3),(2,3),(3,24),(6,42),(7,41)],(.agg [(.int .i64),(.int .i64),(.int .i64),(.int .i64),(.int .i64),(.int .i64),(.int .u32),.slc]),8,80,[(xP xV 0),(xP xV 0),(xP xV 0),(xP xV 0),(xP xV 0),(xP xV 0),(xP xX 0),(xQ dB 0 0)]⟩
abbrev Zu:TI:=⟨.struct [(0,51),(1,3),(2,98),(3,3),(4,98),(5,4),(6,4)],(.agg [.ptr,(.int .i64),.slc,(.int .i64),.slc,.bool,.bool]),7,80,[(xR dB),(xP xV 0),(xQ dB 0 0),(xP xV 0),(xQ dB 0 0),(.bool .false),(.bool .false)]⟩
abbrev Zv:TI:=⟨.struct [(0,3),(1,36),(2,98),(3,3),(4,4),(5,98),(6,4)],(.agg [(.int .i64),.ptr,.slc,(.int .i64),.bool,.slc,.bool]),7,88,[(xP xV 0),(xR dB),(xQ dB 0 0),(xP xV 0),(.bool .false),(xQ dB 0 0),(.bool .false)]⟩
abbrev Zw:TI:=⟨.struct [(0,3),(1,247)],(.agg [(.int .i64),(.flt .f64)]),2,16,[(xP xV 0),(.float Go.FloatKind.f64 0)]⟩
abbrev Zx:TI:=⟨.struct [(0,22),(1,41)],(.agg [.slc,.slc]),2,48,[(xQ dB 0 0),(xQ dB 0 0)]⟩
abbrev Zy:TI:=⟨.struct [(0,281),(1,22),(2,22)],(.agg [.slc,.slc,.slc]),3,72,[(xQ dB 0 0),(xQ dB 0 0),(xQ dB 0 0)]⟩
abbrev Zz:TI:=⟨.struct [(0,239),(1,24),(4,98),(5,277),(6,283),(9,98),(10,98)],(.agg [.ptr,(.int .i64),(.int .i64),(.int .i64),.slc,.slc,.slc,.slc,.slc,.slc,.slc]),11,200,[(xR dB),(xP xV 0),(xP xV 0),(xP xV 0),(xQ dB 0 0),(xQ dB 0 0),(xQ dB 0 0),(xQ dB 0 0),(xQ dB 0 0),(xQ dB 0 0),(xQ dB 0 0)]⟩
abbrev ZA:TI:=⟨.struct [(0,304),(255,306)],(.arr .any),511,2304,qi 255 (xP xW 0)++qi 256 (xP xV 0)⟩
abbrev ZB:TI:=⟨.struct [(0,244),(1,244),(2,3),(3,3),(4,4)],(.agg [(.cpx .f64),(.cpx .f64),(.int .i64),(.int .i64),.bool]),5,56,[(.complex Go.FloatKind.f64 0 0),(.complex Go.FloatKind.f64 0 0),(xP xV 0),(xP xV 0),(.bool .false)]⟩
abbrev ZC:TI:=⟨.other,(.sc .any),1,0,[(.tuple #[(xP xV 0),(xP xV 0)])]⟩
abbrev ZD:TI:=⟨.struct [(0,277),(1,286),(2,98)],(.agg [.slc,.slc,.slc]),3,72,[(xQ dB 0 0),(xQ dB 0 0),(xQ dB 0 0)]⟩
abbrev ZE:TI:=⟨.array 256 4,(.arr .bool),256,256,qi 256 (.bool .false)⟩
abbrev ZF:TI:=⟨.struct [(0,333),(1,286),(2,286)],(.agg [.slc,.slc,.slc]),3,72,[(xQ dB 0 0),(xQ dB 0 0),(xQ dB 0 0)]⟩
abbrev ZG:TI:=⟨.struct [(0,5),(1,5)],(.agg [(.int .u8),(.int .u8)]),2,2,[(xP xW 0),(xP xW 0)]⟩
abbrev ZH:TI:=⟨.struct [(0,17),(1,17),(2,17),(3,9)],(.agg [.ptr,.ptr,.ptr,.str]),4,40,[(xR dB),(xR dB),(xR dB),(xS ⟨#[]⟩)]⟩
abbrev ZI:TI:=⟨.struct [(0,407)],(.agg []),0,0,[]⟩
abbrev ZJ:TI:=⟨.struct [(0,12),(1,12),(2,42),(3,410),(4,5),(5,5),(6,411),(7,412),(8,237),(9,413),(10,414)],(.agg [(.int .u64),(.int .u64),(.int .u32),(.int .u8),(.int .u8),(.int .u8),(.int .u8),.fn,.ptr,(.int .i32),(.int .i32)]),11,48,[(xP xY 0),(xP xY 0),(xP xX 0),(xP xW 0),(xP xW 0),(xP xW 0),(xP xW 0),.nilFunc,(xR dB),(.int .i32 0),(.int .i32 0)]⟩
noncomputable def Ql:km:=[⟨.other,(.sc .any),1,0,[(.tuple #[])]⟩,aQ,Zn,Zn,⟨.bool,(.sc .bool),1,1,[(.bool .false)]⟩,Zo,Zo,acd,acd,ti3,ti3,ti3,Zp,ace,ace,⟨.ptr 406,(.sc .ptr),1,8,[(xR dB)]⟩,⟨.ptr 409,(.sc .ptr),1,8,[(xR dB)]⟩,⟨.ptr 416,(.sc .ptr),1,8,[(xR dB)]⟩,acf,acf,⟨.other,(.sc .any),1,16,[.nilIface]⟩,ti5,⟨.slice 3,(.sc .slc),1,24,[(xQ dB 0 0)]⟩,acg,acg,⟨.slice 59,(.sc .slc),1,24,[(xQ dB 0 0)]⟩,ach,ach,aQ,aQ,⟨.ptr 94,(.sc .ptr),1,8,[(xR dB)]⟩,⟨.ptr 40,(.sc .ptr),1,8,[(xR dB)]⟩,⟨.other,(.sc .any),1,0,[(.tuple #[(xR dB),(xR dB)])]⟩,aQ,⟨.slice 44,(.sc .slc),1,24,[(xQ dB 0 0)]⟩,aQ,⟨.ptr 68,(.sc .ptr),1,8,[(xR dB)]⟩,⟨.ptr 161,(.sc .ptr),1,8,[(xR dB)]⟩,⟨.array 64 37,(.arr .ptr),64,512,qi 64 (xR dB)⟩,aci,aci,⟨.slice 5,(.sc .slc),1,24,[(xQ dB 0 0)]⟩,⟨.int .u32,(.sc (.int .u32)),1,4,[(xP xX 0)]⟩,acj,acj,aQ,aQ,aQ,aQ,⟨.slice 27,(.sc .slc),1,24,[(xQ dB 0 0)]⟩,aQ,⟨.ptr 96,(.sc .ptr),1,8,[(xR dB)]⟩,aQ,aQ,Zn,aQ,aQ,aQ,ack,ack,Zq,aQ,⟨.slice 9,(.sc .slc),1,24,[(xQ dB 0 0)]⟩,aQ,aQ,⟨.other,(.sc .any),1,0,[(.tuple #[(.agg #[(xP xV 0),(xP xV 0),(xP xV 0)]),(xP xV 0),(xQ dB 0 0)])]⟩,aQ,Zr,Zr,Zq,aQ,aQ,aQ,aQ,aQ,aQ,acl,aQ,aQ,aQ,acm,acm,⟨.other,(.sc .any),1,0,[(.tuple #[(.agg #[(xP xV 0),(xP xV 0),(xP xV 0),(xQ dB 0 0)]),(xP xV 0)])]⟩,aQ,aQ,⟨.ptr 159,(.sc .ptr),1,8,[(xR dB)]⟩,aQ,aQ,aQ,aQ,aQ,aQ,⟨.array 64 85,(.arr .ptr),64,512,qi 64 (xR dB)⟩,Zs,Zs,Zr,Zr,aQ,⟨.slice 41,(.sc .slc),1,24,[(xQ dB 0 0)]⟩,aQ,aQ,aQ,aQ,aQ,⟨.array 64 3,(.arr (.int .i64)),64,512,qi 64 (xP xV 0)⟩,aQ,aQ,aQ,aQ,aQ,aQ,aQ,aQ,ti8,aQ,aQ,aQ,aQ,⟨.slice 131,(.sc .slc),1,24,[(xQ dB 0 0)]⟩,aQ,aQ,⟨.other,(.sc .any),1,0,[(.tuple #[(.agg #[(xP xV 0),(xP xV 0),(xP xV 0),(xP xV 0),(xP xV 0),(xP xV 0),(xQ dB 0 0),(xQ dB 0 0)]),(xP xV 0)])]⟩,aQ,aQ,aQ,aQ,aQ,ti8,aQ,aQ,UH,UH,aQ,aQ,⟨.slice 146,(.sc .slc),1,24,[(xQ dB 0 0)]⟩,aQ,aQ,aQ,⟨.ptr 197,(.sc .ptr),1,8,[(xR dB)]⟩,Zq,aQ,aQ,aQ,Zt,Zt,aQ,UH,aQ,⟨.slice 210,(.sc .slc),1,24,[(xQ dB 0 0)]⟩,aQ,aQ,ti8,aQ,aQ,aQ,aQ,⟨.slice 144,(.sc .slc),1,24,[(xQ dB 0 0)]⟩,aQ,Zu,Zu,Zv,Zv,aQ,aQ,aQ,aQ,aQ,aQ,aQ,aQ,aQ,aQ,aQ,aQ,aQ,aQ,aQ,aQ,aQ,aQ,aQ,aQ,⟨.other,(.sc .any),1,0,[(.tuple #[(xP xV 0),(.bool .false)])]⟩,aQ,aQ,⟨.ptr 243,(.sc .ptr),1,8,[(xR dB)]⟩,Zq,aQ,aQ,aQ,aQ,aQ,aQ,aQ,acl,aQ,Sf,Sf,Sg,Sg,aQ,aQ,aQ,aQ,aQ,⟨.array 64 4,(.arr .bool),64,64,qi 64 (.bool .false)⟩,aQ,aQ,aQ,UH,UH,aQ,aQ,aQ,aQ,aQ,aQ,aQ,aQ,aQ,⟨.other,(.sc .any),1,0,[(.tuple #[(.agg #[(xP xV 0),(xP xV 0),(xP xV 0),(xP xV 0),(xP xV 0),(xP xV 0),(xP xX 0),(xQ dB 0 0)]),(.bool .false)])]⟩,aQ,aQ,aQ,aQ,aQ,aQ,Zp,aQ,aQ,aQ,aQ,aQ,aQ,aQ,aQ,aQ,⟨.ptr 5,(.sc .ptr),1,8,[(xR dB)]⟩,aQ,⟨.ptr 309,(.sc .ptr),1,8,[(xR dB)]⟩,aQ,aQ,Sf,Sf,⟨.cpx,(.sc (.cpx .f64)),1,16,[(.complex Go.FloatKind.f64 0 0)]⟩,aQ,⟨.slice 250,(.sc .slc),1,24,[(xQ dB 0 0)]⟩,⟨.flt,(.sc (.flt .f64)),1,8,[(.float Go.FloatKind.f64 0)]⟩,aQ,Zw,Zw,aQ,aQ,aQ,aQ,aQ,aQ,aQ,aQ,aQ,aQ,aQ,aQ,aQ,aQ,aQ,⟨.ptr 269,(.sc .ptr),1,8,[(xR dB)]⟩,Zp,Sh,Sh,aQ,aQ,aQ,aQ,aQ,aQ,aQ,⟨.slice 279,(.sc .slc),1,24,[(xQ dB 0 0)]⟩,Zx,Zx,⟨.ptr 285,(.sc .ptr),1,8,[(xR dB)]⟩,⟨.slice 338,(.sc .slc),1,24,[(xQ dB 0 0)]⟩,Zy,Zy,Zz,Zz,⟨.slice 4,(.sc .slc),1,24,[(xQ dB 0 0)]⟩,⟨.other,(.sc .any),1,0,[(.tuple #[(xQ dB 0 0),(xQ dB 0 0),(xQ dB 0 0),(xP xV 0)])]⟩,aQ,aQ,⟨.other,(.sc .any),1,0,[(.tuple #[(xQ dB 0 0),(xQ dB 0 0)])]⟩,aQ,aQ,aQ,⟨.ptr 350,(.sc .ptr),1,8,[(xR dB)]⟩,aQ,aQ,aQ,⟨.other,(.sc .any),1,0,[(.tuple #[(xP xV 0),(xQ dB 0 0),(.bool .false)])]⟩,aQ,aQ,aQ,aQ,aQ,⟨.array 255 5,(.arr (.int .u8)),255,255,qi 255 (xP xW 0)⟩,aQ,⟨.array 256 3,(.arr (.int .i64)),256,2048,qi 256 (xP xV 0)⟩,aQ,ZA,ZA,⟨.ptr 313,(.sc .ptr),1,8,[(xR dB)]⟩,aQ,ZB,ZB,aQ,aQ,aQ,Zn,ZC,aQ,aQ,aQ,aQ,aQ,aQ,aQ,aQ,aQ,aQ,⟨.ptr 331,(.sc .ptr),1,8,[(xR dB)]⟩,ZD,ZD,aQ,⟨.slice 22,(.sc .slc),1,24,[(xQ dB 0 0)]⟩,⟨.other,(.sc .any),1,0,[(.tuple #[(.agg #[(xQ dB 0 0),(xQ dB 0 0),(xQ dB 0 0)]),(.bool .false)])]⟩,aQ,aQ,Sg,Sg,aQ,aQ,aQ,aQ,ZE,ZE,⟨.other,(.sc .any),1,0,[(.tuple #[(.agg (qi 256 (.bool .false)).toArray),(.bool .false)])]⟩,aQ,aQ,⟨.ptr 344,(.sc .ptr),1,8,[(xR dB)]⟩,Sh,Sh,aQ,aQ,aQ,aQ,aQ,aQ,aQ,aQ,aQ,aQ,aQ,aQ,aQ,aQ,aQ,aQ,aQ,aQ,aQ,Zp,aQ,aQ,aQ,⟨.ptr 3,(.sc .ptr),1,8,[(xR dB)]⟩,aQ,⟨.int .u16,(.sc (.int .u16)),1,2,[(.int .u16 0)]⟩,aQ,aQ,⟨.ptr 381,(.sc .ptr),1,8,[(xR dB)]⟩,ZF,ZF,aQ,⟨.other,(.sc .any),1,0,[(.tuple #[(.agg #[(xP xV 0),(xP xV 0)]),(.bool .false)])]⟩,aQ,aQ,⟨.other,(.sc .any),1,0,[(.tuple #[(.int .i32 0),(xP xV 0)])]⟩,aQ,aQ,aQ,aQ,aQ,aQ,⟨.ptr 370,(.sc .ptr),1,8,[(xR dB)]⟩,ZC,aQ,aQ,aQ,aQ,aQ,⟨.array 256 5,(.arr (.int .u8)),256,256,qi 256 (xP xW 0)⟩,ZG,ZG,⟨.array 16 402,(.arr (.int .u8)),32,32,qi 32 (xP xW 0)⟩,aQ,ZH,ZH,⟨.array 0 16,(.arr .ptr),0,0,[]⟩,ZI,ZI,Zo,Zo,aQ,ti5,ti5,ZJ,ZJ,⟨.other,(.sc .any),1,8,[(xR dB)]⟩]
noncomputable def XG:List (TypeId×List Ty):=[(0,[]),(32,[(.sc .ptr),(.sc .ptr)]),(60,[(.sc .ptr),(.sc (.int .i64))]),(65,[(.agg [(.int .i64),(.int .i64),(.int .i64)]),(.sc (.int .i64)),(.sc .slc)]),(69,[(.sc .ptr),(.sc (.int .i64))]),(76,[(.sc .slc),(.sc (.int .i64))]),(82,[(.agg [(.int .i64),(.int .i64),(.int .i64),.slc]),(.sc (.int .i64))]),(113,[(.sc .slc),(.sc .bool)]),(121,[(.agg [(.int .i64),(.int .i64),(.int .i64),(.int .i64),(.int .i64),(.int .i64),.slc,.slc]),(.sc (.int .i64))]),(127,[(.sc .slc),(.sc .bool)]),(139,[(.sc .ptr),(.sc (.int .i64))]),(151,[(.sc .slc),(.sc .bool)]),(182,[(.sc (.int .i64)),(.sc .bool)]),(186,[(.sc .ptr),(.sc (.int .i64))]),(194,[(.sc .slc),(.sc (.int .i64))]),(220,[(.agg [(.int .i64),(.int .i64),(.int .i64),(.int .i64),(.int .i64),(.int .i64),(.int .u32),.slc]),(.sc .bool)]),(287,[(.sc .slc),(.sc .slc),(.sc .slc),(.sc (.int .i64))]),(290,[(.sc .slc),(.sc .slc)]),(298,[(.sc (.int .i64)),(.sc .slc),(.sc .bool)]),(318,[(.sc (.int .i64)),(.sc (.int .i64))]),(334,[(.agg [.slc,.slc,.slc]),(.sc .bool)]),(345,[(.arr .bool),(.sc .bool)]),(383,[(.agg [(.int .i64),(.int .i64)]),(.sc .bool)]),(386,[(.sc (.int .i32)),(.sc (.int .i64))]),(394,[(.sc (.int .i64)),(.sc (.int .i64))])]
noncomputable def C:Ctx:={P:=xZ,T:=Ql,tup:=XG,fns:=[eL,eL]++qi 384 true++qi 23 eL++[true]}
theorem adp:(List.range C.T.length).map (km.seen C.P)=C.T.map km.told:=o0
theorem aao:C.P.follows .mixedOrders=true:=o0
theorem adq:(C.P.funcs.toList.map λf=>!(f.name== "runtime.NumGoroutine")&&f.body.isSome)=C.fns:=o0
theorem af:C.Ok:={Ql:=adp,mixed:=aao,fns:=adq}
abbrev Me:=an xZ
abbrev Ca:=jV xZ
abbrev Ra:=oF xZ
abbrev Ru{α:Type}:=av (α:=α) xZ
theorem tie{f:FuncId}{b:Func}(g:Tryz.prog.funcs[f]?=some b)(a:cT){args:aR}{R:vq}{h:Heap}{Q:Prop}(c:Q) (d:xE args.length b.ntmps=true:=by kernel_rfl) (e:TP C b 300 a args R h=Q:=by kernel_rfl):an xZ f args.toArray h R:=abb af g a c d e
theorem ads{l:aR}{t:Rt}{h:Heap}{K:t.den->Heap->Prop}:th C 12 l t h K=jV C.P 12 l.toArray t h K:=rfl
theorem CP:C.P=xZ:=rfl
theorem CU:C.tup=XG:=rfl
noncomputable def tbF(t:Nat):TI:=Rk.mS Rk.Re Ql t
theorem ts{f:FuncId}{a:Func}(i:Tryz.prog.funcs[f]?=some a){args:aR}{R:vq}{h:Heap}{Q:Prop}{c:Code}{rs:List ResultVar}(j:Q)(b:cT:=.n)(S:List (Nat×Rk.Sd):=[]) (l:a.body=some c:=by exact rfl) (g:a.results=rs.toArray:=by exact rfl) (d:Rk.bp C tbF S R 100000 (.ex c b (.top rs) (Rk.Rv 0 args)) h=Q:=by dsimp only[cT.tn,cT.lp,cT.jn,Rk.abc,Rk.Rb,Rk.Fi,Rk.KX,Rk.abd,Rk.ff,Rk.Gm,Rk.KY,Rk.Gn,Rk.Rc,Rk.abe,Rk.WP,Rk.Fj,Rk.mS,Rk.Lw,Rk.Lx,Rk.rc,Rk.WQ,Rk.Re,Rk.abf,Rk.Rf,Rk.Gp,Rk.abg,Rk.abh,Rk.abi,Rk.abj,Rk.YP,Rk.abk,Rk.YQ,Rk.abl,Rk.abm,Rk.abn,Rk.abo,Rk.abp,Rk.abq,Rk.abr,Rk.Ly,Rk.abs,Rk.Rh,Rk.abt,Rk.YR,Rk.abu,Rk.abv,Rk.PN,Rk.YS,Rk.TQ,Rk.Ri,Rk.abw,Rk.YT,Rk.Rj,Rk.TR,Rk.TS,Rk.WR,Rk.Rl,Rk.WS,Rk.Rm,Rk.YU,Rk.YV,Rk.YW,Rk.YX,Rk.Lz,Rk.LA,Rk.TT,Rk.YY,Rk.YZ,Rk.Gq,Rk.Rn,Rk.Za,Rk.Gr,Rk.WT,Rk.Ik,Rk.LB,Rk.Il,Rk.Gs,Rk.WU,Rk.Im,Rk.Gt,Rk.Gu,Rk.WV,Rk.WW,Rk.Zb,Rk.WX,Rk.Ro,Rk.LC,Rk.KZ,Rk.Fk,Rk.Zc,Rk.Io,Rk.nP,Rk.Rp,Rk.WY,Rk.Rq,Rk.Rr,Rk.bp,Rk.Rv,Rk.adf,Rk.adg,Rk.adh,Rk.abx,Rk.aby,ads,undef,Nat.reduceAdd,Nat.reduceBEq,Nat.reduceSub,Nat.reduceMul,tbF,CP,CU,XG,Sc.den,Sc.enc,Ty.den,Ty.enc,Rt.den,Rt.enc,uX,nM,KW,QR,dF.den,Ql]) (k:xE args.length a.ntmps=true:=by kernel_rfl) (e:TP C a 300 b args R h=Q:=by kernel_rfl):an xZ f args.toArray h R:=PM af i (Nat.le_of_ble_eq_true k) (cast e.symm j)
theorem pr(a:bK)(c:Br (Option.isNone a) (R true h) (Ca 70 #[a] EM h λb d=>R b d)):Me 50 #[a] h R:=tie Tryz.func50 .n c
theorem rJ(J:Tu1)(hm:Ra (xn 27 J) h λb r=>DV (σ:=Unit) (λ_ h3=>Dc h3 (b.add 6) λL=>gU (σ:=Int) (λf K2 s=>Br (f<(L.len:Int)) (BV L f λal=>ji s (al.add (f.toNat*1)) λF=>Br (F<0) (R eL s) (Br (F>=64) (R eL s) (Br (f>0) (Dc s (b.add 6) λab=>BV ab (qe xV (f-1)) λao=>ji s (ao.add ((qe xV (f-1)).toNat*1)) λZ=>Br (F<=Z) (R eL s) (K2 (qe xV (f+1)) s)) (K2 (qe xV (f+1)) s)))) (Dc s (b.add 7) λH=>gU (σ:=Int) (λc K3 V=>Br (c<(H.len:Int)) (BV H c λa2=>∃P:Tu2,bA V (a2.add (c.toNat*4)) 0 P/\Ra (Instr.alloc 59 true (.tuple #[])) V λa h6=>Ru (Instr.storeAt 59 a P) h6 λ_ h7=>DV (σ:=Unit) (λ_ Q=>Dc Q (a.add 3) λM=>gU (σ:=Int) (λv K5 o=>Br (v<(M.len:Int)) (BV M v λa55=>ji o (a55.add (v.toNat*1)) λK=>Br (K<0) (R eL o) (Br (K>=16) (R eL o) (K5 (qe xV (v+1)) o))) (gU (σ:=Int) (λt K6 j=>Br (t<c) (Dc j (b.add 7) λW=>BV W t λU=>ji j ((U.add (t.toNat*4)).add 1) λam=>ji j (a.add 1) λap=>Br (am==ap) (R eL j) (K6 (qe xV (t+1)) j)) (K3 (qe xV (c+1)) j)) (0:Int) o)) (0:Int) Q) (λK4=>LdT h7 a λah=>Ca 89 #[ah] EM h7 λX h8=>(bF.ok [] h8)/\Br (!X) ((bF.ok [] h8)/\R eL h8) (Br (c>0) (LdT h8 a λe=>Dc h8 (b.add 7) λg=>BV g (qe xV (c-1)) λa28=>LdT h8 (a28.add ((qe xV (c-1)).toNat*4)) λd=>Br (Op.bytesLess e.toList d.toList||e.toList==d.toList) ((bF.ok [(a28.add ((qe xV (c-1)).toNat*4),d),(b.add 7,g),(a,e)] h8)/\R eL h8) (ji h8 (a.add 1) λi=>Br (i<0) ((bF.ok [(a.add 1,i),(a28.add ((qe xV (c-1)).toNat*4),d),(b.add 7,g),(a,e)] h8)/\R eL h8) (ji h8 (a.add 1) λm=>ji h8 (b.add 1) λp=>Br (m>=p) ((bF.ok [(b.add 1,p),(a.add 1,m),(a.add 1,i),(a28.add ((qe xV (c-1)).toNat*4),d),(b.add 7,g),(a,e)] h8)/\R eL h8) (ji h8 (a.add 2) λu=>Br (u<0) ((bF.ok [(a.add 2,u),(b.add 1,p),(a.add 1,m),(a.add 1,i),(a28.add ((qe xV (c-1)).toNat*4),d),(b.add 7,g),(a,e)] h8)/\R eL h8) (ji h8 (a.add 2) λy=>ji h8 (b.add 2) λz=>ji h8 ((b.add 2).add 2) λB=>Br (decide (y>(qe xV ((qe xV (z*B))*8)))) ((bF.ok [((b.add 2).add 2,B),(b.add 2,z),(a.add 2,y),(a.add 2,u),(b.add 1,p),(a.add 1,m),(a.add 1,i),(a28.add ((qe xV (c-1)).toNat*4),d),(b.add 7,g),(a,e)] h8)/\R eL h8) (Dc h8 (a.add 3) λS=>∃O:Zl,bA h8 (b.add 2) 0 O/\ji h8 (a.add 2) λY=>Ca 48 #[O,Y] rtI h8 λax T=>(bF.ok [(a.add 3,S),((b.add 2).add 2,B),(b.add 2,z),(a.add 2,y),(a.add 2,u),(b.add 1,p),(a.add 1,m),(a.add 1,i),(a28.add ((qe xV (c-1)).toNat*4),d),(b.add 7,g),(a,e)] T)/\Br ((S.len:Int) !=ax) (R eL T) (K4 () T))))))) (ji h8 (a.add 1) λk=>Br (k<0) ((bF.ok [(a.add 1,k)] h8)/\R eL h8) (ji h8 (a.add 1) λl=>ji h8 (b.add 1) λq=>Br (l>=q) ((bF.ok [(b.add 1,q),(a.add 1,l),(a.add 1,k)] h8)/\R eL h8) (ji h8 (a.add 2) λw=>Br (w<0) ((bF.ok [(a.add 2,w),(b.add 1,q),(a.add 1,l),(a.add 1,k)] h8)/\R eL h8) (ji h8 (a.add 2) λG=>ji h8 (b.add 2) λD=>ji h8 ((b.add 2).add 2) λA=>Br (decide (G>(qe xV ((qe xV (D*A))*8)))) ((bF.ok [((b.add 2).add 2,A),(b.add 2,D),(a.add 2,G),(a.add 2,w),(b.add 1,q),(a.add 1,l),(a.add 1,k)] h8)/\R eL h8) (Dc h8 (a.add 3) λI=>∃N:Zl,bA h8 (b.add 2) 0 N/\ji h8 (a.add 2) λa0=>Ca 48 #[N,a0] rtI h8 λay E=>(bF.ok [(a.add 3,I),((b.add 2).add 2,A),(b.add 2,D),(a.add 2,G),(a.add 2,w),(b.add 1,q),(a.add 1,l),(a.add 1,k)] E)/\Br ((I.len:Int) !=ay) (R eL E) (K4 () E))))))))) (R true V)) (0:Int) s)) (0:Int) h3) (λK1=>ji r b λx2=>Br (x2<1) (R eL r) (ji r b λx3=>Br (x3>2147483647) (R eL r) (ji r (b.add 1) λx4=>Br (x4<0) (R eL r) (ji r (b.add 1) λx5=>Br (x5>16777216) (R eL r) (∃x6:Zl,bA r (b.add 2) 0 x6/\Ca 116 #[x6] EM r λr7 x=>Br (!r7) (R eL x) (ji x (b.add 5) λx8=>Br (x8<0) (R eL x) (ji x (b.add 5) λx9=>Br (x9>16) (R eL x) (Dc x (b.add 7) λad=>Br ((ad.len:Int)>12) (R eL x) (K1 () x)))))))))):Me 59 #[J] h R:=tie Tryz.func59 (cT.tn (.two (.join [] [(2,3),(10,50)] .n) (.two (cT.tn (.inn (.loop [(53,aH)] [(2,5),(53,79)] .n))) (.two (cT.tn (.inn (.loop [(82,aH)] [(2,3),(5,7),(8,10),(82,177)] (cT.tn (cT.tn (.two (.inn (cT.tn (.two (.join [] [(2,3),(87,148)] .n) (.two (cT.tn (.inn (.loop [(151,aH)] [(2,3),(8,9),(151,162)] .n))) (cT.tn (.inn (.loop [(9,aH)] [(2,3),(9,10),(162,176)] .n))))))) .n)))))) .n)))) hm
theorem tV(a:Int)(b:Int)(c:Int)(d:R (xP xX (qe xX ((qe xX ((qe xX ((qe xX a)*128))+(qe xX ((qe xX b)*16))))+(qe xX c)))) h):Me 93 #[a,b,c] h R:=tie Tryz.func93 .n d
theorem II(b:Tu2)(a:Addr)(e:Ra (xn 59 b) h λd c=>ji c (d.add 1) λx2=>ji c (a.add 1) λx3=>R (xT (x2==x3)) c):Me 121 #[b,a] h R:=tie Tryz.func121 .n e
theorem Av(a:Zl)(d:Ra (xn 24 a) h λc b=>ji b c λx2=>ji b (c.add 2) λx3=>R (qe xV (x2*x3)) b):Me 145 #[a] h R:=tie Tryz.func145 .n d
theorem ia(b:Sl)(a:LD)(f:gU (σ:=Int) (λc j d=>Br (c<(b.len:Int)) (BV b c λg=>∃x3:Tu2,bA d (g.add (c.toNat*4)) 0 x3/\th C a.1 (a.2.1.toList++[(xU #[x3.1,x3.2.1,x3.2.2.1,x3.2.2.2])]++a.2.2.toList) EM d λi e=>Br i (R c e) (j (qe xV (c+1)) e)) (R (xP xV (-1:Int)) d)) (0:Int) h):Me 168 #[b,(.func (.func a.1) a.2.1 a.2.2)] h R:=tie Tryz.func168 (cT.tn (.two (cT.tn (.inn (.loop [(8,aH)] [(4,6),(8,19)] .n))) .n)) f
end Go.Qw
