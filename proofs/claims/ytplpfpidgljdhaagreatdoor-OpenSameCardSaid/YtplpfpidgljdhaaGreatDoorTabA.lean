/- Lemmas for the proof of the law; no condition. -/
import Derived.Test.YtplpfpidgljdhaaGreatDoorPlA
import Derived.Test.YtplpfpidgljdhaaGreatDoorProg
set_option linter.unusedVariables false
open Go.Proofs.Tryz renaming prog -> xP
open Go.Value renaming agg -> xK, bool -> xJ, int -> xF, pointer -> xH, slice -> xG, string -> xI
open Go.IntKind renaming i64 -> xL, u32 -> xN, u64 -> xO, u8 -> xM, wrap -> qe
open List renaming replicate -> qi, toArray -> yO
open Nat renaming ble -> xo
open Go.Instr renaming alloc -> yQ, box -> vC, buildSlice -> zL, storeAt -> qG
open Go.Builtin renaming append_ -> zx
open Int renaming tdiv -> vm
open Go.Proofs.Tryz
set_option maxRecDepth 1000000
open Option renaming none -> eH
open Go renaming Value -> f7
namespace Go.Qw
open Go.Proofs
instance:Coe Int f7:=⟨λx=>xF xL x⟩
instance:Coe Sl f7:=⟨λs=>xG s.ptr s.len s.cap⟩
instance:Coe ByteArray f7:=⟨.string⟩
instance:Coe (Option Addr) f7:=⟨.pointer⟩
instance:Coe Addr f7:=⟨λa=>xH (some a)⟩
instance:Coe Bool f7:=⟨.bool⟩
instance:Coe (Int×Int×Int×Int×Int×Int×Sl×Sl) (List f7):=⟨λx=>[x.1,x.2.1,x.2.2.1,x.2.2.2.1,x.2.2.2.2.1,x.2.2.2.2.2.1,x.2.2.2.2.2.2.1,x.2.2.2.2.2.2.2]⟩
instance:Coe (Int×Int×Int×Int×Int×Int×Sl×Sl) f7:=⟨λx=>xK (yO x)⟩
instance:Coe (Int×Int×Int) (List f7):=⟨λx=>[x.1,x.2.1,x.2.2]⟩
instance:Coe (Int×Int×Int) f7:=⟨λx=>xK (yO x)⟩
instance:Coe (Int×ByteArray×Sl×Int×Int×Int×Int×Sl×Sl) (List f7):=⟨λx=>[x.1,x.2.1,x.2.2.1,x.2.2.2.1,x.2.2.2.2.1,x.2.2.2.2.2.1,(xF xN x.2.2.2.2.2.2.1),x.2.2.2.2.2.2.2.1,x.2.2.2.2.2.2.2.2]⟩
instance:Coe (Int×ByteArray×Sl×Int×Int×Int×Int×Sl×Sl) f7:=⟨λx=>xK (yO x)⟩
instance:Coe (ByteArray×Int×Int×Sl) (List f7):=⟨λx=>[x.1,x.2.1,x.2.2.1,x.2.2.2]⟩
instance:Coe (ByteArray×Int×Int×Sl) f7:=⟨λx=>xK (yO x)⟩
instance:Coe (Int×Sl) (List f7):=⟨λx=>[x.1,x.2]⟩
instance:Coe (Int×Sl) f7:=⟨λx=>xK (yO x)⟩
instance:Coe (Int×Int×Int×Int×Int×Int×Int×Sl) (List f7):=⟨λx=>[x.1,x.2.1,x.2.2.1,x.2.2.2.1,x.2.2.2.2.1,x.2.2.2.2.2.1,(xF xN x.2.2.2.2.2.2.1),x.2.2.2.2.2.2.2]⟩
instance:Coe (Int×Int×Int×Int×Int×Int×Int×Sl) f7:=⟨λx=>xK (yO x)⟩
instance:Coe (Int×Int×Int×Sl×Sl) (List f7):=⟨λx=>[x.1,x.2.1,x.2.2.1,x.2.2.2.1,x.2.2.2.2]⟩
instance:Coe (Int×Int×Int×Sl×Sl) f7:=⟨λx=>xK (yO x)⟩
instance:Coe (Sl×Sl) (List f7):=⟨λx=>[x.1,x.2]⟩
instance:Coe (Sl×Sl) f7:=⟨λx=>xK (yO x)⟩
instance:Coe (Sl×Sl×Sl) (List f7):=⟨λx=>[x.1,x.2.1,x.2.2]⟩
instance:Coe (Sl×Sl×Sl) f7:=⟨λx=>xK (yO x)⟩
instance:Coe (Int×Int) (List f7):=⟨λx=>[x.1,x.2]⟩
instance:Coe (Int×Int) f7:=⟨λx=>xK (yO x)⟩
abbrev sN(h:Heap)(a:Addr)(k:Int->Prop):Prop:=∃x,cellOf h a=some (xF xL x)/\k x
abbrev LdK(i:IntKind)(h:Heap)(a:Addr)(k:Int->Prop):Prop:=∃x:Int,cellOf h a=some (.int i x)/\k x
abbrev LdS(h:Heap)(a:Addr)(k:Sl->Prop):Prop:=∃x:Sl,cellOf h a=some (x:f7)/\k x
abbrev uq(s:Sl)(i:Int)(k:Addr->Prop):Prop:=∃a,(s.ptr=some a/\0<=i/\i<((s.len:Nat):Int))/\k a
abbrev Og:=Int×Int×Int
abbrev Tu1:=ByteArray×Int×Int×Sl
abbrev CW:=Int×ByteArray×Sl×Int×Int×Int×Int×Sl×Sl
abbrev Oh:Rt:=.one (.sc .slc)
abbrev kV:Rt:=.one (.sc (.int .i64))
abbrev Lh:Rt:=.one (.sc .bool)
abbrev cL:Ty:=.sc .slc
abbrev aQ:Ty:=.sc (.int .i64)
abbrev Oi:Ty:=.sc .ptr
abbrev sM:Ty:=.sc .bool
abbrev tyT:Ty:=.sc .str
variable {R:Aw} {h:Heap}
def ahE:ByteArray:=⟨#[0]⟩
def ahy:ByteArray:=⟨#[97]⟩
def ahz:ByteArray:=⟨#[98]⟩
def agL:ByteArray:=⟨#[99,97,116,45,55]⟩
def ahA:ByteArray:=⟨#[100]⟩
def Xg:ByteArray:=⟨#[101,49,50,51,52,53,54,55,56,57,48,49]⟩
def rX:ByteArray:=⟨#[]⟩
abbrev aN:TI:=⟨.fn,(.sc .fn),1,8,[.nilFunc]⟩
abbrev ti1:TI:=⟨.int .i64,(.sc (.int .i64)),1,8,[(xF xL 0)]⟩
abbrev ti2:TI:=⟨.int .u8,(.sc (.int .u8)),1,1,[(xF xM 0)]⟩
abbrev ti3:TI:=⟨.str,(.sc .str),1,16,[(.string ⟨#[]⟩)]⟩
abbrev ti4:TI:=⟨.int .u64,(.sc (.int .u64)),1,8,[(xF xO 0)]⟩
abbrev ti5:TI:=⟨.int .i32,(.sc (.int .i32)),1,4,[(.int .i32 0)]⟩
abbrev ti6:TI:=⟨.other,(.sc .any),1,0,[(.tuple #[(xF xL 0),(xF xL 0)])]⟩
abbrev ti7:TI:=⟨.other,(.sc .any),1,0,[(.tuple #[(xH eH),(xF xL 0)])]⟩
abbrev ti8:TI:=⟨.other,(.sc .any),1,0,[(.tuple #[(xG eH 0 0),(xF xL 0)])]⟩
abbrev ti9:TI:=⟨.other,(.sc .any),1,0,[(.tuple #[(xG eH 0 0),(.bool .false)])]⟩
abbrev Us:TI:=⟨.struct [(0,3),(1,58)],(.agg [(.int .i64),.slc]),2,32,[(xF xL 0),(xG eH 0 0)]⟩
abbrev afD:TI:=⟨.struct [(0,2),(1,3),(2,4),(3,6)],(.agg [(.int .i64),(.int .i64),.bool,(.int .u8)]),4,24,[(xF xL 0),(xF xL 0),(.bool .false),(xF xM 0)]⟩
abbrev afE:TI:=⟨.struct [(0,9),(1,12)],(.agg [.str,(.int .u64)]),2,24,[(xI ⟨#[]⟩),(xF xO 0)]⟩
abbrev afF:TI:=⟨.struct [(0,17)],(.agg [.ptr]),1,8,[(xH eH)]⟩
abbrev afG:TI:=⟨.struct [(0,3),(1,3),(2,3)],(.agg [(.int .i64),(.int .i64),(.int .i64)]),3,24,[(xF xL 0),(xF xL 0),(xF xL 0)]⟩
abbrev afH:TI:=⟨.struct [(0,3),(1,3),(2,36),(5,3),(6,22),(7,37)],(.agg [(.int .i64),(.int .i64),(.int .i64),(.int .i64),(.int .i64),(.int .i64),.slc,.slc]),8,96,[(xF xL 0),(xF xL 0),(xF xL 0),(xF xL 0),(xF xL 0),(xF xL 0),(xG eH 0 0),(xG eH 0 0)]⟩
abbrev afI:TI:=⟨.struct [(0,3),(1,9),(2,58),(3,3),(4,3),(5,3),(6,59),(7,22),(8,22)],(.agg [(.int .i64),.str,.slc,(.int .i64),(.int .i64),(.int .i64),(.int .u32),.slc,.slc]),9,128,[(xF xL 0),(xI ⟨#[]⟩),(xG eH 0 0),(xF xL 0),(xF xL 0),(xF xL 0),(xF xN 0),(xG eH 0 0),(xG eH 0 0)]⟩
abbrev afJ:TI:=⟨.struct [(0,3),(1,3),(2,59)],(.agg [(.int .i64),(.int .i64),(.int .u32)]),3,24,[(xF xL 0),(xF xL 0),(xF xN 0)]⟩
abbrev afK:TI:=⟨.struct [(0,23),(1,39),(9,22),(10,3),(11,3),(12,3)],(.agg [.ptr,(.int .i64),(.int .i64),(.int .i64),(.int .i64),(.int .i64),(.int .i64),.slc,.slc,.slc,(.int .i64),(.int .i64),(.int .i64)]),13,152,[(xH eH),(xF xL 0),(xF xL 0),(xF xL 0),(xF xL 0),(xF xL 0),(xF xL 0),(xG eH 0 0),(xG eH 0 0),(xG eH 0 0),(xF xL 0),(xF xL 0),(xF xL 0)]⟩
abbrev afL:TI:=⟨.struct [(0,9),(1,3),(2,3),(3,22)],(.agg [.str,(.int .i64),(.int .i64),.slc]),4,56,[(xI ⟨#[]⟩),(xF xL 0),(xF xL 0),(xG eH 0 0)]⟩
abbrev afM:TI:=⟨.struct [(0,39),(8,28),(9,3),(10,90)],(.arr .any),74,624,[(xF xL 0),(xF xL 0),(xF xL 0),(xF xL 0),(xF xL 0),(xF xL 0),(xG eH 0 0),(xG eH 0 0),(xH eH),(xF xL 0)]++qi 64 (xH eH)⟩
abbrev acs:TI:=⟨.struct [(0,28),(1,3),(2,43),(3,3),(4,43),(5,4),(6,4)],(.agg [.ptr,(.int .i64),.slc,(.int .i64),.slc,.bool,.bool]),7,80,[(xH eH),(xF xL 0),(xG eH 0 0),(xF xL 0),(xG eH 0 0),(.bool .false),(.bool .false)]⟩
abbrev act:TI:=⟨.struct [(0,4),(1,4),(2,3),(3,3)],(.agg [.bool,.bool,(.int .i64),(.int .i64)]),4,24,[(.bool .false),(.bool .false),(xF xL 0),(xF xL 0)]⟩
abbrev acu:TI:=⟨.struct [(0,3),(1,3),(2,59),(3,153),(4,75),(5,22)],(.agg [(.int .i64),(.int .i64),(.int .u32),.ptr,.slc,.slc]),6,80,[(xF xL 0),(xF xL 0),(xF xN 0),(xH eH),(xG eH 0 0),(xG eH 0 0)]⟩
abbrev acv:TI:=⟨.struct [(0,3),(1,3),(2,3),(3,36),(6,59),(7,58)],(.agg [(.int .i64),(.int .i64),(.int .i64),(.int .i64),(.int .i64),(.int .i64),(.int .u32),.slc]),8,80,[(xF xL 0),(xF xL 0),(xF xL 0),(xF xL 0),(xF xL 0),(xF xL 0),(xF xN 0),(xG eH 0 0)]⟩
abbrev acw:TI:=⟨.struct [(0,36),(3,59),(4,43)],(.agg [(.int .i64),(.int .i64),(.int .i64),(.int .u32),.slc]),5,56,[(xF xL 0),(xF xL 0),(xF xL 0),(xF xN 0),(xG eH 0 0)]⟩
abbrev acx:TI:=⟨.struct [(0,3),(1,230)],(.agg [(.int .i64),(.flt .f64)]),2,16,[(xF xL 0),(.float Go.FloatKind.f64 0)]⟩
abbrev acy:TI:=⟨.struct [(0,22),(1,58)],(.agg [.slc,.slc]),2,48,[(xG eH 0 0),(xG eH 0 0)]⟩
abbrev acz:TI:=⟨.struct [(0,260),(1,22),(2,22)],(.agg [.slc,.slc,.slc]),3,72,[(xG eH 0 0),(xG eH 0 0),(xG eH 0 0)]⟩
abbrev acA:TI:=⟨.struct [(0,220),(1,36),(4,43),(5,256),(6,262),(9,43),(10,43)],(.agg [.ptr,(.int .i64),(.int .i64),(.int .i64),.slc,.slc,.slc,.slc,.slc,.slc,.slc]),11,200,[(xH eH),(xF xL 0),(xF xL 0),(xF xL 0),(xG eH 0 0),(xG eH 0 0),(xG eH 0 0),(xG eH 0 0),(xG eH 0 0),(xG eH 0 0),(xG eH 0 0)]⟩
abbrev acB:TI:=⟨.struct [(0,3),(1,3),(2,3),(3,58),(4,58)],(.agg [(.int .i64),(.int .i64),(.int .i64),.slc,.slc]),5,72,[(xF xL 0),(xF xL 0),(xF xL 0),(xG eH 0 0),(xG eH 0 0)]⟩
abbrev acC:TI:=⟨.struct [(0,303),(255,305)],(.arr .any),511,2304,qi 255 (xF xM 0)++qi 256 (xF xL 0)⟩
abbrev acD:TI:=⟨.struct [(0,226),(1,226),(2,3),(3,3),(4,4)],(.agg [(.cpx .f64),(.cpx .f64),(.int .i64),(.int .i64),.bool]),5,56,[(.complex Go.FloatKind.f64 0 0),(.complex Go.FloatKind.f64 0 0),(xF xL 0),(xF xL 0),(.bool .false)]⟩
abbrev acE:TI:=⟨.struct [(0,256),(1,265),(2,43)],(.agg [.slc,.slc,.slc]),3,72,[(xG eH 0 0),(xG eH 0 0),(xG eH 0 0)]⟩
abbrev acF:TI:=⟨.struct [(0,3),(1,3)],(.agg [(.int .i64),(.int .i64)]),2,16,[(xF xL 0),(xF xL 0)]⟩
abbrev acG:TI:=⟨.array 256 4,(.arr .bool),256,256,qi 256 (.bool .false)⟩
abbrev acH:TI:=⟨.struct [(0,250)],(.agg [(.int .u64)]),1,8,[(xF xO 0)]⟩
abbrev acI:TI:=⟨.struct [(0,220),(1,3),(2,43)],(.agg [.ptr,(.int .i64),.slc]),3,40,[(xH eH),(xF xL 0),(xG eH 0 0)]⟩
abbrev acJ:TI:=⟨.struct [(0,75),(1,265),(2,265)],(.agg [.slc,.slc,.slc]),3,72,[(xG eH 0 0),(xG eH 0 0),(xG eH 0 0)]⟩
abbrev acK:TI:=⟨.struct [(0,58),(1,4)],(.agg [.slc,.bool]),2,32,[(xG eH 0 0),(.bool .false)]⟩
abbrev acL:TI:=⟨.struct [(0,5),(1,5)],(.agg [(.int .u8),(.int .u8)]),2,2,[(xF xM 0),(xF xM 0)]⟩
abbrev acM:TI:=⟨.struct [(0,17),(1,17),(2,17),(3,9)],(.agg [.ptr,.ptr,.ptr,.str]),4,40,[(xH eH),(xH eH),(xH eH),(xI ⟨#[]⟩)]⟩
abbrev acN:TI:=⟨.struct [(0,418)],(.agg []),0,0,[]⟩
abbrev acO:TI:=⟨.struct [(0,12),(1,12),(2,59),(3,421),(4,5),(5,5),(6,422),(7,423),(8,251),(9,424),(10,425)],(.agg [(.int .u64),(.int .u64),(.int .u32),(.int .u8),(.int .u8),(.int .u8),(.int .u8),.fn,.ptr,(.int .i32),(.int .i32)]),11,48,[(xF xO 0),(xF xO 0),(xF xN 0),(xF xM 0),(xF xM 0),(xF xM 0),(xF xM 0),.nilFunc,(xH eH),(.int .i32 0),(.int .i32 0)]⟩
noncomputable def SI:kr:=[⟨.other,(.sc .any),1,0,[(.tuple #[])]⟩,aN,ti1,ti1,⟨.bool,(.sc .bool),1,1,[(.bool .false)]⟩,ti2,ti2,afD,afD,ti3,ti3,ti3,ti4,afE,afE,⟨.ptr 417,(.sc .ptr),1,8,[(xH eH)]⟩,⟨.ptr 420,(.sc .ptr),1,8,[(xH eH)]⟩,⟨.ptr 427,(.sc .ptr),1,8,[(xH eH)]⟩,afF,afF,⟨.other,(.sc .any),1,16,[.nilIface]⟩,ti5,⟨.slice 3,(.sc .slc),1,24,[(xG eH 0 0)]⟩,⟨.ptr 92,(.sc .ptr),1,8,[(xH eH)]⟩,aN,ti1,ti6,aN,⟨.ptr 104,(.sc .ptr),1,8,[(xH eH)]⟩,aN,ti7,aN,⟨.slice 44,(.sc .slc),1,24,[(xG eH 0 0)]⟩,aN,aN,afG,afG,⟨.slice 88,(.sc .slc),1,24,[(xG eH 0 0)]⟩,afH,afH,aN,⟨.slice 43,(.sc .slc),1,24,[(xG eH 0 0)]⟩,aN,⟨.slice 58,(.sc .slc),1,24,[(xG eH 0 0)]⟩,⟨.ptr 102,(.sc .ptr),1,8,[(xH eH)]⟩,aN,aN,aN,aN,aN,aN,aN,aN,⟨.other,(.sc .any),1,0,[(.tuple #[(.agg #[(xF xL 0),(xF xL 0),(xF xL 0)]),(xF xL 0),(xG eH 0 0)])]⟩,aN,aN,⟨.slice 61,(.sc .slc),1,24,[(xG eH 0 0)]⟩,aN,⟨.slice 5,(.sc .slc),1,24,[(xG eH 0 0)]⟩,⟨.int .u32,(.sc (.int .u32)),1,4,[(xF xN 0)]⟩,afI,afI,aN,aN,aN,⟨.slice 9,(.sc .slc),1,24,[(xG eH 0 0)]⟩,aN,ti8,aN,aN,⟨.slice 73,(.sc .slc),1,24,[(xG eH 0 0)]⟩,aN,afJ,afJ,aN,⟨.slice 22,(.sc .slc),1,24,[(xG eH 0 0)]⟩,aN,⟨.other,(.sc .any),1,0,[(.tuple #[(xF xL 0),(xG eH 0 0),(.bool .false)])]⟩,aN,aN,aN,aN,⟨.ptr 84,(.sc .ptr),1,8,[(xH eH)]⟩,afK,afK,aN,aN,afL,afL,aN,⟨.array 64 44,(.arr .ptr),64,512,qi 64 (xH eH)⟩,afM,afM,⟨.other,(.sc .any),1,0,[(.tuple #[(.agg #[(xF xL 0),(xF xL 0),(xF xL 0),(xF xL 0),(xF xL 0),(xF xL 0),(xG eH 0 0),(xG eH 0 0)]),(.bool .false)])]⟩,aN,aN,aN,aN,aN,aN,aN,acs,acs,act,act,aN,aN,aN,ti9,aN,aN,aN,aN,aN,⟨.slice 124,(.sc .slc),1,24,[(xG eH 0 0)]⟩,aN,aN,aN,aN,aN,ti9,aN,aN,Us,Us,aN,aN,aN,aN,aN,aN,aN,aN,aN,aN,aN,aN,aN,⟨.slice 145,(.sc .slc),1,24,[(xG eH 0 0)]⟩,aN,aN,aN,ti9,aN,Us,Us,aN,aN,⟨.ptr 155,(.sc .ptr),1,8,[(xH eH)]⟩,ti7,aN,aN,aN,⟨.ptr 225,(.sc .ptr),1,8,[(xH eH)]⟩,acu,acu,⟨.slice 39,(.sc .slc),1,24,[(xG eH 0 0)]⟩,aN,aN,aN,aN,aN,aN,aN,⟨.slice 167,(.sc .slc),1,24,[(xG eH 0 0)]⟩,aN,acv,acv,aN,aN,aN,aN,aN,⟨.other,(.sc .any),1,0,[(.tuple #[(xF xL 0),(.bool .false)])]⟩,aN,aN,aN,ti7,aN,aN,aN,aN,aN,aN,aN,aN,aN,aN,aN,aN,aN,ti4,aN,aN,aN,aN,aN,aN,ti8,aN,aN,aN,⟨.other,(.sc .any),1,0,[(.tuple #[(xG eH 0 0),(.bool .false),(xF xL 0)])]⟩,aN,aN,aN,aN,aN,aN,aN,⟨.other,(.sc .any),1,0,[(.tuple #[(.agg #[(xF xL 0),(xF xL 0),(xF xL 0),(xF xL 0),(xF xL 0),(xF xL 0),(xF xN 0),(xG eH 0 0)]),(.bool .false)])]⟩,aN,aN,aN,aN,aN,aN,aN,aN,aN,⟨.ptr 308,(.sc .ptr),1,8,[(xH eH)]⟩,aN,aN,aN,acw,acw,⟨.cpx,(.sc (.cpx .f64)),1,16,[(.complex Go.FloatKind.f64 0 0)]⟩,aN,⟨.slice 233,(.sc .slc),1,24,[(xG eH 0 0)]⟩,⟨.array 64 4,(.arr .bool),64,64,qi 64 (.bool .false)⟩,⟨.flt,(.sc (.flt .f64)),1,8,[(.float Go.FloatKind.f64 0)]⟩,aN,acx,acx,aN,aN,aN,aN,aN,aN,aN,aN,ti1,ti6,aN,aN,aN,aN,aN,aN,ti4,⟨.ptr 5,(.sc .ptr),1,8,[(xH eH)]⟩,aN,aN,aN,aN,⟨.slice 258,(.sc .slc),1,24,[(xG eH 0 0)]⟩,acy,acy,⟨.ptr 264,(.sc .ptr),1,8,[(xH eH)]⟩,⟨.slice 338,(.sc .slc),1,24,[(xG eH 0 0)]⟩,acz,acz,acA,acA,⟨.slice 4,(.sc .slc),1,24,[(xG eH 0 0)]⟩,⟨.other,(.sc .any),1,0,[(.tuple #[(xG eH 0 0),(xG eH 0 0),(xG eH 0 0),(xF xL 0)])]⟩,aN,aN,⟨.other,(.sc .any),1,0,[(.tuple #[(xG eH 0 0),(xG eH 0 0)])]⟩,aN,aN,aN,⟨.ptr 351,(.sc .ptr),1,8,[(xH eH)]⟩,aN,aN,aN,aN,aN,ti8,aN,⟨.ptr 353,(.sc .ptr),1,8,[(xH eH)]⟩,aN,aN,aN,aN,⟨.slice 288,(.sc .slc),1,24,[(xG eH 0 0)]⟩,acB,acB,⟨.other,(.sc .any),1,0,[(.tuple #[(.agg #[(xF xL 0),(xF xL 0),(xF xL 0),(xG eH 0 0),(xG eH 0 0)]),(.bool .false)])]⟩,aN,⟨.mp,(.sc .mp),1,8,[(.map eH)]⟩,ti9,aN,aN,aN,aN,aN,aN,aN,aN,aN,aN,⟨.array 255 5,(.arr (.int .u8)),255,255,qi 255 (xF xM 0)⟩,aN,⟨.array 256 3,(.arr (.int .i64)),256,2048,qi 256 (xF xL 0)⟩,aN,acC,acC,aN,⟨.ptr 313,(.sc .ptr),1,8,[(xH eH)]⟩,aN,acD,acD,aN,aN,aN,aN,aN,aN,aN,ti4,aN,aN,aN,⟨.ptr 3,(.sc .ptr),1,8,[(xH eH)]⟩,aN,aN,aN,aN,⟨.ptr 332,(.sc .ptr),1,8,[(xH eH)]⟩,acE,acE,aN,⟨.other,(.sc .any),1,0,[(.tuple #[(.agg #[(xG eH 0 0),(xG eH 0 0),(xG eH 0 0)]),(.bool .false)])]⟩,aN,aN,acF,acF,aN,aN,aN,aN,acG,acG,⟨.other,(.sc .any),1,0,[(.tuple #[(.agg (qi 256 (.bool .false)).toArray),(.bool .false)])]⟩,aN,aN,⟨.ptr 344,(.sc .ptr),1,8,[(xH eH)]⟩,aN,acH,acH,acI,acI,aN,aN,aN,aN,aN,aN,aN,aN,aN,aN,aN,aN,aN,aN,aN,aN,aN,aN,aN,aN,aN,aN,aN,aN,aN,aN,aN,aN,⟨.ptr 321,(.sc .ptr),1,8,[(xH eH)]⟩,ti6,aN,aN,⟨.ptr 388,(.sc .ptr),1,8,[(xH eH)]⟩,acJ,acJ,aN,⟨.other,(.sc .any),1,0,[(.tuple #[(.agg #[(xF xL 0),(xF xL 0)]),(.bool .false)])]⟩,aN,aN,⟨.other,(.sc .any),1,0,[(.tuple #[(.int .i32 0),(xF xL 0)])]⟩,aN,aN,aN,aN,⟨.ptr 400,(.sc .ptr),1,8,[(xH eH)]⟩,acK,acK,aN,aN,aN,aN,aN,aN,aN,aN,aN,aN,⟨.array 256 5,(.arr (.int .u8)),256,256,qi 256 (xF xM 0)⟩,acL,acL,⟨.array 16 413,(.arr (.int .u8)),32,32,qi 32 (xF xM 0)⟩,aN,acM,acM,⟨.array 0 16,(.arr .ptr),0,0,[]⟩,acN,acN,ti2,ti2,aN,ti5,ti5,acO,acO,⟨.other,(.sc .any),1,8,[(xH eH)]⟩]
noncomputable def aaw:List (TypeId×List Ty):=[(0,[]),(26,[(.sc (.int .i64)),(.sc (.int .i64))]),(30,[(.sc .ptr),(.sc (.int .i64))]),(53,[(.agg [(.int .i64),(.int .i64),(.int .i64)]),(.sc (.int .i64)),(.sc .slc)]),(67,[(.sc .slc),(.sc (.int .i64))]),(77,[(.sc (.int .i64)),(.sc .slc),(.sc .bool)]),(93,[(.agg [(.int .i64),(.int .i64),(.int .i64),(.int .i64),(.int .i64),(.int .i64),.slc,.slc]),(.sc .bool)]),(108,[(.sc .slc),(.sc .bool)]),(120,[(.sc .slc),(.sc .bool)]),(142,[(.sc .slc),(.sc .bool)]),(149,[(.sc .ptr),(.sc (.int .i64))]),(173,[(.sc (.int .i64)),(.sc .bool)]),(177,[(.sc .ptr),(.sc (.int .i64))]),(198,[(.sc .slc),(.sc (.int .i64))]),(202,[(.sc .slc),(.sc .bool),(.sc (.int .i64))]),(210,[(.agg [(.int .i64),(.int .i64),(.int .i64),(.int .i64),(.int .i64),(.int .i64),(.int .u32),.slc]),(.sc .bool)]),(243,[(.sc (.int .i64)),(.sc (.int .i64))]),(266,[(.sc .slc),(.sc .slc),(.sc .slc),(.sc (.int .i64))]),(269,[(.sc .slc),(.sc .slc)]),(279,[(.sc .slc),(.sc (.int .i64))]),(289,[(.agg [(.int .i64),(.int .i64),(.int .i64),.slc,.slc]),(.sc .bool)]),(292,[(.sc .slc),(.sc .bool)]),(334,[(.agg [.slc,.slc,.slc]),(.sc .bool)]),(345,[(.arr .bool),(.sc .bool)]),(383,[(.sc (.int .i64)),(.sc (.int .i64))]),(390,[(.agg [(.int .i64),(.int .i64)]),(.sc .bool)]),(393,[(.sc (.int .i32)),(.sc (.int .i64))])]
noncomputable def C:Ctx:={P:=xP,T:=SI,tup:=aaw,fns:=[false,false]++qi 342 true++qi 22 false++[true]}
theorem agM:(List.range C.T.length).map (kr.seen C.P)=C.T.map kr.told:=j4
theorem adJ:C.P.follows .mixedOrders=true:=j4
theorem agN:(C.P.funcs.toList.map λf=>!(f.name== "runtime.NumGoroutine")&&f.body.isSome)=C.fns:=j4
theorem aj:C.Ok:={SI:=agM,mixed:=adJ,fns:=agN}
abbrev Me:=an xP
abbrev Ca:=oU xP
abbrev Ra:=oT xP
abbrev Rr:=bz xP
abbrev Ru{α:Type}:=au (α:=α) xP
theorem tie{f:FuncId}{b:Func}(c:Tryz.prog.funcs[f]?=some b)(a:cN){args:aT}{R:Aw}{h:Heap}{Q:Prop}(d:Q) (g:xo args.length b.ntmps=true:=by kernel_rfl) (e:Wc C b 300 a args R h=Q:=by kernel_rfl):an xP f args.toArray h R:=aeC aj c a d g e
theorem CP:C.P=xP:=rfl
theorem CU:C.tup=aaw:=rfl
noncomputable def tbF(t:Nat):TI:=Rk.np Rk.Tu SI t
theorem ts{f:FuncId}{b:Func}(d:Tryz.prog.funcs[f]?=some b){args:aT}{R:Aw}{h:Heap}{Q:Prop}{c:Code}{rs:List ResultVar}(i:Q)(a:cN:=.n)(S:List (Nat×Rk.Sd):=[]) (k:b.body=some c:=by exact rfl) (g:b.results=rs.toArray:=by exact rfl) (j:Rk.bi C tbF S R 100000 (.ex c a (.top rs) (Rk.TH 0 args)) h=Q:=by dsimp only[Rk.aeD,Rk.Ts,Rk.Gy,Rk.Mz,Rk.aeE,Rk.fc,Rk.HL,Rk.MB,Rk.HM,Rk.Tt,Rk.aeF,Rk.ZF,Rk.Gz,Rk.np,Rk.MY,Rk.MZ,Rk.rz,Rk.ZG,Rk.Tu,Rk.aeG,Rk.Tv,Rk.HN,Rk.aeH,Rk.aeI,Rk.aeJ,Rk.aeK,Rk.abT,Rk.aeL,Rk.abU,Rk.aeM,Rk.aeN,Rk.aeO,Rk.aeP,Rk.aeQ,Rk.aeR,Rk.aeS,Rk.Na,Rk.aeT,Rk.Tw,Rk.aeU,Rk.abV,Rk.aeV,Rk.aeW,Rk.Sj,Rk.abW,Rk.Wd,Rk.Tx,Rk.aeX,Rk.abX,Rk.Tz,Rk.We,Rk.Wf,Rk.ZH,Rk.TA,Rk.ZI,Rk.TB,Rk.abY,Rk.abZ,Rk.aca,Rk.acb,Rk.Nb,Rk.Nc,Rk.Wg,Rk.acd,Rk.ace,Rk.HO,Rk.TC,Rk.acf,Rk.HQ,Rk.ZJ,Rk.JF,Rk.Nd,Rk.JG,Rk.HR,Rk.ZK,Rk.JH,Rk.HS,Rk.HT,Rk.ZL,Rk.ZM,Rk.acg,Rk.ZN,Rk.TD,Rk.Nf,Rk.MC,Rk.GA,Rk.ach,Rk.JI,Rk.oh,Rk.TE,Rk.ZO,Rk.TF,Rk.TG,Rk.bi,Rk.TH,Rk.agA,Rk.agB,Rk.agC,Rk.aeY,Rk.aeZ,undef,Nat.reduceAdd,Nat.reduceBEq,Nat.reduceSub,Nat.reduceMul,tbF,CP,CU,aaw,Sc.den,Sc.enc,Ty.den,Ty.enc,Rt.den,Rt.enc,Aq,nJ,My,Tl,dG.den,SI]) (l:xo args.length b.ntmps=true:=by kernel_rfl) (e:Wc C b 300 a args R h=Q:=by kernel_rfl):an xP f args.toArray h R:=Si aj d (Nat.le_of_ble_eq_true l) (cast e.symm i)
theorem te(b:Sl)(F:Ra (yQ 36 true (.tuple #[])) h λv A=>Ca 56 #[b,(xF xL 0)] kV A λK B=>Ca 56 #[b,(xF xL 1)] kV B λJ h3=>Ca 56 #[b,(xF xL 2)] kV h3 λx E=>Ca 55 #[K,J,x] (.one (.agg [(.int .i64),(.int .i64),(.int .i64)])) E λy w=>Ra (yQ 36 true (.tuple #[])) w λd z=>Ru (qG 36 d y) z λ_ D=>gK (σ:=Sl×Int) (λg K1 h8=>Ca 56 #[b,(xF xL 4)] kV h8 λH I=>Ca 54 #[H,(xF xL 4)] kV I λG e=>Br (g.2<(qe xL (2+G))) (Ca 56 #[b,(qe xL (5+g.2))] kV e λt l=>Ca 54 #[t,(xF xL 50)] kV l λo s=>Rr (zL 22 1 #[(0,(qe xL (8+o)))]) Oh s λk m=>Rr (zx #[22,22] 22 #[g.1,k]) Oh m λr q=>K1 (r,qe xL (g.2+1)) q) (∃a:Og,bn e d 0 a/\Ca 56 #[b,(xF xL 3)] kV e λu j=>(bR.ok [(d,a.1),(d.add 1,a.2.1),(d.add 2,a.2.2)] j)/\Ca 54 #[u,(xF xL 7)] kV j λp i=>(bR.ok [(d,a.1),(d.add 1,a.2.1),(d.add 2,a.2.2)] i)/\Ru (qG 36 v a) i λ_ f=>(bR.ok [] f)/\∃c:Og,bn f v 0 c/\R (.tuple #[c,p,g.1]) f)) ((⟨eH,0,0⟩:Sl),(0:Int)) D):Me 21 #[b] h R:=tie func21 (cN.tn (cN.tn (cN.tn (cN.tn (.two (cN.tn (.inn (.loop [(7,cL),(8,aQ)] [(7,9),(16,35)] .n))) .n))))) F
theorem ur(j:Og)(b:Sl)(d:Int)(c:Bool)(W:Ra (vC 36 j) h λP U=>uX (σ:=Sl) (λD z=>R D z) (λK1=>gK (σ:=Sl×Int) (λa L x=>uX (σ:=Unit) (λ_ h3=>uX (σ:=Sl) (λI o=>∃k:Og,bn o P 0 k/\uq b a.2 λe=>sN o (e.add (a.2.toNat*1)) λf=>((5:Int)≠0)/\uq b (qe xL (a.2+1)) λA=>sN o (A.add ((qe xL (a.2+1)).toNat*1)) λr=>uq b (qe xL (a.2+2)) λF=>sN o (F.add ((qe xL (a.2+2)).toNat*1)) λs=>Ca 64 #[k,(qe xL (vm f 5)),r,s] (.one (.agg [(.int .i64),.str,.slc,(.int .i64),(.int .i64),(.int .i64),(.int .u32),.slc,.slc])) o λH i=>(bR.ok [(e.add (a.2.toNat*1),f)] i)/\Rr (zL 56 1 #[(0,H)]) Oh i λy l=>(bR.ok [(e.add (a.2.toNat*1),f)] l)/\Rr (zx #[56,56] 56 #[I,y]) Oh l λw m=>(bR.ok [(e.add (a.2.toNat*1),f)] m)/\L (w,qe xL (a.2+3)) m) (λS=>uX (σ:=Bool) (λO g=>Br O (uq b a.2 λq=>sN g (q.add (a.2.toNat*1)) λp=>((5:Int)≠0)/\uq b (qe xL (a.2+1)) λG=>sN g (G.add ((qe xL (a.2+1)).toNat*1)) λB=>uq b (qe xL (a.2+2)) λt=>sN g (t.add ((qe xL (a.2+2)).toNat*1)) λu=>Ca 63 #[(qe xL (vm p 5)),B,u] (.one (.agg [(.int .i64),.str,.slc,(.int .i64),(.int .i64),(.int .i64),(.int .u32),.slc,.slc])) g λv M=>(bR.ok [(q.add (a.2.toNat*1),p)] M)/\Rr (zL 56 1 #[(0,v)]) Oh M λE N=>(bR.ok [(q.add (a.2.toNat*1),p)] N)/\Rr (zx #[56,56] 56 #[a.1,E]) Oh N λJ h8=>(bR.ok [(q.add (a.2.toNat*1),p)] h8)/\L (J,qe xL (a.2+3)) h8) (S a.1 g)) (λK=>Br c (uq b a.2 λa4=>sN h3 (a4.add (a.2.toNat*1)) λT=>Ca 54 #[T,(xF xL 5)] kV h3 λX V=>K (X==4) V) (K false h3)))) (λQ=>Br ((qe xL (a.2+2))<(b.len:Int)) (Br ((a.1.len:Int)<d) (Q () x) (K1 a.1 x)) (K1 a.1 x))) ((⟨eH,0,0⟩:Sl),(0:Int)) U)):Me 24 #[j,b,d,c] h R:=tie func24 (cN.tn (cN.tn (.two (.join [(9,cL)] [(9,72)] (cN.tn (.inn (.loop [(9,cL),(10,aQ)] [(9,72)] (.two (.join [] [(11,22)] .n) (.two (.inn (.two (.join [(9,cL)] [(9,10),(24,52)] (.two (.join [(32,sM)] [(24,33)] .n) .n)) .n)) .n)))))) .n))) W
theorem ut(c:Int)(d:Int)(b:Int)(i:Ra (yQ 36 true (.tuple #[])) h λf j=>Ca 54 #[c,(xF xL 6)] kV j λl k=>Ca 54 #[d,(xF xL 3)] kV k λm h3=>Ca 54 #[b,(xF xL 9)] kV h3 λo g=>Ru (qG 36 f (xK #[(qe xL (1+l)),(qe xL (1+m)),(qe xL (1+o))])) g λ_ e=>∃a:Og,bn e f 0 a/\R a e):Me 55 #[c,d,b] h R:=tie func55 .n i
theorem uU(v:Og)(E:Int)(a:Int)(c:Int)(hm:Ra (vC 36 v) h λr h1=>Ra (yQ 61 true (.tuple #[])) h1 λb h2=>Ca 54 #[E,(xF xL 26)] kV h2 λq h3=>Br (q<8) (((5:Int)≠0)/\sN h3 r λH=>sN h3 (r.add 2) λG=>Ca 108 #[a] (.one tyT) h3 λr6 h4=>(bR.ok [(r.add 2,G),(r,H)] h4)/\Ca 54 #[(qe xL (vm a 5)),(qe xL ((qe xL ((qe xL (3*H))*G))+2))] kV h4 λr7 h5=>(bR.ok [(r.add 2,G),(r,H)] h5)/\Ca 109 #[r7,c] Oh h5 λr8 h6=>(bR.ok [(r.add 2,G),(r,H)] h6)/\Ru (qG 61 b (xK #[(xF xL 1),r6,r8,(xF xL 0),(xF xL 0),(xF xL 0),(xF xN 0),(xG eH 0 0),(xG eH 0 0)])) h6 λ_ Z=>(bR.ok [] Z)/\∃s:CW,bn Z b 0 s/\R s Z) (Br (q<11) (Ca 108 #[a] (.one tyT) h3 λax h8=>Ru (qG 61 b (xK #[(xF xL 2),ax,(xG eH 0 0),(xF xL 0),(xF xL 0),(xF xL 0),(xF xN 0),(xG eH 0 0),(xG eH 0 0)])) h8 λ_ h9=>∃m:CW,bn h9 b 0 m/\R m h9) (Br (q<13) (Ca 108 #[a] (.one tyT) h3 λT O=>Ru (qG 61 b (xK #[(xF xL 3),T,(xG eH 0 0),(xF xL 0),(xF xL 0),(xF xL 0),(xF xN 0),(xG eH 0 0),(xG eH 0 0)])) O λ_ w=>∃i:CW,bn w b 0 i/\R i w) (Br (q==13) (Ru (qG 61 b (xK #[(xF xL 4),rX,(xG eH 0 0),(xF xL 0),(xF xL 0),(xF xL 0),(xF xN 0),(xG eH 0 0),(xG eH 0 0)])) h3 λ_ B=>∃j:CW,bn B b 0 j/\R j B) (Br (q==14) (Ca 108 #[a] (.one tyT) h3 λa0 W=>Ru (qG 61 b (xK #[(xF xL 5),a0,(xG eH 0 0),(xF xL 0),(xF xL 0),(xF xL 0),(xF xN 0),(xG eH 0 0),(xG eH 0 0)])) W λ_ x=>∃k:CW,bn x b 0 k/\R k x) (Br (q==15) (Ca 54 #[a,(xF xL 9)] kV h3 λad ao=>Ca 54 #[c,(xF xL 60)] kV ao λay V=>Ru (qG 61 b (xK #[(xF xL 6),rX,(xG eH 0 0),ad,(qe xL (6+ay)),(xF xL 0),(xF xN 0),(xG eH 0 0),(xG eH 0 0)])) V λ_ y=>∃l:CW,bn y b 0 l/\R l y) (Br (q==16) (Ca 54 #[a,(xF xL 8)] kV h3 λM Y=>Ru (qG 61 b (xK #[(xF xL 7),rX,(xG eH 0 0),M,(xF xL 0),(xF xL 0),(xF xN 0),(xG eH 0 0),(xG eH 0 0)])) Y λ_ u=>∃e:CW,bn u b 0 e/\R e u) (Br (q==17) (Ca 54 #[a,(xF xL 8)] kV h3 λar al=>Ca 54 #[c,(xF xL 60)] kV al λah K=>Ru (qG 61 b (xK #[(xF xL 8),rX,(xG eH 0 0),ar,(qe xL (6+ah)),(xF xL 0),(xF xN 0),(xG eH 0 0),(xG eH 0 0)])) K λ_ z=>∃g:CW,bn z b 0 g/\R g z) (Br (q==18) (Ca 54 #[a,(xF xL 8)] kV h3 λa5 X=>Ru (qG 61 b (xK #[(xF xL 9),rX,(xG eH 0 0),a5,(xF xL 0),(xF xL 0),(xF xN 0),(xG eH 0 0),(xG eH 0 0)])) X λ_ F=>∃d:CW,bn F b 0 d/\R d F) (Br (q<22) (Ca 54 #[a,(xF xL 3)] kV h3 λS Q=>Ca 54 #[c,(xF xL 20)] kV Q λa3 I=>Ru (qG 61 b (xK #[(xF xL 10),rX,(xG eH 0 0),(xF xL 0),S,a3,(xF xN 0),(xG eH 0 0),(xG eH 0 0)])) I λ_ D=>∃p:CW,bn D b 0 p/\R p D) (Br (q==22) (Ca 54 #[a,(xF xL 9)] kV h3 λL ab=>Ca 54 #[c,(xF xL 70)] kV ab λap a4=>Ru (qG 61 b (xK #[(xF xL 10),rX,(xG eH 0 0),(xF xL 0),(qe xL (L-1)),(qe xL (ap-1)),(xF xN 0),(xG eH 0 0),(xG eH 0 0)])) a4 λ_ A=>∃o:CW,bn A b 0 o/\R o A) (Ca 54 #[a,(xF xL 7)] kV h3 λN U=>((7:Int)≠0)/\Ca 54 #[(qe xL (vm a 7)),(xF xL 40)] kV U λa6 J=>Ca 54 #[c,(xF xL 61)] kV J λam P=>Ru (qG 61 b (xK #[(xF xL 11),rX,(xG eH 0 0),N,a6,am,(xF xN (qe xN ((qe xN ((qe xN c)*2654435761))+(qe xN a)))),(xG eH 0 0),(xG eH 0 0)])) P λ_ t=>∃f:CW,bn t b 0 f/\R f t)))))))))))):Me 64 #[v,E,a,c] h R:=tie func64 .n hm
theorem AX(a:Og)(d:Ra (vC 36 a) h λc b=>sN b c λx2=>sN b (c.add 2) λx3=>R (qe xL (x2*x3)) b):Me 112 #[a] h R:=tie func112 .n d
theorem ir(b:Sl)(a:JJ)(g:gK (σ:=Int) (λc K1 d=>Br (c<(b.len:Int)) (uq b c λf=>∃x3:Tu1,bn d (f.add (c.toNat*4)) 0 x3/\tV C a.1 (a.2.1.toList++[(xK #[x3.1,x3.2.1,x3.2.2.1,x3.2.2.2])]++a.2.2.toList) Lh d λi e=>Br i (R c e) (K1 (qe xL (c+1)) e)) (R (xF xL (-1:Int)) d)) (0:Int) h):Me 125 #[b,(.func (.func a.1) a.2.1 a.2.2)] h R:=tie func125 (cN.tn (.two (cN.tn (.inn (.loop [(8,aQ)] [(4,6),(8,19)] .n))) .n)) g
theorem mW(a:Sl)(b:Int)(f:gK (σ:=Int) (λc K1 d=>Br (c<(a.len:Int)) (uq a c λe=>sN d (e.add (c.toNat*1)) λx3=>Br (b==x3) (R c d) (K1 (qe xL (c+1)) d)) (R (xF xL (-1:Int)) d)) (0:Int) h):Me 128 #[a,b] h R:=tie func128 (cN.tn (.two (cN.tn (.inn (.loop [(8,aQ)] [(4,6),(8,19)] .n))) .n)) f
theorem Ke(b:Tu1)(a:Addr)(d:Ra (vC 88 b) h λe c=>sN c (e.add 1) λx2=>sN c (a.add 1) λx3=>R (xJ (x2==x3)) c):Me 151 #[b,a] h R:=tie func151 .n d
theorem AY(a:Sl)(e:gK (σ:=Int) (λc K1 b=>Br (c<(a.len:Int)) (uq a c λd=>sN b (d.add (c.toNat*1)) λx3=>Br (x3 !=0) (R x3 b) (K1 (qe xL (c+1)) b)) (R (xF xL 0) b)) (0:Int) h):Me 170 #[a] h R:=tie func170 (cN.tn (cN.tn (.two (cN.tn (.inn (.loop [(8,aQ)] [(2,3),(5,6),(8,17)] .n))) .n))) e
theorem iN(b:Sl)(a:JJ)(g:gK (σ:=Int) (λc K1 d=>Br (c<(b.len:Int)) (uq b c λf=>sN d (f.add (c.toNat*1)) λx3=>tV C a.1 (a.2.1.toList++[(xF xL x3)]++a.2.2.toList) Lh d λi e=>Br i (R c e) (K1 (qe xL (c+1)) e)) (R (xF xL (-1:Int)) d)) (0:Int) h):Me 175 #[b,(.func (.func a.1) a.2.1 a.2.2)] h R:=tie func175 (cN.tn (.two (cN.tn (.inn (.loop [(8,aQ)] [(4,6),(8,19)] .n))) .n)) g
theorem GU(b:Sl)(a:Addr)(d:LdS h a λc=>Ca 46 #[b,c] Lh h λf e=>R f e):Me 190 #[b,a] h R:=tie func190 .n d
theorem lB(b:Sl)(a:JJ)(g:gK (σ:=Int) (λc K1 d=>Br (c<(b.len:Int)) (uq b c λf=>∃x3:Int×Sl,bn d (f.add (c.toNat*2)) 0 x3/\tV C a.1 (a.2.1.toList++[(xK #[x3.1,x3.2])]++a.2.2.toList) Lh d λi e=>Br i (R c e) (K1 (qe xL (c+1)) e)) (R (xF xL (-1:Int)) d)) (0:Int) h):Me 191 #[b,(.func (.func a.1) a.2.1 a.2.2)] h R:=tie func191 (cN.tn (.two (cN.tn (.inn (.loop [(8,aQ)] [(4,6),(8,19)] .n))) .n)) g
theorem GV(a:Int)(c:Ca 147 #[a,(xF xL 0),(xF xL 15)] Lh h λd b=>R (xJ (!d)) b):Me 218 #[a] h R:=tie func218 .n c
end Go.Qw
