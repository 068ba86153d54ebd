/- Lemmas for the proof of the law; no condition. -/
import Derived.Test.YtplpfpidgljdhaaGreatDoorPlA
import Derived.Test.YtplpfpidgljdhaaGreatDoorProg
set_option linter.unusedVariables false
open Go.Proofs.Tryz renaming prog -> xQ
open Go.Value renaming agg -> xL, bool -> xK, int -> xG, pointer -> xI, slice -> xH, string -> xJ
open Go.IntKind renaming i64 -> xM, u32 -> xO, u64 -> xP, u8 -> xN, wrap -> qe
open List renaming replicate -> qi, toArray -> yH
open Nat renaming ble -> xq
open Go.Instr renaming alloc -> yJ, box -> vQ, storeAt -> qE
open Int renaming tdiv -> vJ
open Go.Proofs.Tryz
set_option maxRecDepth 1000000
open Option renaming none -> ez
open Go renaming Value -> eR
namespace Go.Qw
open Go.Proofs
instance:Coe Int eR:=⟨λx=>xG xM x⟩
instance:Coe Sl eR:=⟨λs=>xH s.ptr s.len s.cap⟩
instance:Coe ByteArray eR:=⟨.string⟩
instance:Coe (Option Addr) eR:=⟨.pointer⟩
instance:Coe Addr eR:=⟨λa=>xI (some a)⟩
instance:Coe Bool eR:=⟨.bool⟩
instance:Coe (Int×Int×Int×Int×Int×Int×Sl×Sl) (List eR):=⟨λx=>[x.1,x.2.1,x.2.2.1,x.2.2.2.1,x.2.2.2.2.1,x.2.2.2.2.2.1,x.2.2.2.2.2.2.1,x.2.2.2.2.2.2.2]⟩
instance:Coe (Int×Int×Int×Int×Int×Int×Sl×Sl) eR:=⟨λx=>xL (yH x)⟩
instance:Coe (Int×Int×Int) (List eR):=⟨λx=>[x.1,x.2.1,x.2.2]⟩
instance:Coe (Int×Int×Int) eR:=⟨λx=>xL (yH x)⟩
instance:Coe (Int×ByteArray×Sl×Int×Int×Int×Int×Sl×Sl) (List eR):=⟨λx=>[x.1,x.2.1,x.2.2.1,x.2.2.2.1,x.2.2.2.2.1,x.2.2.2.2.2.1,(xG xO x.2.2.2.2.2.2.1),x.2.2.2.2.2.2.2.1,x.2.2.2.2.2.2.2.2]⟩
instance:Coe (Int×ByteArray×Sl×Int×Int×Int×Int×Sl×Sl) eR:=⟨λx=>xL (yH x)⟩
instance:Coe (ByteArray×Int×Int×Sl) (List eR):=⟨λx=>[x.1,x.2.1,x.2.2.1,x.2.2.2]⟩
instance:Coe (ByteArray×Int×Int×Sl) eR:=⟨λx=>xL (yH x)⟩
instance:Coe (Int×Sl) (List eR):=⟨λx=>[x.1,x.2]⟩
instance:Coe (Int×Sl) eR:=⟨λx=>xL (yH x)⟩
instance:Coe (Int×Int×Int×Int×Int×Int×Int×Sl) (List eR):=⟨λx=>[x.1,x.2.1,x.2.2.1,x.2.2.2.1,x.2.2.2.2.1,x.2.2.2.2.2.1,(xG xO x.2.2.2.2.2.2.1),x.2.2.2.2.2.2.2]⟩
instance:Coe (Int×Int×Int×Int×Int×Int×Int×Sl) eR:=⟨λx=>xL (yH x)⟩
instance:Coe (Int×Int×Int×Sl×Sl) (List eR):=⟨λx=>[x.1,x.2.1,x.2.2.1,x.2.2.2.1,x.2.2.2.2]⟩
instance:Coe (Int×Int×Int×Sl×Sl) eR:=⟨λx=>xL (yH x)⟩
instance:Coe (Sl×Sl) (List eR):=⟨λx=>[x.1,x.2]⟩
instance:Coe (Sl×Sl) eR:=⟨λx=>xL (yH x)⟩
instance:Coe (Sl×Sl×Sl) (List eR):=⟨λx=>[x.1,x.2.1,x.2.2]⟩
instance:Coe (Sl×Sl×Sl) eR:=⟨λx=>xL (yH x)⟩
instance:Coe (Int×Int) (List eR):=⟨λx=>[x.1,x.2]⟩
instance:Coe (Int×Int) eR:=⟨λx=>xL (yH x)⟩
abbrev Hy(h:Heap)(a:Addr)(k:Int->Prop):Prop:=∃x,cellOf h a=some (xG xM x)/\k x
abbrev LdK(i:IntKind)(h:Heap)(a:Addr)(k:Int->Prop):Prop:=∃x:Int,cellOf h a=some (.int i x)/\k x
abbrev LdS(h:Heap)(a:Addr)(k:Sl->Prop):Prop:=∃x:Sl,cellOf h a=some (x:eR)/\k x
abbrev Nw(s:Sl)(i:Int)(k:Addr->Prop):Prop:=∃a,(s.ptr=some a/\0<=i/\i<((s.len:Nat):Int))/\k a
abbrev Wk:=Int×Int×Int
abbrev Tu1:=ByteArray×Int×Int×Sl
abbrev Cf:=Int×ByteArray×Sl×Int×Int×Int×Int×Sl×Sl
abbrev rtS:Rt:=.one (.sc .slc)
abbrev kW:Rt:=.one (.sc (.int .i64))
abbrev RR:Rt:=.one (.sc .bool)
abbrev cK:Ty:=.sc .slc
abbrev aS:Ty:=.sc (.int .i64)
abbrev Nv:Ty:=.sc .ptr
abbrev rS:Ty:=.sc .bool
abbrev tyT:Ty:=.sc .str
variable {R:wf} {h:Heap}
def agK:ByteArray:=⟨#[0]⟩
def agD:ByteArray:=⟨#[97]⟩
def agE:ByteArray:=⟨#[98]⟩
def afP:ByteArray:=⟨#[99,97,116,45,55]⟩
def agF:ByteArray:=⟨#[100]⟩
def Wm:ByteArray:=⟨#[101,49,50,51,52,53,54,55,56,57,48,49]⟩
def rn:ByteArray:=⟨#[]⟩
abbrev aK:TI:=⟨.fn,(.sc .fn),1,8,[.nilFunc]⟩
abbrev ti1:TI:=⟨.int .i64,(.sc (.int .i64)),1,8,[(xG xM 0)]⟩
abbrev ti2:TI:=⟨.int .u8,(.sc (.int .u8)),1,1,[(xG xN 0)]⟩
abbrev ti3:TI:=⟨.str,(.sc .str),1,16,[(.string ⟨#[]⟩)]⟩
abbrev ti4:TI:=⟨.int .u64,(.sc (.int .u64)),1,8,[(xG xP 0)]⟩
abbrev ti5:TI:=⟨.int .i32,(.sc (.int .i32)),1,4,[(.int .i32 0)]⟩
abbrev ti6:TI:=⟨.other,(.sc .any),1,0,[(.tuple #[(xG xM 0),(xG xM 0)])]⟩
abbrev ti7:TI:=⟨.other,(.sc .any),1,0,[(.tuple #[(xI ez),(xG xM 0)])]⟩
abbrev ti8:TI:=⟨.other,(.sc .any),1,0,[(.tuple #[(xH ez 0 0),(xG xM 0)])]⟩
abbrev ti9:TI:=⟨.other,(.sc .any),1,0,[(.tuple #[(xH ez 0 0),(.bool .false)])]⟩
abbrev TA:TI:=⟨.struct [(0,3),(1,58)],(.agg [(.int .i64),.slc]),2,32,[(xG xM 0),(xH ez 0 0)]⟩
abbrev aeI:TI:=⟨.struct [(0,2),(1,3),(2,4),(3,6)],(.agg [(.int .i64),(.int .i64),.bool,(.int .u8)]),4,24,[(xG xM 0),(xG xM 0),(.bool .false),(xG xN 0)]⟩
abbrev aeJ:TI:=⟨.struct [(0,9),(1,12)],(.agg [.str,(.int .u64)]),2,24,[(xJ ⟨#[]⟩),(xG xP 0)]⟩
abbrev aeK:TI:=⟨.struct [(0,17)],(.agg [.ptr]),1,8,[(xI ez)]⟩
abbrev aeL:TI:=⟨.struct [(0,3),(1,3),(2,3)],(.agg [(.int .i64),(.int .i64),(.int .i64)]),3,24,[(xG xM 0),(xG xM 0),(xG xM 0)]⟩
abbrev aeM:TI:=⟨.struct [(0,3),(1,3),(2,36),(5,3),(6,22),(7,37)],(.agg [(.int .i64),(.int .i64),(.int .i64),(.int .i64),(.int .i64),(.int .i64),.slc,.slc]),8,96,[(xG xM 0),(xG xM 0),(xG xM 0),(xG xM 0),(xG xM 0),(xG xM 0),(xH ez 0 0),(xH ez 0 0)]⟩
abbrev aeN:TI:=⟨.struct [(0,3),(1,9),(2,58),(3,3),(4,3),(5,3),(6,59),(7,22),(8,22)],(.agg [(.int .i64),.str,.slc,(.int .i64),(.int .i64),(.int .i64),(.int .u32),.slc,.slc]),9,128,[(xG xM 0),(xJ ⟨#[]⟩),(xH ez 0 0),(xG xM 0),(xG xM 0),(xG xM 0),(xG xO 0),(xH ez 0 0),(xH ez 0 0)]⟩
abbrev aeO:TI:=⟨.struct [(0,3),(1,3),(2,59)],(.agg [(.int .i64),(.int .i64),(.int .u32)]),3,24,[(xG xM 0),(xG xM 0),(xG xO 0)]⟩
abbrev aeP:TI:=⟨.struct [(0,23),(1,39),(9,22),(10,3),(11,3),(12,3)],(.agg [.ptr,(.int .i64),(.int .i64),(.int .i64),(.int .i64),(.int .i64),(.int .i64),.slc,.slc,.slc,(.int .i64),(.int .i64),(.int .i64)]),13,152,[(xI ez),(xG xM 0),(xG xM 0),(xG xM 0),(xG xM 0),(xG xM 0),(xG xM 0),(xH ez 0 0),(xH ez 0 0),(xH ez 0 0),(xG xM 0),(xG xM 0),(xG xM 0)]⟩
abbrev aeQ:TI:=⟨.struct [(0,9),(1,3),(2,3),(3,22)],(.agg [.str,(.int .i64),(.int .i64),.slc]),4,56,[(xJ ⟨#[]⟩),(xG xM 0),(xG xM 0),(xH ez 0 0)]⟩
abbrev aeR:TI:=⟨.struct [(0,39),(8,28),(9,3),(10,90)],(.arr .any),74,624,[(xG xM 0),(xG xM 0),(xG xM 0),(xG xM 0),(xG xM 0),(xG xM 0),(xH ez 0 0),(xH ez 0 0),(xI ez),(xG xM 0)]++qi 64 (xI ez)⟩
abbrev abx:TI:=⟨.struct [(0,28),(1,3),(2,43),(3,3),(4,43),(5,4),(6,4)],(.agg [.ptr,(.int .i64),.slc,(.int .i64),.slc,.bool,.bool]),7,80,[(xI ez),(xG xM 0),(xH ez 0 0),(xG xM 0),(xH ez 0 0),(.bool .false),(.bool .false)]⟩
abbrev aby:TI:=⟨.struct [(0,4),(1,4),(2,3),(3,3)],(.agg [.bool,.bool,(.int .i64),(.int .i64)]),4,24,[(.bool .false),(.bool .false),(xG xM 0),(xG xM 0)]⟩
abbrev abz:TI:=⟨.struct [(0,3),(1,3),(2,59),(3,153),(4,75),(5,22)],(.agg [(.int .i64),(.int .i64),(.int .u32),.ptr,.slc,.slc]),6,80,[(xG xM 0),(xG xM 0),(xG xO 0),(xI ez),(xH ez 0 0),(xH ez 0 0)]⟩
abbrev abA:TI:=⟨.struct [(0,3),(1,3),(2,3),(3,36),(6,59),(7,58)],(.agg [(.int .i64),(.int .i64),(.int .i64),(.int .i64),(.int .i64),(.int .i64),(.int .u32),.slc]),8,80,[(xG xM 0),(xG xM 0),(xG xM 0),(xG xM 0),(xG xM 0),(xG xM 0),(xG xO 0),(xH ez 0 0)]⟩
abbrev abB:TI:=⟨.struct [(0,36),(3,59),(4,43)],(.agg [(.int .i64),(.int .i64),(.int .i64),(.int .u32),.slc]),5,56,[(xG xM 0),(xG xM 0),(xG xM 0),(xG xO 0),(xH ez 0 0)]⟩
abbrev abC:TI:=⟨.struct [(0,3),(1,230)],(.agg [(.int .i64),(.flt .f64)]),2,16,[(xG xM 0),(.float Go.FloatKind.f64 0)]⟩
abbrev abD:TI:=⟨.struct [(0,22),(1,58)],(.agg [.slc,.slc]),2,48,[(xH ez 0 0),(xH ez 0 0)]⟩
abbrev abE:TI:=⟨.struct [(0,260),(1,22),(2,22)],(.agg [.slc,.slc,.slc]),3,72,[(xH ez 0 0),(xH ez 0 0),(xH ez 0 0)]⟩
abbrev abF:TI:=⟨.struct [(0,220),(1,36),(4,43),(5,256),(6,262),(9,43),(10,43)],(.agg [.ptr,(.int .i64),(.int .i64),(.int .i64),.slc,.slc,.slc,.slc,.slc,.slc,.slc]),11,200,[(xI ez),(xG xM 0),(xG xM 0),(xG xM 0),(xH ez 0 0),(xH ez 0 0),(xH ez 0 0),(xH ez 0 0),(xH ez 0 0),(xH ez 0 0),(xH ez 0 0)]⟩
abbrev abG:TI:=⟨.struct [(0,3),(1,3),(2,3),(3,58),(4,58)],(.agg [(.int .i64),(.int .i64),(.int .i64),.slc,.slc]),5,72,[(xG xM 0),(xG xM 0),(xG xM 0),(xH ez 0 0),(xH ez 0 0)]⟩
abbrev abH:TI:=⟨.struct [(0,303),(255,305)],(.arr .any),511,2304,qi 255 (xG xN 0)++qi 256 (xG xM 0)⟩
abbrev abI:TI:=⟨.struct [(0,226),(1,226),(2,3),(3,3),(4,4)],(.agg [(.cpx .f64),(.cpx .f64),(.int .i64),(.int .i64),.bool]),5,56,[(.complex Go.FloatKind.f64 0 0),(.complex Go.FloatKind.f64 0 0),(xG xM 0),(xG xM 0),(.bool .false)]⟩
abbrev abJ:TI:=⟨.struct [(0,256),(1,265),(2,43)],(.agg [.slc,.slc,.slc]),3,72,[(xH ez 0 0),(xH ez 0 0),(xH ez 0 0)]⟩
abbrev abK:TI:=⟨.struct [(0,3),(1,3)],(.agg [(.int .i64),(.int .i64)]),2,16,[(xG xM 0),(xG xM 0)]⟩
abbrev abL:TI:=⟨.array 256 4,(.arr .bool),256,256,qi 256 (.bool .false)⟩
abbrev abM:TI:=⟨.struct [(0,250)],(.agg [(.int .u64)]),1,8,[(xG xP 0)]⟩
abbrev abN:TI:=⟨.struct [(0,220),(1,3),(2,43)],(.agg [.ptr,(.int .i64),.slc]),3,40,[(xI ez),(xG xM 0),(xH ez 0 0)]⟩
abbrev abO:TI:=⟨.struct [(0,75),(1,265),(2,265)],(.agg [.slc,.slc,.slc]),3,72,[(xH ez 0 0),(xH ez 0 0),(xH ez 0 0)]⟩
abbrev abP:TI:=⟨.struct [(0,58),(1,4)],(.agg [.slc,.bool]),2,32,[(xH ez 0 0),(.bool .false)]⟩
abbrev abQ:TI:=⟨.struct [(0,5),(1,5)],(.agg [(.int .u8),(.int .u8)]),2,2,[(xG xN 0),(xG xN 0)]⟩
abbrev abR:TI:=⟨.struct [(0,17),(1,17),(2,17),(3,9)],(.agg [.ptr,.ptr,.ptr,.str]),4,40,[(xI ez),(xI ez),(xI ez),(xJ ⟨#[]⟩)]⟩
abbrev abS:TI:=⟨.struct [(0,418)],(.agg []),0,0,[]⟩
abbrev abT:TI:=⟨.struct [(0,12),(1,12),(2,59),(3,421),(4,5),(5,5),(6,422),(7,423),(8,251),(9,424),(10,425)],(.agg [(.int .u64),(.int .u64),(.int .u32),(.int .u8),(.int .u8),(.int .u8),(.int .u8),.fn,.ptr,(.int .i32),(.int .i32)]),11,48,[(xG xP 0),(xG xP 0),(xG xO 0),(xG xN 0),(xG xN 0),(xG xN 0),(xG xN 0),.nilFunc,(xI ez),(.int .i32 0),(.int .i32 0)]⟩
noncomputable def RS:jX:=[⟨.other,(.sc .any),1,0,[(.tuple #[])]⟩,aK,ti1,ti1,⟨.bool,(.sc .bool),1,1,[(.bool .false)]⟩,ti2,ti2,aeI,aeI,ti3,ti3,ti3,ti4,aeJ,aeJ,⟨.ptr 417,(.sc .ptr),1,8,[(xI ez)]⟩,⟨.ptr 420,(.sc .ptr),1,8,[(xI ez)]⟩,⟨.ptr 427,(.sc .ptr),1,8,[(xI ez)]⟩,aeK,aeK,⟨.other,(.sc .any),1,16,[.nilIface]⟩,ti5,⟨.slice 3,(.sc .slc),1,24,[(xH ez 0 0)]⟩,⟨.ptr 92,(.sc .ptr),1,8,[(xI ez)]⟩,aK,ti1,ti6,aK,⟨.ptr 104,(.sc .ptr),1,8,[(xI ez)]⟩,aK,ti7,aK,⟨.slice 44,(.sc .slc),1,24,[(xH ez 0 0)]⟩,aK,aK,aeL,aeL,⟨.slice 88,(.sc .slc),1,24,[(xH ez 0 0)]⟩,aeM,aeM,aK,⟨.slice 43,(.sc .slc),1,24,[(xH ez 0 0)]⟩,aK,⟨.slice 58,(.sc .slc),1,24,[(xH ez 0 0)]⟩,⟨.ptr 102,(.sc .ptr),1,8,[(xI ez)]⟩,aK,aK,aK,aK,aK,aK,aK,aK,⟨.other,(.sc .any),1,0,[(.tuple #[(.agg #[(xG xM 0),(xG xM 0),(xG xM 0)]),(xG xM 0),(xH ez 0 0)])]⟩,aK,aK,⟨.slice 61,(.sc .slc),1,24,[(xH ez 0 0)]⟩,aK,⟨.slice 5,(.sc .slc),1,24,[(xH ez 0 0)]⟩,⟨.int .u32,(.sc (.int .u32)),1,4,[(xG xO 0)]⟩,aeN,aeN,aK,aK,aK,⟨.slice 9,(.sc .slc),1,24,[(xH ez 0 0)]⟩,aK,ti8,aK,aK,⟨.slice 73,(.sc .slc),1,24,[(xH ez 0 0)]⟩,aK,aeO,aeO,aK,⟨.slice 22,(.sc .slc),1,24,[(xH ez 0 0)]⟩,aK,⟨.other,(.sc .any),1,0,[(.tuple #[(xG xM 0),(xH ez 0 0),(.bool .false)])]⟩,aK,aK,aK,aK,⟨.ptr 84,(.sc .ptr),1,8,[(xI ez)]⟩,aeP,aeP,aK,aK,aeQ,aeQ,aK,⟨.array 64 44,(.arr .ptr),64,512,qi 64 (xI ez)⟩,aeR,aeR,⟨.other,(.sc .any),1,0,[(.tuple #[(.agg #[(xG xM 0),(xG xM 0),(xG xM 0),(xG xM 0),(xG xM 0),(xG xM 0),(xH ez 0 0),(xH ez 0 0)]),(.bool .false)])]⟩,aK,aK,aK,aK,aK,aK,aK,abx,abx,aby,aby,aK,aK,aK,ti9,aK,aK,aK,aK,aK,⟨.slice 124,(.sc .slc),1,24,[(xH ez 0 0)]⟩,aK,aK,aK,aK,aK,ti9,aK,aK,TA,TA,aK,aK,aK,aK,aK,aK,aK,aK,aK,aK,aK,aK,aK,⟨.slice 145,(.sc .slc),1,24,[(xH ez 0 0)]⟩,aK,aK,aK,ti9,aK,TA,TA,aK,aK,⟨.ptr 155,(.sc .ptr),1,8,[(xI ez)]⟩,ti7,aK,aK,aK,⟨.ptr 225,(.sc .ptr),1,8,[(xI ez)]⟩,abz,abz,⟨.slice 39,(.sc .slc),1,24,[(xH ez 0 0)]⟩,aK,aK,aK,aK,aK,aK,aK,⟨.slice 167,(.sc .slc),1,24,[(xH ez 0 0)]⟩,aK,abA,abA,aK,aK,aK,aK,aK,⟨.other,(.sc .any),1,0,[(.tuple #[(xG xM 0),(.bool .false)])]⟩,aK,aK,aK,ti7,aK,aK,aK,aK,aK,aK,aK,aK,aK,aK,aK,aK,aK,ti4,aK,aK,aK,aK,aK,aK,ti8,aK,aK,aK,⟨.other,(.sc .any),1,0,[(.tuple #[(xH ez 0 0),(.bool .false),(xG xM 0)])]⟩,aK,aK,aK,aK,aK,aK,aK,⟨.other,(.sc .any),1,0,[(.tuple #[(.agg #[(xG xM 0),(xG xM 0),(xG xM 0),(xG xM 0),(xG xM 0),(xG xM 0),(xG xO 0),(xH ez 0 0)]),(.bool .false)])]⟩,aK,aK,aK,aK,aK,aK,aK,aK,aK,⟨.ptr 308,(.sc .ptr),1,8,[(xI ez)]⟩,aK,aK,aK,abB,abB,⟨.cpx,(.sc (.cpx .f64)),1,16,[(.complex Go.FloatKind.f64 0 0)]⟩,aK,⟨.slice 233,(.sc .slc),1,24,[(xH ez 0 0)]⟩,⟨.array 64 4,(.arr .bool),64,64,qi 64 (.bool .false)⟩,⟨.flt,(.sc (.flt .f64)),1,8,[(.float Go.FloatKind.f64 0)]⟩,aK,abC,abC,aK,aK,aK,aK,aK,aK,aK,aK,ti1,ti6,aK,aK,aK,aK,aK,aK,ti4,⟨.ptr 5,(.sc .ptr),1,8,[(xI ez)]⟩,aK,aK,aK,aK,⟨.slice 258,(.sc .slc),1,24,[(xH ez 0 0)]⟩,abD,abD,⟨.ptr 264,(.sc .ptr),1,8,[(xI ez)]⟩,⟨.slice 338,(.sc .slc),1,24,[(xH ez 0 0)]⟩,abE,abE,abF,abF,⟨.slice 4,(.sc .slc),1,24,[(xH ez 0 0)]⟩,⟨.other,(.sc .any),1,0,[(.tuple #[(xH ez 0 0),(xH ez 0 0),(xH ez 0 0),(xG xM 0)])]⟩,aK,aK,⟨.other,(.sc .any),1,0,[(.tuple #[(xH ez 0 0),(xH ez 0 0)])]⟩,aK,aK,aK,⟨.ptr 351,(.sc .ptr),1,8,[(xI ez)]⟩,aK,aK,aK,aK,aK,ti8,aK,⟨.ptr 353,(.sc .ptr),1,8,[(xI ez)]⟩,aK,aK,aK,aK,⟨.slice 288,(.sc .slc),1,24,[(xH ez 0 0)]⟩,abG,abG,⟨.other,(.sc .any),1,0,[(.tuple #[(.agg #[(xG xM 0),(xG xM 0),(xG xM 0),(xH ez 0 0),(xH ez 0 0)]),(.bool .false)])]⟩,aK,⟨.mp,(.sc .mp),1,8,[(.map ez)]⟩,ti9,aK,aK,aK,aK,aK,aK,aK,aK,aK,aK,⟨.array 255 5,(.arr (.int .u8)),255,255,qi 255 (xG xN 0)⟩,aK,⟨.array 256 3,(.arr (.int .i64)),256,2048,qi 256 (xG xM 0)⟩,aK,abH,abH,aK,⟨.ptr 313,(.sc .ptr),1,8,[(xI ez)]⟩,aK,abI,abI,aK,aK,aK,aK,aK,aK,aK,ti4,aK,aK,aK,⟨.ptr 3,(.sc .ptr),1,8,[(xI ez)]⟩,aK,aK,aK,aK,⟨.ptr 332,(.sc .ptr),1,8,[(xI ez)]⟩,abJ,abJ,aK,⟨.other,(.sc .any),1,0,[(.tuple #[(.agg #[(xH ez 0 0),(xH ez 0 0),(xH ez 0 0)]),(.bool .false)])]⟩,aK,aK,abK,abK,aK,aK,aK,aK,abL,abL,⟨.other,(.sc .any),1,0,[(.tuple #[(.agg (qi 256 (.bool .false)).toArray),(.bool .false)])]⟩,aK,aK,⟨.ptr 344,(.sc .ptr),1,8,[(xI ez)]⟩,aK,abM,abM,abN,abN,aK,aK,aK,aK,aK,aK,aK,aK,aK,aK,aK,aK,aK,aK,aK,aK,aK,aK,aK,aK,aK,aK,aK,aK,aK,aK,aK,aK,⟨.ptr 321,(.sc .ptr),1,8,[(xI ez)]⟩,ti6,aK,aK,⟨.ptr 388,(.sc .ptr),1,8,[(xI ez)]⟩,abO,abO,aK,⟨.other,(.sc .any),1,0,[(.tuple #[(.agg #[(xG xM 0),(xG xM 0)]),(.bool .false)])]⟩,aK,aK,⟨.other,(.sc .any),1,0,[(.tuple #[(.int .i32 0),(xG xM 0)])]⟩,aK,aK,aK,aK,⟨.ptr 400,(.sc .ptr),1,8,[(xI ez)]⟩,abP,abP,aK,aK,aK,aK,aK,aK,aK,aK,aK,aK,⟨.array 256 5,(.arr (.int .u8)),256,256,qi 256 (xG xN 0)⟩,abQ,abQ,⟨.array 16 413,(.arr (.int .u8)),32,32,qi 32 (xG xN 0)⟩,aK,abR,abR,⟨.array 0 16,(.arr .ptr),0,0,[]⟩,abS,abS,ti2,ti2,aK,ti5,ti5,abT,abT,⟨.other,(.sc .any),1,8,[(xI ez)]⟩]
noncomputable def Zy:List (TypeId×List Ty):=[(0,[]),(26,[(.sc (.int .i64)),(.sc (.int .i64))]),(30,[(.sc .ptr),(.sc (.int .i64))]),(53,[(.agg [(.int .i64),(.int .i64),(.int .i64)]),(.sc (.int .i64)),(.sc .slc)]),(67,[(.sc .slc),(.sc (.int .i64))]),(77,[(.sc (.int .i64)),(.sc .slc),(.sc .bool)]),(93,[(.agg [(.int .i64),(.int .i64),(.int .i64),(.int .i64),(.int .i64),(.int .i64),.slc,.slc]),(.sc .bool)]),(108,[(.sc .slc),(.sc .bool)]),(120,[(.sc .slc),(.sc .bool)]),(142,[(.sc .slc),(.sc .bool)]),(149,[(.sc .ptr),(.sc (.int .i64))]),(173,[(.sc (.int .i64)),(.sc .bool)]),(177,[(.sc .ptr),(.sc (.int .i64))]),(198,[(.sc .slc),(.sc (.int .i64))]),(202,[(.sc .slc),(.sc .bool),(.sc (.int .i64))]),(210,[(.agg [(.int .i64),(.int .i64),(.int .i64),(.int .i64),(.int .i64),(.int .i64),(.int .u32),.slc]),(.sc .bool)]),(243,[(.sc (.int .i64)),(.sc (.int .i64))]),(266,[(.sc .slc),(.sc .slc),(.sc .slc),(.sc (.int .i64))]),(269,[(.sc .slc),(.sc .slc)]),(279,[(.sc .slc),(.sc (.int .i64))]),(289,[(.agg [(.int .i64),(.int .i64),(.int .i64),.slc,.slc]),(.sc .bool)]),(292,[(.sc .slc),(.sc .bool)]),(334,[(.agg [.slc,.slc,.slc]),(.sc .bool)]),(345,[(.arr .bool),(.sc .bool)]),(383,[(.sc (.int .i64)),(.sc (.int .i64))]),(390,[(.agg [(.int .i64),(.int .i64)]),(.sc .bool)]),(393,[(.sc (.int .i32)),(.sc (.int .i64))])]
noncomputable def C:Ctx:={P:=xQ,T:=RS,tup:=Zy,fns:=[false,false]++qi 342 true++qi 22 false++[true]}
theorem afQ:(List.range C.T.length).map (jX.seen C.P)=C.T.map jX.told:=j3
theorem acM:C.P.follows .mixedOrders=true:=j3
theorem afR:(C.P.funcs.toList.map λf=>!(f.name== "runtime.NumGoroutine")&&f.body.isSome)=C.fns:=j3
theorem aj:C.Ok:={RS:=afQ,mixed:=acM,fns:=afR}
abbrev Me:=an xQ
abbrev Ca:=ox xQ
abbrev Ra:=ow xQ
abbrev Rr:=bz xQ
abbrev Ru{α:Type}:=au (α:=α) xQ
theorem tie{f:FuncId}{b:Func}(d:Tryz.prog.funcs[f]?=some b)(a:cJ){args:aR}{R:wf}{h:Heap}{Q:Prop}(g:Q) (c:xq args.length b.ntmps=true:=by kernel_rfl) (e:Vi C b 300 a args R h=Q:=by kernel_rfl):an xQ f args.toArray h R:=adH aj d a g c e
theorem CP:C.P=xQ:=rfl
theorem CU:C.tup=Zy:=rfl
noncomputable def tbF(t:Nat):TI:=Rk.mM Rk.SE RS t
theorem ts{f:FuncId}{b:Func}(j:Tryz.prog.funcs[f]?=some b){args:aR}{R:wf}{h:Heap}{Q:Prop}{c:Code}{rs:List ResultVar}(l:Q)(a:cJ:=.n)(S:List (Nat×Rk.Sd):=[]) (g:b.body=some c:=by exact rfl) (d:b.results=rs.toArray:=by exact rfl) (k:Rk.bg C tbF S R 100000 (.ex c a (.top rs) (Rk.SQ 0 args)) h=Q:=by dsimp only[Rk.adI,Rk.SC,Rk.FG,Rk.LG,Rk.adJ,Rk.eK,Rk.GQ,Rk.LH,Rk.GR,Rk.SD,Rk.adK,Rk.YJ,Rk.FH,Rk.mM,Rk.Mk,Rk.Ml,Rk.pO,Rk.YK,Rk.SE,Rk.adL,Rk.SF,Rk.GS,Rk.adM,Rk.adN,Rk.adO,Rk.adP,Rk.aaY,Rk.adQ,Rk.aaZ,Rk.adR,Rk.adS,Rk.adT,Rk.adU,Rk.adV,Rk.adW,Rk.adX,Rk.Mm,Rk.adY,Rk.SG,Rk.adZ,Rk.aba,Rk.aea,Rk.aeb,Rk.Rq,Rk.abb,Rk.Vj,Rk.SH,Rk.aec,Rk.abc,Rk.SI,Rk.Vk,Rk.Vl,Rk.YL,Rk.SJ,Rk.YM,Rk.SK,Rk.abd,Rk.abe,Rk.abf,Rk.abg,Rk.Mn,Rk.Mo,Rk.Vm,Rk.abh,Rk.abi,Rk.GU,Rk.SL,Rk.abj,Rk.GV,Rk.YN,Rk.IU,Rk.Mp,Rk.IV,Rk.GW,Rk.YO,Rk.IW,Rk.GX,Rk.GY,Rk.YP,Rk.YQ,Rk.abk,Rk.YR,Rk.SM,Rk.Mq,Rk.LI,Rk.FI,Rk.abl,Rk.IX,Rk.nF,Rk.SN,Rk.YS,Rk.SO,Rk.SP,Rk.bg,Rk.SQ,Rk.afE,Rk.afF,Rk.afG,Rk.aed,Rk.aee,undef,Nat.reduceAdd,Nat.reduceBEq,Nat.reduceSub,Nat.reduceMul,tbF,CP,CU,Zy,Sc.den,Sc.enc,Ty.den,Ty.enc,Rt.den,Rt.enc,uY,nf,LD,Su,dn.den,RS]) (i:xq args.length b.ntmps=true:=by kernel_rfl) (e:Vi C b 300 a args R h=Q:=by kernel_rfl):an xQ f args.toArray h R:=Rp aj j (Nat.le_of_ble_eq_true i) (cast e.symm l)
theorem sq(b:Sl)(H:Ra (yJ 36 true (.tuple #[])) h λv J=>Ca 56 #[b,(xG xM 0)] kW J λD B=>Ca 56 #[b,(xG xM 1)] kW B λI h3=>Ca 56 #[b,(xG xM 2)] kW h3 λF w=>Ca 55 #[D,I,F] (.one (.agg [(.int .i64),(.int .i64),(.int .i64)])) w λG E=>Ra (yJ 36 true (.tuple #[])) E λd z=>Ru (qE 36 d G) z λ_ A=>gU (σ:=Sl×Int) (λi K1 h8=>Ca 56 #[b,(xG xM 4)] kW h8 λy K=>Ca 54 #[y,(xG xM 4)] kW K λx f=>Br (i.2<(qe xM (2+x))) (Ca 56 #[b,(qe xM (5+i.2))] kW f λk t=>Ca 54 #[k,(xG xM 50)] kW t λu m=>Rr (Instr.buildSlice 22 1 #[(0,(qe xM (8+u)))]) rtS m λl p=>Rr (Builtin.append_ #[22,22] 22 #[i.1,l]) rtS p λr o=>K1 (r,qe xM (i.2+1)) o) (∃a:Wk,bp f d 0 a/\Ca 56 #[b,(xG xM 3)] kW f λs g=>(bQ.ok [(d,a.1),(d.add 1,a.2.1),(d.add 2,a.2.2)] g)/\Ca 54 #[s,(xG xM 7)] kW g λq j=>(bQ.ok [(d,a.1),(d.add 1,a.2.1),(d.add 2,a.2.2)] j)/\Ru (qE 36 v a) j λ_ e=>(bQ.ok [] e)/\∃c:Wk,bp e v 0 c/\R (.tuple #[c,q,i.1]) e)) ((⟨ez,0,0⟩:Sl),(0:Int)) A):Me 21 #[b] h R:=tie func21 (cJ.tn (cJ.tn (cJ.tn (cJ.tn (.two (cJ.tn (.inn (.loop [(7,cK),(8,aS)] [(7,9),(16,35)] .n))) .n))))) H
theorem tE(d:Int)(b:Int)(c:Int)(o:Ra (yJ 36 true (.tuple #[])) h λe k=>Ca 54 #[d,(xG xM 6)] kW k λl i=>Ca 54 #[b,(xG xM 3)] kW i λg h3=>Ca 54 #[c,(xG xM 9)] kW h3 λm j=>Ru (qE 36 e (xL #[(qe xM (1+l)),(qe xM (1+g)),(qe xM (1+m))])) j λ_ f=>∃a:Wk,bp f e 0 a/\R a f):Me 55 #[d,b,c] h R:=tie func55 .n o
variable {R:wf} {h:Heap}
theorem un(w:Wk)(E:Int)(a:Int)(c:Int)(hm:Ra (vQ 36 w) h λr h1=>Ra (yJ 61 true (.tuple #[])) h1 λb h2=>Ca 54 #[E,(xG xM 26)] kW h2 λo h3=>Br (o<8) (((5:Int)≠0)/\Hy h3 r λG=>Hy h3 (r.add 2) λH=>Ca 108 #[a] (.one tyT) h3 λr6 h4=>(bQ.ok [(r.add 2,H),(r,G)] h4)/\Ca 54 #[(qe xM (vJ a 5)),(qe xM ((qe xM ((qe xM (3*G))*H))+2))] kW h4 λr7 h5=>(bQ.ok [(r.add 2,H),(r,G)] h5)/\Ca 109 #[r7,c] rtS h5 λr8 h6=>(bQ.ok [(r.add 2,H),(r,G)] h6)/\Ru (qE 61 b (xL #[(xG xM 1),r6,r8,(xG xM 0),(xG xM 0),(xG xM 0),(xG xO 0),(xH ez 0 0),(xH ez 0 0)])) h6 λ_ O=>(bQ.ok [] O)/\∃s:Cf,bp O b 0 s/\R s O) (Br (o<11) (Ca 108 #[a] (.one tyT) h3 λQ h8=>Ru (qE 61 b (xL #[(xG xM 2),Q,(xH ez 0 0),(xG xM 0),(xG xM 0),(xG xM 0),(xG xO 0),(xH ez 0 0),(xH ez 0 0)])) h8 λ_ h9=>∃m:Cf,bp h9 b 0 m/\R m h9) (Br (o<13) (Ca 108 #[a] (.one tyT) h3 λS a3=>Ru (qE 61 b (xL #[(xG xM 3),S,(xH ez 0 0),(xG xM 0),(xG xM 0),(xG xM 0),(xG xO 0),(xH ez 0 0),(xH ez 0 0)])) a3 λ_ F=>∃f:Cf,bp F b 0 f/\R f F) (Br (o==13) (Ru (qE 61 b (xL #[(xG xM 4),rn,(xH ez 0 0),(xG xM 0),(xG xM 0),(xG xM 0),(xG xO 0),(xH ez 0 0),(xH ez 0 0)])) h3 λ_ z=>∃q:Cf,bp z b 0 q/\R q z) (Br (o==14) (Ca 108 #[a] (.one tyT) h3 λa4 ab=>Ru (qE 61 b (xL #[(xG xM 5),a4,(xH ez 0 0),(xG xM 0),(xG xM 0),(xG xM 0),(xG xO 0),(xH ez 0 0),(xH ez 0 0)])) ab λ_ B=>∃d:Cf,bp B b 0 d/\R d B) (Br (o==15) (Ca 54 #[a,(xG xM 9)] kW h3 λao P=>Ca 54 #[c,(xG xM 60)] kW P λV al=>Ru (qE 61 b (xL #[(xG xM 6),rn,(xH ez 0 0),ao,(qe xM (6+V)),(xG xM 0),(xG xO 0),(xH ez 0 0),(xH ez 0 0)])) al λ_ y=>∃j:Cf,bp y b 0 j/\R j y) (Br (o==16) (Ca 54 #[a,(xG xM 8)] kW h3 λJ U=>Ru (qE 61 b (xL #[(xG xM 7),rn,(xH ez 0 0),J,(xG xM 0),(xG xM 0),(xG xO 0),(xH ez 0 0),(xH ez 0 0)])) U λ_ x=>∃e:Cf,bp x b 0 e/\R e x) (Br (o==17) (Ca 54 #[a,(xG xM 8)] kW h3 λN M=>Ca 54 #[c,(xG xM 60)] kW M λa5 ap=>Ru (qE 61 b (xL #[(xG xM 8),rn,(xH ez 0 0),N,(qe xM (6+a5)),(xG xM 0),(xG xO 0),(xH ez 0 0),(xH ez 0 0)])) ap λ_ v=>∃i:Cf,bp v b 0 i/\R i v) (Br (o==18) (Ca 54 #[a,(xG xM 8)] kW h3 λad X=>Ru (qE 61 b (xL #[(xG xM 9),rn,(xH ez 0 0),ad,(xG xM 0),(xG xM 0),(xG xO 0),(xH ez 0 0),(xH ez 0 0)])) X λ_ D=>∃g:Cf,bp D b 0 g/\R g D) (Br (o<22) (Ca 54 #[a,(xG xM 3)] kW h3 λar T=>Ca 54 #[c,(xG xM 20)] kW T λZ am=>Ru (qE 61 b (xL #[(xG xM 10),rn,(xH ez 0 0),(xG xM 0),ar,Z,(xG xO 0),(xH ez 0 0),(xH ez 0 0)])) am λ_ t=>∃p:Cf,bp t b 0 p/\R p t) (Br (o==22) (Ca 54 #[a,(xG xM 9)] kW h3 λa6 a0=>Ca 54 #[c,(xG xM 70)] kW a0 λay L=>Ru (qE 61 b (xL #[(xG xM 10),rn,(xH ez 0 0),(xG xM 0),(qe xM (a6-1)),(qe xM (ay-1)),(xG xO 0),(xH ez 0 0),(xH ez 0 0)])) L λ_ A=>∃k:Cf,bp A b 0 k/\R k A) (Ca 54 #[a,(xG xM 7)] kW h3 λY ah=>((7:Int)≠0)/\Ca 54 #[(qe xM (vJ a 7)),(xG xM 40)] kW ah λK ax=>Ca 54 #[c,(xG xM 61)] kW ax λI W=>Ru (qE 61 b (xL #[(xG xM 11),rn,(xH ez 0 0),Y,K,I,(xG xO (qe xO ((qe xO ((qe xO c)*2654435761))+(qe xO a)))),(xH ez 0 0),(xH ez 0 0)])) W λ_ u=>∃l:Cf,bp u b 0 l/\R l u)))))))))))):Me 64 #[w,E,a,c] h R:=tie func64 .n hm
theorem Ar(a:Wk)(d:Ra (vQ 36 a) h λc b=>Hy b c λx2=>Hy b (c.add 2) λx3=>R (qe xM (x2*x3)) b):Me 112 #[a] h R:=tie func112 .n d
theorem ia(b:Sl)(a:Mr)(i:gU (σ:=Int) (λc K1 d=>Br (c<(b.len:Int)) (Nw b c λf=>∃x3:Tu1,bp d (f.add (c.toNat*4)) 0 x3/\wd C a.1 (a.2.1.toList++[(xL #[x3.1,x3.2.1,x3.2.2.1,x3.2.2.2])]++a.2.2.toList) RR d λg e=>Br g (R c e) (K1 (qe xM (c+1)) e)) (R (xG xM (-1:Int)) d)) (0:Int) h):Me 125 #[b,(.func (.func a.1) a.2.1 a.2.2)] h R:=tie func125 (cJ.tn (.two (cJ.tn (.inn (.loop [(8,aS)] [(4,6),(8,19)] .n))) .n)) i
theorem mA(a:Sl)(c:Int)(f:gU (σ:=Int) (λb K1 d=>Br (b<(a.len:Int)) (Nw a b λe=>Hy d (e.add (b.toNat*1)) λx3=>Br (c==x3) (R b d) (K1 (qe xM (b+1)) d)) (R (xG xM (-1:Int)) d)) (0:Int) h):Me 128 #[a,c] h R:=tie func128 (cJ.tn (.two (cJ.tn (.inn (.loop [(8,aS)] [(4,6),(8,19)] .n))) .n)) f
theorem Jp(b:Tu1)(a:Addr)(e:Ra (vQ 88 b) h λd c=>Hy c (d.add 1) λx2=>Hy c (a.add 1) λx3=>R (xK (x2==x3)) c):Me 151 #[b,a] h R:=tie func151 .n e
variable {R:wf} {h:Heap}
theorem Au(a:Sl)(e:gU (σ:=Int) (λb K1 c=>Br (b<(a.len:Int)) (Nw a b λd=>Hy c (d.add (b.toNat*1)) λx3=>Br (x3 !=0) (R x3 c) (K1 (qe xM (b+1)) c)) (R (xG xM 0) c)) (0:Int) h):Me 170 #[a] h R:=tie func170 (cJ.tn (cJ.tn (.two (cJ.tn (.inn (.loop [(8,aS)] [(2,3),(5,6),(8,17)] .n))) .n))) e
theorem iB(b:Sl)(a:Mr)(i:gU (σ:=Int) (λc K1 d=>Br (c<(b.len:Int)) (Nw b c λf=>Hy d (f.add (c.toNat*1)) λx3=>wd C a.1 (a.2.1.toList++[(xG xM x3)]++a.2.2.toList) RR d λg e=>Br g (R c e) (K1 (qe xM (c+1)) e)) (R (xG xM (-1:Int)) d)) (0:Int) h):Me 175 #[b,(.func (.func a.1) a.2.1 a.2.2)] h R:=tie func175 (cJ.tn (.two (cJ.tn (.inn (.loop [(8,aS)] [(4,6),(8,19)] .n))) .n)) i
theorem kX(b:Sl)(a:Mr)(i:gU (σ:=Int) (λc K1 d=>Br (c<(b.len:Int)) (Nw b c λf=>∃x3:Int×Sl,bp d (f.add (c.toNat*2)) 0 x3/\wd C a.1 (a.2.1.toList++[(xL #[x3.1,x3.2])]++a.2.2.toList) RR d λg e=>Br g (R c e) (K1 (qe xM (c+1)) e)) (R (xG xM (-1:Int)) d)) (0:Int) h):Me 191 #[b,(.func (.func a.1) a.2.1 a.2.2)] h R:=tie func191 (cJ.tn (.two (cJ.tn (.inn (.loop [(8,aS)] [(4,6),(8,19)] .n))) .n)) i
theorem Gc(a:Int)(d:Ca 147 #[a,(xG xM 0),(xG xM 15)] RR h λc b=>R (xK (!c)) b):Me 218 #[a] h R:=tie func218 .n d
end Go.Qw
