/- Lemmas for the proof of the law; no condition. -/
import Derived.Test.YtdibhfbogjngkaaGreatDoorPlA
import Derived.Test.YtdibhfbogjngkaaGreatDoorProg
set_option linter.unusedVariables false
open Go.Proofs.Tryz renaming prog -> xt
open Go.Value renaming agg -> xn, bool -> xm, int -> xi, pointer -> xk, slice -> xj, string -> xl
open Go.IntKind renaming bits -> ql, i64 -> xo, u32 -> xq, u64 -> xr, u8 -> xp, wrap -> qc
open List renaming replicate -> qg, toArray -> yR
open Go.Instr renaming alloc -> qP, box -> qO, build -> vN, buildSlice -> qp, makeSlice -> qG, storeAt -> qf
open Option renaming isNone -> qY
open Go.Builtin renaming append_ -> qu, copy_ -> w8
open Int renaming fdiv -> q9, tdiv -> yc, tmod -> wj
open BitVec renaming ofInt -> qF
open Go.Proofs.Tryz
set_option maxRecDepth 1000000
open Option renaming some -> dB, none -> eH
open Bool renaming true -> eR, false -> eS
open Go renaming Value -> eX, Addr -> fz
namespace Go.Qw
open Go Go.Vc Go.Proofs
instance:Coe Int eX:=⟨λx=>xi xo x⟩
instance:Coe Sl eX:=⟨λs=>xj s.ptr s.len s.cap⟩
instance:Coe ByteArray eX:=⟨.string⟩
instance:Coe (Option fz) eX:=⟨.pointer⟩
instance:Coe fz eX:=⟨λa=>xk (dB a)⟩
instance:Coe Bool eX:=⟨.bool⟩
instance:Coe (Int×Int×Int) (List eX):=⟨λx=>[x.1,x.2.1,x.2.2]⟩
instance:Coe (Int×Int×Int) eX:=⟨λx=>xn (yR x)⟩
instance:Coe (Int×Int×Int×Int×Int×Int×Sl×Sl) (List eX):=⟨λx=>[x.1,x.2.1,x.2.2.1,x.2.2.2.1,x.2.2.2.2.1,x.2.2.2.2.2.1,x.2.2.2.2.2.2.1,x.2.2.2.2.2.2.2]⟩
instance:Coe (Int×Int×Int×Int×Int×Int×Sl×Sl) eX:=⟨λx=>xn (yR x)⟩
instance:Coe (ByteArray×Int×Int×Sl) (List eX):=⟨λx=>[x.1,x.2.1,x.2.2.1,x.2.2.2]⟩
instance:Coe (ByteArray×Int×Int×Sl) eX:=⟨λx=>xn (yR x)⟩
instance:Coe (Int×Sl) (List eX):=⟨λx=>[x.1,x.2]⟩
instance:Coe (Int×Sl) eX:=⟨λx=>xn (yR x)⟩
instance:Coe (Int×ByteArray×Sl×Int×Int×Int×Int×Sl×Sl) (List eX):=⟨λx=>[x.1,x.2.1,x.2.2.1,x.2.2.2.1,x.2.2.2.2.1,x.2.2.2.2.2.1,(xi xq x.2.2.2.2.2.2.1),x.2.2.2.2.2.2.2.1,x.2.2.2.2.2.2.2.2]⟩
instance:Coe (Int×ByteArray×Sl×Int×Int×Int×Int×Sl×Sl) eX:=⟨λx=>xn (yR x)⟩
instance:Coe (Int×Int×Int×Int×Int×Int×Int×Sl) (List eX):=⟨λx=>[x.1,x.2.1,x.2.2.1,x.2.2.2.1,x.2.2.2.2.1,x.2.2.2.2.2.1,(xi xq x.2.2.2.2.2.2.1),x.2.2.2.2.2.2.2]⟩
instance:Coe (Int×Int×Int×Int×Int×Int×Int×Sl) eX:=⟨λx=>xn (yR x)⟩
instance:Coe (Sl×Sl) (List eX):=⟨λx=>[x.1,x.2]⟩
instance:Coe (Sl×Sl) eX:=⟨λx=>xn (yR x)⟩
instance:Coe (Sl×Sl×Sl) (List eX):=⟨λx=>[x.1,x.2.1,x.2.2]⟩
instance:Coe (Sl×Sl×Sl) eX:=⟨λx=>xn (yR x)⟩
instance:Coe (Int×Int) (List eX):=⟨λx=>[x.1,x.2]⟩
instance:Coe (Int×Int) eX:=⟨λx=>xn (yR x)⟩
abbrev be(h:Heap)(a:fz)(k:Int->Prop):Prop:=∃x,cellOf h a=dB (xi xo x)/\k x
abbrev gq(i:IntKind)(h:Heap)(a:fz)(k:Int->Prop):Prop:=∃x:Int,cellOf h a=dB (.int i x)/\k x
abbrev bi(h:Heap)(a:fz)(k:Sl->Prop):Prop:=∃x:Sl,cellOf h a=dB (x:eX)/\k x
abbrev JU(h:Heap)(a:fz)(k:ByteArray->Prop):Prop:=∃x:ByteArray,cellOf h a=dB (xl x)/\k x
abbrev rT(h:Heap)(a:fz)(k:Bool->Prop):Prop:=∃x:Bool,cellOf h a=dB (xm x)/\k x
abbrev jp(h:Heap)(a:fz)(k:aO->Prop):Prop:=∃x:aO,cellOf h a=dB (.pointer x)/\k x
abbrev aP(s:Sl)(i:Int)(k:fz->Prop):Prop:=∃a,(s.ptr=dB a/\0<=i/\i<((s.len:Nat):Int))/\k a
abbrev bR:=Int×Int×Int
abbrev iE:=ByteArray×Int×Int×Sl
abbrev dj:=Int×Int×Int×Int×Int×Int×Sl×Sl
abbrev fh:=Int×Int×Int×Int×Int×Int×Int×Sl
abbrev Tu5:=Int×Int×Int×Bool×Bool
abbrev Lb:Rt:=.one (.agg [(.int .i64),(.int .i64),(.int .i64),(.int .i64),(.int .i64),(.int .i64),.slc,.slc])
abbrev aI:Rt:=.one (.sc .slc)
abbrev bA:Rt:=.one (.sc (.int .i64))
abbrev jP:Rt:=.one (.sc .ptr)
abbrev bK:Rt:=.one (.sc .bool)
abbrev iV:Rt:=.many []
abbrev ct:Ty:=.sc .slc
abbrev aW:Ty:=.sc (.int .i64)
abbrev Db:Ty:=.sc .ptr
abbrev lK:Ty:=.sc .bool
abbrev tyT:Ty:=.sc .str
variable {R:KI} {h:Heap}
def aaP:ByteArray:=⟨#[0]⟩
def aaQ:ByteArray:=⟨#[]⟩
def lc:ByteArray:=⟨#[105,116]⟩
abbrev aT:TI:=⟨.fn,(.sc .fn),1,8,[.nilFunc]⟩
abbrev ti1:TI:=⟨.int .i64,(.sc (.int .i64)),1,8,[(xi xo 0)]⟩
abbrev ti2:TI:=⟨.int .u8,(.sc (.int .u8)),1,1,[(xi xp 0)]⟩
abbrev ti3:TI:=⟨.str,(.sc .str),1,16,[(.string ⟨#[]⟩)]⟩
abbrev ti4:TI:=⟨.int .u64,(.sc (.int .u64)),1,8,[(xi xr 0)]⟩
abbrev ti5:TI:=⟨.int .i32,(.sc (.int .i32)),1,4,[(.int .i32 0)]⟩
abbrev ti6:TI:=⟨.other,(.sc .any),1,0,[(.tuple #[(xk eH),(xi xo 0)])]⟩
abbrev ti7:TI:=⟨.other,(.sc .any),1,0,[(.tuple #[(xi xo 0),(xi xo 0)])]⟩
abbrev ti8:TI:=⟨.other,(.sc .any),1,0,[(.tuple #[(xj eH 0 0),(xi xo 0)])]⟩
abbrev ti9:TI:=⟨.other,(.sc .any),1,0,[(.tuple #[(xj eH 0 0),(.bool .false)])]⟩
abbrev Yz:TI:=⟨.struct [(0,3),(1,34)],(.agg [(.int .i64),.slc]),2,32,[(xi xo 0),(xj eH 0 0)]⟩
abbrev ahN:TI:=⟨.struct [(0,2),(1,3),(2,4),(3,6)],(.agg [(.int .i64),(.int .i64),.bool,(.int .u8)]),4,24,[(xi xo 0),(xi xo 0),(.bool .false),(xi xp 0)]⟩
abbrev ahO:TI:=⟨.struct [(0,9),(1,12)],(.agg [.str,(.int .u64)]),2,24,[(xl ⟨#[]⟩),(xi xr 0)]⟩
abbrev ahP:TI:=⟨.struct [(0,17)],(.agg [.ptr]),1,8,[(xk eH)]⟩
abbrev ahQ:TI:=⟨.struct [(0,3),(1,3),(2,3)],(.agg [(.int .i64),(.int .i64),(.int .i64)]),3,24,[(xi xo 0),(xi xo 0),(xi xo 0)]⟩
abbrev ahR:TI:=⟨.struct [(0,3),(1,3),(2,24),(5,3),(6,22),(7,42)],(.agg [(.int .i64),(.int .i64),(.int .i64),(.int .i64),(.int .i64),(.int .i64),.slc,.slc]),8,96,[(xi xo 0),(xi xo 0),(xi xo 0),(xi xo 0),(xi xo 0),(xi xo 0),(xj eH 0 0),(xj eH 0 0)]⟩
abbrev ahS:TI:=⟨.struct [(0,3),(1,3),(2,46)],(.agg [(.int .i64),(.int .i64),(.int .u32)]),3,24,[(xi xo 0),(xi xo 0),(xi xq 0)]⟩
abbrev ahT:TI:=⟨.struct [(0,44),(8,31),(9,3),(10,82)],(.arr .any),74,624,[(xi xo 0),(xi xo 0),(xi xo 0),(xi xo 0),(xi xo 0),(xi xo 0),(xj eH 0 0),(xj eH 0 0),(xk eH),(xi xo 0)]++qg 64 (xk eH)⟩
abbrev ahU:TI:=⟨.struct [(0,4),(1,4),(2,3),(3,3)],(.agg [.bool,.bool,(.int .i64),(.int .i64)]),4,24,[(.bool .false),(.bool .false),(xi xo 0),(xi xo 0)]⟩
abbrev ahV:TI:=⟨.struct [(0,9),(1,3),(2,3),(3,22)],(.agg [.str,(.int .i64),(.int .i64),.slc]),4,56,[(xl ⟨#[]⟩),(xi xo 0),(xi xo 0),(xj eH 0 0)]⟩
abbrev ahW:TI:=⟨.struct [(0,27),(1,44),(9,22),(10,3),(11,3),(12,3)],(.agg [.ptr,(.int .i64),(.int .i64),(.int .i64),(.int .i64),(.int .i64),(.int .i64),.slc,.slc,.slc,(.int .i64),(.int .i64),(.int .i64)]),13,152,[(xk eH),(xi xo 0),(xi xo 0),(xi xo 0),(xi xo 0),(xi xo 0),(xi xo 0),(xj eH 0 0),(xj eH 0 0),(xj eH 0 0),(xi xo 0),(xi xo 0),(xi xo 0)]⟩
abbrev afn:TI:=⟨.struct [(0,3),(1,9),(2,34),(3,3),(4,3),(5,3),(6,46),(7,22),(8,22)],(.agg [(.int .i64),.str,.slc,(.int .i64),(.int .i64),(.int .i64),(.int .u32),.slc,.slc]),9,128,[(xi xo 0),(xl ⟨#[]⟩),(xj eH 0 0),(xi xo 0),(xi xo 0),(xi xo 0),(xi xq 0),(xj eH 0 0),(xj eH 0 0)]⟩
abbrev afo:TI:=⟨.struct [(0,31),(1,3),(2,85),(3,3),(4,85),(5,4),(6,4)],(.agg [.ptr,(.int .i64),.slc,(.int .i64),.slc,.bool,.bool]),7,80,[(xk eH),(xi xo 0),(xj eH 0 0),(xi xo 0),(xj eH 0 0),(.bool .false),(.bool .false)]⟩
abbrev afp:TI:=⟨.struct [(0,3),(1,3),(2,3),(3,24),(6,46),(7,34)],(.agg [(.int .i64),(.int .i64),(.int .i64),(.int .i64),(.int .i64),(.int .i64),(.int .u32),.slc]),8,80,[(xi xo 0),(xi xo 0),(xi xo 0),(xi xo 0),(xi xo 0),(xi xo 0),(xi xq 0),(xj eH 0 0)]⟩
abbrev afq:TI:=⟨.struct [(0,3),(1,3),(2,46),(3,165),(4,51),(5,22)],(.agg [(.int .i64),(.int .i64),(.int .u32),.ptr,.slc,.slc]),6,80,[(xi xo 0),(xi xo 0),(xi xq 0),(xk eH),(xj eH 0 0),(xj eH 0 0)]⟩
abbrev afr:TI:=⟨.struct [(0,192),(255,194)],(.arr .any),511,2304,qg 255 (xi xp 0)++qg 256 (xi xo 0)⟩
abbrev afs:TI:=⟨.struct [(0,119),(1,3),(2,85)],(.agg [.ptr,(.int .i64),.slc]),3,40,[(xk eH),(xi xo 0),(xj eH 0 0)]⟩
abbrev aft:TI:=⟨.struct [(0,24),(3,46),(4,85)],(.agg [(.int .i64),(.int .i64),(.int .i64),(.int .u32),.slc]),5,56,[(xi xo 0),(xi xo 0),(xi xo 0),(xi xq 0),(xj eH 0 0)]⟩
abbrev afu:TI:=⟨.struct [(0,3),(1,239)],(.agg [(.int .i64),(.flt .f64)]),2,16,[(xi xo 0),(.float Go.FloatKind.f64 0)]⟩
abbrev afv:TI:=⟨.struct [(0,22),(1,34)],(.agg [.slc,.slc]),2,48,[(xj eH 0 0),(xj eH 0 0)]⟩
abbrev afw:TI:=⟨.struct [(0,277),(1,22),(2,22)],(.agg [.slc,.slc,.slc]),3,72,[(xj eH 0 0),(xj eH 0 0),(xj eH 0 0)]⟩
abbrev afx:TI:=⟨.struct [(0,119),(1,24),(4,85),(5,273),(6,279),(9,85),(10,85)],(.agg [.ptr,(.int .i64),(.int .i64),(.int .i64),.slc,.slc,.slc,.slc,.slc,.slc,.slc]),11,200,[(xk eH),(xi xo 0),(xi xo 0),(xi xo 0),(xj eH 0 0),(xj eH 0 0),(xj eH 0 0),(xj eH 0 0),(xj eH 0 0),(xj eH 0 0),(xj eH 0 0)]⟩
abbrev afy:TI:=⟨.struct [(0,235),(1,235),(2,3),(3,3),(4,4)],(.agg [(.cpx .f64),(.cpx .f64),(.int .i64),(.int .i64),.bool]),5,56,[(.complex Go.FloatKind.f64 0 0),(.complex Go.FloatKind.f64 0 0),(xi xo 0),(xi xo 0),(.bool .false)]⟩
abbrev afz:TI:=⟨.struct [(0,273),(1,282),(2,85)],(.agg [.slc,.slc,.slc]),3,72,[(xj eH 0 0),(xj eH 0 0),(xj eH 0 0)]⟩
abbrev afA:TI:=⟨.struct [(0,3),(1,3)],(.agg [(.int .i64),(.int .i64)]),2,16,[(xi xo 0),(xi xo 0)]⟩
abbrev afB:TI:=⟨.array 256 4,(.arr .bool),256,256,qg 256 (.bool .false)⟩
abbrev afC:TI:=⟨.struct [(0,311)],(.agg [(.int .u64)]),1,8,[(xi xr 0)]⟩
abbrev afD:TI:=⟨.struct [(0,51),(1,282),(2,282)],(.agg [.slc,.slc,.slc]),3,72,[(xj eH 0 0),(xj eH 0 0),(xj eH 0 0)]⟩
abbrev afE:TI:=⟨.struct [(0,5),(1,5)],(.agg [(.int .u8),(.int .u8)]),2,2,[(xi xp 0),(xi xp 0)]⟩
abbrev afF:TI:=⟨.struct [(0,17),(1,17),(2,17),(3,9)],(.agg [.ptr,.ptr,.ptr,.str]),4,40,[(xk eH),(xk eH),(xk eH),(xl ⟨#[]⟩)]⟩
abbrev afG:TI:=⟨.struct [(0,391)],(.agg []),0,0,[]⟩
abbrev afH:TI:=⟨.struct [(0,12),(1,12),(2,46),(3,394),(4,5),(5,5),(6,395),(7,396),(8,252),(9,397),(10,398)],(.agg [(.int .u64),(.int .u64),(.int .u32),(.int .u8),(.int .u8),(.int .u8),(.int .u8),.fn,.ptr,(.int .i32),(.int .i32)]),11,48,[(xi xr 0),(xi xr 0),(xi xq 0),(xi xp 0),(xi xp 0),(xi xp 0),(xi xp 0),.nilFunc,(xk eH),(.int .i32 0),(.int .i32 0)]⟩
noncomputable def tbl:kA:=[⟨.other,(.sc .any),1,0,[(.tuple #[])]⟩,aT,ti1,ti1,⟨.bool,(.sc .bool),1,1,[(.bool .false)]⟩,ti2,ti2,ahN,ahN,ti3,ti3,ti3,ti4,ahO,ahO,⟨.ptr 390,(.sc .ptr),1,8,[(xk eH)]⟩,⟨.ptr 393,(.sc .ptr),1,8,[(xk eH)]⟩,⟨.ptr 400,(.sc .ptr),1,8,[(xk eH)]⟩,ahP,ahP,⟨.other,(.sc .any),1,16,[.nilIface]⟩,ti5,⟨.slice 3,(.sc .slc),1,24,[(xj eH 0 0)]⟩,ahQ,ahQ,⟨.other,(.sc .any),1,0,[(.tuple #[(.agg #[(xi xo 0),(xi xo 0),(xi xo 0)]),(xi xo 0),(xj eH 0 0)])]⟩,aT,⟨.ptr 84,(.sc .ptr),1,8,[(xk eH)]⟩,ti1,ti6,aT,⟨.ptr 92,(.sc .ptr),1,8,[(xk eH)]⟩,aT,aT,⟨.slice 5,(.sc .slc),1,24,[(xj eH 0 0)]⟩,aT,aT,⟨.slice 9,(.sc .slc),1,24,[(xj eH 0 0)]⟩,aT,aT,ti7,aT,⟨.slice 94,(.sc .slc),1,24,[(xj eH 0 0)]⟩,ahR,ahR,aT,⟨.int .u32,(.sc (.int .u32)),1,4,[(xi xq 0)]⟩,ahS,ahS,⟨.slice 48,(.sc .slc),1,24,[(xj eH 0 0)]⟩,aT,⟨.slice 22,(.sc .slc),1,24,[(xj eH 0 0)]⟩,aT,aT,aT,aT,aT,⟨.other,(.sc .any),1,0,[(.tuple #[(xj eH 0 0),(.bool .false),(xi xo 0)])]⟩,aT,aT,aT,aT,⟨.other,(.sc .any),1,0,[(.tuple #[(.bool .false),(xi xo 0)])]⟩,aT,aT,aT,aT,aT,aT,ti8,aT,aT,aT,aT,⟨.ptr 156,(.sc .ptr),1,8,[(xk eH)]⟩,aT,aT,aT,aT,ti9,aT,aT,⟨.array 64 74,(.arr .ptr),64,512,qg 64 (xk eH)⟩,ahT,ahT,⟨.slice 34,(.sc .slc),1,24,[(xj eH 0 0)]⟩,aT,aT,aT,⟨.slice 101,(.sc .slc),1,24,[(xj eH 0 0)]⟩,aT,ahU,ahU,ahV,ahV,aT,aT,ti9,aT,aT,Yz,Yz,aT,aT,aT,aT,aT,⟨.ptr 109,(.sc .ptr),1,8,[(xk eH)]⟩,ahW,ahW,aT,aT,aT,aT,⟨.slice 117,(.sc .slc),1,24,[(xj eH 0 0)]⟩,aT,Yz,Yz,aT,⟨.ptr 197,(.sc .ptr),1,8,[(xk eH)]⟩,aT,aT,aT,ti8,aT,⟨.ptr 200,(.sc .ptr),1,8,[(xk eH)]⟩,aT,aT,aT,⟨.slice 85,(.sc .slc),1,24,[(xj eH 0 0)]⟩,aT,aT,⟨.slice 135,(.sc .slc),1,24,[(xj eH 0 0)]⟩,aT,afn,afn,aT,⟨.other,(.sc .any),1,0,[(.tuple #[(xi xo 0),(xj eH 0 0),(.bool .false)])]⟩,aT,aT,aT,aT,aT,aT,aT,aT,aT,aT,aT,aT,ti9,aT,aT,aT,aT,afo,afo,aT,aT,aT,aT,aT,⟨.other,(.sc .any),1,0,[(.tuple #[(xi xo 0),(.bool .false)])]⟩,aT,aT,⟨.ptr 234,(.sc .ptr),1,8,[(xk eH)]⟩,ti6,aT,aT,afp,afp,aT,aT,aT,aT,aT,aT,aT,aT,aT,aT,aT,⟨.ptr 187,(.sc .ptr),1,8,[(xk eH)]⟩,ti6,aT,aT,afq,afq,aT,⟨.slice 170,(.sc .slc),1,24,[(xj eH 0 0)]⟩,aT,aT,⟨.array 255 5,(.arr (.int .u8)),255,255,qg 255 (xi xp 0)⟩,aT,⟨.array 256 3,(.arr (.int .i64)),256,2048,qg 256 (xi xo 0)⟩,aT,afr,afr,aT,afs,afs,aT,aT,aT,aT,aT,aT,aT,aT,aT,aT,aT,aT,aT,aT,aT,aT,aT,aT,aT,ti8,aT,aT,aT,aT,aT,aT,aT,aT,ti4,aT,aT,aT,aft,aft,⟨.cpx,(.sc (.cpx .f64)),1,16,[(.complex Go.FloatKind.f64 0 0)]⟩,aT,⟨.slice 242,(.sc .slc),1,24,[(xj eH 0 0)]⟩,⟨.array 64 4,(.arr .bool),64,64,qg 64 (.bool .false)⟩,⟨.flt,(.sc (.flt .f64)),1,8,[(.float Go.FloatKind.f64 0)]⟩,aT,afu,afu,aT,aT,aT,aT,aT,aT,aT,aT,aT,⟨.ptr 5,(.sc .ptr),1,8,[(xk eH)]⟩,aT,⟨.other,(.sc .any),1,0,[(.tuple #[(.agg #[(xi xo 0),(xi xo 0),(xi xo 0),(xi xo 0),(xi xo 0),(xi xo 0),(xi xq 0),(xj eH 0 0)]),(.bool .false)])]⟩,aT,aT,aT,aT,aT,aT,aT,aT,aT,aT,aT,aT,aT,aT,aT,aT,aT,aT,⟨.slice 275,(.sc .slc),1,24,[(xj eH 0 0)]⟩,afv,afv,⟨.ptr 281,(.sc .ptr),1,8,[(xk eH)]⟩,⟨.slice 332,(.sc .slc),1,24,[(xj eH 0 0)]⟩,afw,afw,afx,afx,⟨.slice 4,(.sc .slc),1,24,[(xj eH 0 0)]⟩,⟨.other,(.sc .any),1,0,[(.tuple #[(xj eH 0 0),(xj eH 0 0),(xj eH 0 0),(xi xo 0)])]⟩,aT,aT,⟨.other,(.sc .any),1,0,[(.tuple #[(xj eH 0 0),(xj eH 0 0)])]⟩,aT,aT,aT,⟨.ptr 344,(.sc .ptr),1,8,[(xk eH)]⟩,aT,aT,aT,aT,aT,⟨.ptr 299,(.sc .ptr),1,8,[(xk eH)]⟩,aT,afy,afy,aT,aT,aT,ti1,ti7,aT,aT,aT,aT,aT,aT,ti4,aT,aT,aT,aT,aT,aT,aT,aT,aT,aT,aT,aT,⟨.ptr 326,(.sc .ptr),1,8,[(xk eH)]⟩,afz,afz,aT,⟨.other,(.sc .any),1,0,[(.tuple #[(.agg #[(xj eH 0 0),(xj eH 0 0),(xj eH 0 0)]),(.bool .false)])]⟩,aT,aT,afA,afA,aT,aT,aT,aT,afB,afB,⟨.other,(.sc .any),1,0,[(.tuple #[(.agg (qg 256 (.bool .false)).toArray),(.bool .false)])]⟩,aT,aT,⟨.ptr 338,(.sc .ptr),1,8,[(xk eH)]⟩,afC,afC,aT,aT,aT,aT,aT,aT,ti4,aT,aT,aT,⟨.ptr 3,(.sc .ptr),1,8,[(xk eH)]⟩,aT,aT,aT,aT,aT,aT,aT,aT,⟨.ptr 366,(.sc .ptr),1,8,[(xk eH)]⟩,afD,afD,aT,⟨.other,(.sc .any),1,0,[(.tuple #[(.agg #[(xi xo 0),(xi xo 0)]),(.bool .false)])]⟩,aT,aT,⟨.other,(.sc .any),1,0,[(.tuple #[(.int .i32 0),(xi xo 0)])]⟩,aT,aT,aT,aT,⟨.ptr 351,(.sc .ptr),1,8,[(xk eH)]⟩,ti7,aT,aT,aT,aT,aT,aT,⟨.array 256 5,(.arr (.int .u8)),256,256,qg 256 (xi xp 0)⟩,afE,afE,⟨.array 16 386,(.arr (.int .u8)),32,32,qg 32 (xi xp 0)⟩,aT,afF,afF,⟨.array 0 16,(.arr .ptr),0,0,[]⟩,afG,afG,ti2,ti2,aT,ti5,ti5,afH,afH,⟨.other,(.sc .any),1,8,[(xk eH)]⟩]
noncomputable def C:Ctx:={P:=xt,T:=tbl,tup:=[(0,[]),(25,[(.agg [(.int .i64),(.int .i64),(.int .i64)]),(.sc (.int .i64)),(.sc .slc)]),(29,[(.sc .ptr),(.sc (.int .i64))]),(40,[(.sc (.int .i64)),(.sc (.int .i64))]),(57,[(.sc .slc),(.sc .bool),(.sc (.int .i64))]),(62,[(.sc .bool),(.sc (.int .i64))]),(69,[(.sc .slc),(.sc (.int .i64))]),(79,[(.sc .slc),(.sc .bool)]),(97,[(.sc .slc),(.sc .bool)]),(123,[(.sc .slc),(.sc (.int .i64))]),(137,[(.sc (.int .i64)),(.sc .slc),(.sc .bool)]),(150,[(.sc .slc),(.sc .bool)]),(162,[(.sc (.int .i64)),(.sc .bool)]),(166,[(.sc .ptr),(.sc (.int .i64))]),(183,[(.sc .ptr),(.sc (.int .i64))]),(220,[(.sc .slc),(.sc (.int .i64))]),(254,[(.agg [(.int .i64),(.int .i64),(.int .i64),(.int .i64),(.int .i64),(.int .i64),(.int .u32),.slc]),(.sc .bool)]),(283,[(.sc .slc),(.sc .slc),(.sc .slc),(.sc (.int .i64))]),(286,[(.sc .slc),(.sc .slc)]),(304,[(.sc (.int .i64)),(.sc (.int .i64))]),(328,[(.agg [.slc,.slc,.slc]),(.sc .bool)]),(339,[(.arr .bool),(.sc .bool)]),(368,[(.agg [(.int .i64),(.int .i64)]),(.sc .bool)]),(371,[(.sc (.int .i32)),(.sc (.int .i64))]),(377,[(.sc (.int .i64)),(.sc (.int .i64))])],fns:=[eS,eS]++qg 328 eR++qg 22 eS++[eR]}
theorem aiO:(List.range C.T.length).map (kA.seen C.P)=C.T.map kA.told:=j4
theorem agu:C.P.follows .mixedOrders=eR:=j4
theorem aiP:(C.P.funcs.toList.map λf=>!(f.name== "runtime.NumGoroutine")&&f.body.isSome)=C.fns:=j4
theorem ac:C.Ok:={tbl:=aiO,mixed:=agu,fns:=aiP}
noncomputable def lL(T:Sl)(K:Int)(X:Int)(d:Int)(i:Int):Prop:=
 ae xt 7 #[T] (.many [(.agg [(.int .i64),(.int .i64),(.int .i64)]),aW,ct]) h λr1 h1=>
 aQ xt (qP 24 eR (.tuple #[])) h1 λb h2=>
 af xt (qf 24 b r1.1) h2 λ_ h3=>
 bg (σ:=aO×Int) (λa k=>
 bg (σ:=Unit) (λ_ j=>
 be j b λz=>
 be j (b.add 2) λA=>
 ae xt 12 #[K,(qc xo ((qc xo (2*z))*A))] bA j λO V=>
 ae xt 11 #[(qc xo (1+O)),X] aI V λe S=>
 ae xt 10 #[a.1,lc,e] bA S λx p=>
 Br (x !=0)
 (ae xt 13 #[a.1] aI p λY u=>
 Br ((Y.len:Int)==0) (ae xt 14 #[] bK u λJ ad=>
 R J ad) (R eS u))
 (ae xt 15 #[a.1,(xi xo 1),(xi xo 64)] (.many [aW,aW]) p λm l=>
 Br (m.2 !=0)
 (Br (m.2==12) (ae xt 14 #[] bK l λQ E=>
 R Q E) (R eS l))
 (ae xt 12 #[d,(xi xo 3)] bA l λq H=>
 bg (σ:=Unit) (λ_ N=>
 ae xt 32 #[a.1,lc] (.many [ct,aW]) N λv t=>
 bg (σ:=Unit) (λ_ G=>
 ae xt 12 #[i,(xi xo 65)] bA G λW L=>
 ae xt 15 #[a.1,(xi xo 1),W] (.many [aW,aW]) L λf D=>
 ae xt 32 #[a.1,lc] (.many [ct,aW]) D λg c=>
 Br (f.2==0) (Br (f.1>=0) (Br (g.2==0) (ae xt 33 #[g.1,e] bK c λU r=>
 Br U (ae xt 14 #[] bK r λF I=>
 R F I) (R eS r)) (R eS c)) (R eS c)) (Br (f.2==12) (Br (f.1>=0) (Br (g.2==0) (ae xt 33 #[g.1,e] bK c λB s=>
 Br B (ae xt 14 #[] bK s λah y=>
 R ah y) (R eS s)) (R eS c)) (R eS c)) (R eS c)))
 (λK4=>
 Br (v.2 !=0) (R eS t) (ae xt 33 #[v.1,e] bK t λM n=>
 Br (!M)
 (R eS n)
 (K4 () n))))
 (λK3=>
 ae xt 28 #[a.1,q] bA H λP o=>
 Br (P !=0) (R eS o) (ae xt 31 #[a.1,q,(xi xo 200)] bA o λZ w=>
 Br (Z !=0)
 (R eS w)
 (K3 () w))))))
 (λK2=>
 Br (a.2 !=0) (R eS k) (Br (qY a.1)
 (R eS k)
 (K2 () k))))
 (λK1=>
 ∃x3:bR,an h3 b 0 x3/\
 (ae xt 9 #[] jP h3 λr4 h4=>
 (av.ok [(b,x3.1),(b.add 1,x3.2.1),(b.add 2,x3.2.2)] h4)/\
 aA xt (qp 22 3 #[(0,(xi xo 200)),(1,(xi xo 200)),(2,(xi xo 200))]) aI h4 λv5 h5=>
 (av.ok [(b,x3.1),(b.add 1,x3.2.1),(b.add 2,x3.2.2)] h5)/\
 ae xt 8 #[x3,(xi xo 8),r4,v5] (.many [Db,aW]) h5 λr6 h6=>
 (av.ok [] h6)/\
 K1 (r6.1,r6.2) h6)/\(aA xt (qp 22 3 #[(0,(xi xo 200)),(1,(xi xo 200)),(2,(xi xo 200))]) aI h3 λv7 h7=>
 (av.ok [(b,x3.1),(b.add 1,x3.2.1),(b.add 2,x3.2.2)] h7)/\
 ae xt 9 #[] jP h7 λr8 h8=>
 (av.ok [(b,x3.1),(b.add 1,x3.2.1),(b.add 2,x3.2.2)] h8)/\
 ae xt 8 #[x3,(xi xo 8),r8,v7] (.many [Db,aW]) h8 λr9 h9=>
 (av.ok [] h9)/\
 K1 (r9.1,r9.2) h9))
theorem re(c:Sl)(d:Int)(e:Int)(a:Int)(b:Int)(f:@lL R h c d e a b):ab xt 5 #[c,d,e,a,b] h R:=au ac func5 (aj.tn (aj.tn (.two (.join [(14,Db),(15,aW)] [(14,16),(29,36)] .n) (.two (.join [] [(10,11),(36,42)] .n) (aj.tn (aj.tn (aj.tn (aj.tn (.two (.join [] [(10,11),(78,88)] .n) (aj.tn (.two (.join [] [(10,11),(93,101)] .n) .n))))))))))) f
noncomputable def nS(b:Sl):Prop:=
 aQ xt (qP 24 eR (.tuple #[])) h λu z=>
 ae xt 38 #[b,(xi xo 0)] bA z λv E=>
 ae xt 38 #[b,(xi xo 1)] bA E λD h3=>
 ae xt 38 #[b,(xi xo 2)] bA h3 λB F=>
 ae xt 37 #[v,D,B] (.one (.agg [(.int .i64),(.int .i64),(.int .i64)])) F λG I=>
 aQ xt (qP 24 eR (.tuple #[])) I λd J=>
 af xt (qf 24 d G) J λ_ y=>
 aJ (σ:=Sl×Int) (λj A h8=>
 ae xt 38 #[b,(xi xo 4)] bA h8 λx H=>
 ae xt 12 #[x,(xi xo 4)] bA H λw f=>
 Br (j.2<(qc xo (2+w)))
 (ae xt 38 #[b,(qc xo (5+j.2))] bA f λl s=>
 ae xt 12 #[l,(xi xo 50)] bA s λq t=>
 aA xt (qp 22 1 #[(0,(qc xo (8+q)))]) aI t λn r=>
 aA xt (qu #[22,22] 22 #[j.1,n]) aI r λe p=>
 A ((⟨e.ptr,e.len,e.cap⟩:Sl),qc xo (j.2+1)) p)
 (∃a:bR,an f d 0 a/\
 ae xt 38 #[b,(xi xo 3)] bA f λo i=>
 (av.ok [(d,a.1),(d.add 1,a.2.1),(d.add 2,a.2.2)] i)/\
 ae xt 12 #[o,(xi xo 7)] bA i λm k=>
 (av.ok [(d,a.1),(d.add 1,a.2.1),(d.add 2,a.2.2)] k)/\
 af xt (qf 24 u a) k λ_ g=>
 (av.ok [] g)/\
 ∃c:bR,an g u 0 c/\
 R (.tuple #[c,m,j.1]) g)) ((⟨eH,0,0⟩:Sl),(0:Int)) y
theorem xy(a:Sl)(b:@nS R h a):ab xt 7 #[a] h R:=au ac func7 (aj.tn (aj.tn (aj.tn (aj.tn (.two (aj.tn (.inn (.loop [(7,ct),(8,aW)] [(7,9),(16,35)] .n))) .n))))) b
noncomputable def Dc(B:bR)(b:Int)(c:aO)(a:Sl):Prop:=
 aQ xt (qO 24 B) h λk P=>
 ae xt 39 #[a] (.many [ct,lK]) P λm E=>
 bg (σ:=Unit) (λ_ K=>
 bg (σ:=aO) (λd O=>
 aJ (σ:=Int) (λi U h8=>
 Br (i<(m.1.len:Int))
 (aP m.1 i λy=>
 be h8 (y.add (i.toNat*1)) λl=>
 aP a l λr=>
 be h8 (r.add (l.toNat*1)) λx=>
 ∃s,(d=dB s)/\
 ∃w:dj,an h8 s 0 w/\
 ae xt 42 #[w] aI h8 λz I=>
 (av.ok [(r.add (l.toNat*1),x)] I)/\
 Br (x<(z.len:Int))
 (R (.tuple #[(xk eH),(xi xo 7)]) I)
 (U (qc xo (i+1)) I))
 (aJ (σ:=Int) (λj S f=>
 Br (j<(m.1.len:Int))
 (aP m.1 j λA=>
 be f (A.add (j.toNat*1)) λe=>
 aP a e λa22=>
 be f (a22.add (e.toNat*1)) λG=>
 ∃q,(d=dB q)/\
 ae xt 43 #[G,c] jP f λF u=>
 (av.ok [] u)/\
 (0<=e/\e<((64:Nat):Int))/\
 af xt (qf 74 ((q.add 10).add (e.toNat*1)) F) u λ_ v=>
 (av.ok [] v)/\
 S (qc xo (j+1)) v)
 (∃t,(d=dB t)/\
 ∃n:dj,an f t 0 n/\
 ae xt 45 #[n,m.1] aI f λH D=>
 ae xt 44 #[(.func (.func 35) #[d] #[]),H] bA D λp o=>
 Br (p !=0)
 (R (.tuple #[(xk eH),p]) o)
 (R (.tuple #[d,(xi xo 0)]) o))) (0:Int) h8)) (0:Int) O)
 (λN=>
 ∃g:bR,an K k 0 g/\
 ae xt 41 #[c] bA K λV L=>
 (av.ok [(k,g.1),(k.add 1,g.2.1),(k.add 2,g.2.2)] L)/\
 ∃J:eX,(aL xt (vN 84 #[(0,(xn #[(xi xo 1),(xi xo 0),g.1,g.2.1,g.2.2,b,m.1,(xj eH 0 0)])),(1,c),(2,V)]) J)/\
 aQ xt (qO 84 J) L λa9 M=>
 (av.ok [(k,g.1),(k.add 1,g.2.1),(k.add 2,g.2.2)] M)/\
 N (dB a9) M))
 (λQ=>
 Br (!m.2) (R (.tuple #[(xk eH),(xi xo 1)]) E) (∃x3:bR,an E k 0 x3/\
 ae xt 40 #[x3] bK E λT h3=>
 Br (!T) (R (.tuple #[(xk eH),(xi xo 1)]) h3) (Br (b<0) (R (.tuple #[(xk eH),(xi xo 1)]) h3) (Br (b>16) (R (.tuple #[(xk eH),(xi xo 1)]) h3) (Br (qY c)
 (R (.tuple #[(xk eH),(xi xo 1)]) h3)
 (Q () h3))))))
theorem Lc(d:bR)(a:Int)(c:aO)(b:Sl)(e:@Dc R h d a c b):ab xt 8 #[d,a,c,b] h R:=au ac func8 (aj.tn (aj.tn (.two (.join [] [(8,10),(23,42)] .n) (.two (.join [(12,Db)] [(12,13),(42,51)] .n) (.two (aj.tn (.inn (.loop [(53,aW)] [(8,10),(14,15),(53,69)] .n))) (.two (aj.tn (.inn (.loop [(71,aW)] [(16,17),(71,87)] .n))) .n)))))) e
noncomputable def JV:Prop:=
 aQ xt (qO 92 (xn #[eS,eS,(xi xo 0),(xi xo 0)])) h λb a=>
 R b a
theorem Rh(a:@JV R h):ab xt 9 #[] h R:=au ac func9 .n a
noncomputable def uP(a:aO)(e:ByteArray)(k:Sl):Prop:=
 ae xt 46 #[a,e,k] bA h λr1 X=>
 Br (r1 !=0)
 (R r1 X)
 (∃a2,(a=dB a2)/\
 be X (a2.add 1) λx3=>
 aQ xt (qP 94 eR (.tuple #[])) X λa4 h2=>
 af xt (qf 94 a4 (xn #[e,x3,(xi xo (k.len:Int)),(xj eH 0 0)])) h2 λ_ h3=>
 bg (σ:=Sl×Bool) (λO h6=>
 Br (!O.2)
 (R (xi xo 8) h6)
 (af xt (qf 22 (a4.add 3) O.1) h6 λ_ h7=>
 ∃s:iE,an h7 a4 0 s/\
 ae xt 49 #[a,s,k] (.many [ct,lK]) h7 λG h8=>
 aQ xt (qP 89 eR (.tuple #[])) h8 λi h9=>
 af xt (qf 89 i G.1) h9 λ_ g=>
 Br (!G.2)
 (R (xi xo 8) g)
 (bg (σ:=fz×Sl) (λf E=>
 ∃B:dj,an E f.1 0 B/\
 ae xt 42 #[B] aI E λY ad=>
 aQ xt (qP 3 eR (.tuple #[])) ad λp V=>
 af xt (qf 3 p (xi xo (Y.len:Int))) V λ_ W=>
 ae xt 52 #[a,f.2,(.func (.func 51) #[] #[p,i])] bK W λam D=>
 Br (!am)
 (R (xi xo 7) D)
 (ae xt 53 #[a,f.2,(.func (.func 51) #[] #[p,i])] bA D λw l=>
 Br (w !=0)
 (R w l)
 (bi l i λS=>
 ae xt 44 #[(.func (.func 35) #[a] #[]),S] bA l λx r=>
 Br (x !=0)
 (R x r)
 (∃y:dj,an r f.1 0 y/\
 ae xt 54 #[a,y,f.2] bA r λU Z=>
 R U Z))))
 (λT=>
 ∃c,(a=dB c)/\
 ∃b:dj,an g c 0 b/\
 ∃d:iE,an g a4 0 d/\
 (ae xt 50 #[b,d] Lb g λu o=>
 (av.ok [] o)/\
 (ae xt 25 #[a] aI o λn J=>
 (av.ok [] J)/\
 aQ xt (qP 44 eR (.tuple #[])) J λM H=>
 (av.ok [] H)/\
 af xt (qf 44 M u) H λ_ z=>
 (av.ok [] z)/\
 T (M,(⟨n.ptr,n.len,n.cap⟩:Sl)) z)/\(aQ xt (qP 44 eR (.tuple #[])) o λa22 I=>
 (av.ok [] I)/\
 ae xt 25 #[a] aI I λq N=>
 (av.ok [] N)/\
 af xt (qf 44 a22 u) N λ_ K=>
 (av.ok [] K)/\
 T (a22,(⟨q.ptr,q.len,q.cap⟩:Sl)) K))/\(aQ xt (qP 44 eR (.tuple #[])) g λF t=>
 (av.ok [(a4,d.1),(a4.add 1,d.2.1),(a4.add 2,d.2.2.1),(a4.add 3,d.2.2.2),(c,b.1),(c.add 1,b.2.1),(c.add 2,b.2.2.1),(c.add 3,b.2.2.2.1),(c.add 4,b.2.2.2.2.1),(c.add 5,b.2.2.2.2.2.1),(c.add 6,b.2.2.2.2.2.2.1),(c.add 7,b.2.2.2.2.2.2.2)] t)/\
 ae xt 50 #[b,d] Lb t λah A=>
 (av.ok [] A)/\
 ae xt 25 #[a] aI A λm v=>
 (av.ok [] v)/\
 af xt (qf 44 F ah) v λ_ P=>
 (av.ok [] P)/\
 T (F,(⟨m.ptr,m.len,m.cap⟩:Sl)) P)))))
 (λK1=>
 ∃a5,(a=dB a5)/\
 ∃L:bR,an h3 (a5.add 2) 0 L/\
 be h3 (a4.add 1) λx7=>
 ∃a8,(a=dB a8)/\
 ∃x9:bR,an h3 (a8.add 2) 0 x9/\
 ae xt 48 #[x9,(xi xo (k.len:Int))] bA h3 λQ h4=>
 (av.ok [(a4.add 1,x7),(a5.add 2,L.1),((a5.add 2).add 1,L.2.1),((a5.add 2).add 2,L.2.2)] h4)/\
 ae xt 47 #[L,x7,Q] (.many [ct,lK]) h4 λj h5=>
 (av.ok [] h5)/\
 K1 ((⟨j.1.ptr,j.1.len,j.1.cap⟩:Sl),j.2) h5))
theorem Gi(b:aO)(a:ByteArray)(c:Sl)(d:@uP R h b a c):ab xt 10 #[b,a,c] h R:=au ac func10 (aj.tn (aj.tn (aj.tn (.two (.join [(9,ct),(10,lK)] [(9,11),(34,53)] .n) (aj.tn (aj.tn (aj.tn (aj.tn (.two (.join [(12,(.sc .adr)),(13,ct)] [(12,14),(66,74)] .n) .n))))))))) d
noncomputable def po(c:Int)(b:Int):Prop:=
 aJ (σ:=Sl×Int) (λa e d=>
 Br (a.2<c)
 (((7:Int)≠0)/\
 (0<=(wj a.2 7))/\
 aA xt (qp 34 1 #[(0,(xi xp (qc xp (qc xo ((q9 b (2^min (wj a.2 7).toNat (ql xo)))+(qc xo (a.2*(qc xo ((qF (ql xo) b|||(qF (ql xo) (1:Int))).toNat:Nat)))))))))]) aI d λg f=>
 aA xt (qu #[34,34] 34 #[a.1,g]) aI f λv3 h3=>
 e ((⟨v3.ptr,v3.len,v3.cap⟩:Sl),qc xo (a.2+1)) h3)
 (R a.1 d)) ((⟨eH,0,0⟩:Sl),(0:Int)) h
theorem Bb(b:Int)(a:Int)(c:@po R h b a):ab xt 11 #[b,a] h R:=au ac func11 (aj.tn (aj.tn (.two (aj.tn (.inn (.loop [(5,ct),(6,aW)] [(5,25)] .n))) .n))) c
noncomputable def nT(b:Int)(a:Int):Prop:=
 (a≠0)/\
 bg (σ:=Int) (λd e=>
 R d e)
 (λc=>
 Br ((wj b a)<0)
 (c (qc xo ((wj b a)+a)) h)
 (c (wj b a) h))
theorem xz(a:Int)(b:Int)(c:@nT R h a b):ab xt 12 #[a,b] h R:=au ac func12 (aj.tn (aj.tn (.two (.join [(0,aW)] [(0,1),(8,13)] .n) .n))) c
noncomputable def tV(c:aO):Prop:=
 ae xt 55 #[c] bK h λo e=>
 Br o
 (R (xj eH 0 0) e)
 (∃k,(c=dB k)/\
 bi e (k.add 7) λx3=>
 aJ (σ:=Sl×Int) (λb n f=>
 Br (b.2<(x3.len:Int))
 (aP x3 b.2 λa5=>
 ∃j:iE,an f (a5.add (b.2.toNat*4)) 0 j/\
 aQ xt (qP 94 eR (.tuple #[])) f λg h3=>
 af xt (qf 94 g j) h3 λ_ i=>
 JU i g λq=>
 ae xt 56 #[q] (.one tyT) i λl p=>
 aA xt (qp 37 1 #[(0,l)]) aI p λd r=>
 aA xt (qu #[37,37] 37 #[b.1,d]) aI r λa m=>
 n ((⟨a.ptr,a.len,a.cap⟩:Sl),qc xo (b.2+1)) m)
 (R b.1 f)) ((⟨eH,0,0⟩:Sl),(0:Int)) e)
theorem EB(a:aO)(b:@tV R h a):ab xt 13 #[a] h R:=au ac func13 (aj.tn (aj.tn (aj.tn (.two (aj.tn (.inn (.loop [(3,ct),(14,aW)] [(3,4),(5,6),(14,25)] .n))) .n)))) b
noncomputable def nU:Prop:=
 ae xt 9 #[] jP h λf e=>
 aA xt (qp 22 1 #[(0,(xi xo 5))]) aI e λj g=>
 ae xt 8 #[(xn #[(xi xo 1),(xi xo 1),(xi xo 1)]),(xi xo 0),f,j] (.many [Db,aW]) g λb h3=>
 ae xt 15 #[b.1,(xi xo 0),(xi xo 0)] (.many [aW,aW]) h3 λc i=>
 ae xt 15 #[b.1,(xi xo 1),(xi xo 0)] (.many [aW,aW]) i λd a=>
 Br (b.2==0) (Br (c.2==0) (Br (c.1==0) (R (xm (d.2==1)) a) (R eS a)) (R eS a)) (R eS a)
theorem xA(a:@nU R h):ab xt 14 #[] h R:=au ac func14 .n a
noncomputable def uC(b:aO)(d:Int)(a:Int):Prop:=
 bg (σ:=Unit) (λ_ O=>
 ae xt 16 #[b] Lb O λf h3=>
 ae xt 25 #[b] aI h3 λN P=>
 aQ xt (qO 109 (xn #[b,f.1,f.2.1,f.2.2.1,f.2.2.2.1,f.2.2.2.2.1,f.2.2.2.2.2.1,f.2.2.2.2.2.2.1,f.2.2.2.2.2.2.2,N,d,a,(xi xo 0)])) P λa5 t=>
 bg (σ:=Unit) (λ_ h8=>
 ae xt 59 #[a5] bA h8 λu E=>
 Br (u !=0)
 (R (.tuple #[(xi xo 0),u]) E)
 (∃o:fz,(dB a5=dB o)/\
 bi E ((o.add 1).add 7) λs=>
 aJ (σ:=Int) (λc L e=>
 Br (c<(s.len:Int))
 (aP s c λF=>
 ∃m:iE,an e (F.add (c.toNat*4)) 0 m/\
 aQ xt (qP 94 eR (.tuple #[])) e λi B=>
 af xt (qf 94 i m) B λ_ q=>
 bi q (i.add 3) λD=>
 aJ (σ:=Int) (λk S j=>
 Br (k<(D.len:Int))
 (∃l:iE,an j i 0 l/\
 ae xt 60 #[a5,l,k] bA j λr g=>
 Br (r !=0)
 (∃n:fz,(dB a5=dB n)/\
 be g (n.add 12) λx=>
 R (.tuple #[x,r]) g)
 (S (qc xo (k+1)) g))
 (L (qc xo (c+1)) j)) (0:Int) q)
 (∃p:fz,(dB a5=dB p)/\
 be e (p.add 12) λw=>
 R (.tuple #[w,(xi xo 0)]) e)) (0:Int) E))
 (λJ=>
 bg (σ:=Bool) (λQ A=>
 Br Q
 (R (.tuple #[(xi xo 0),(xi xo 1)]) A)
 (∃a9:fz,(dB a5=dB a9)/\
 bi A (a9.add 9) λy=>
 ae xt 58 #[(xi xo (y.len:Int)),d] bA A λz H=>
 Br (z>4096)
 (R (.tuple #[(xi xo 0),(xi xo 13)]) H)
 (J () H)))
 (λv=>
 Br (d<0) (v eR t) (∃G:fz,(dB a5=dB G)/\
 bi t (G.add 9) λT=>
 Br (d>=(T.len:Int)) (v eR t) (Br (a<0) (v eR t) (v (decide (a>64)) t))))))
 (λK=>
 Br (qY b) (R (.tuple #[(xi xo 0),(xi xo 14)]) h) (ae xt 57 #[b] bK h λM I=>
 Br M
 (R (.tuple #[(xi xo 0),(xi xo 14)]) I)
 (K () I)))
theorem BO(b:aO)(c:Int)(a:Int)(d:@uC R h b c a):ab xt 15 #[b,c,a] h R:=au ac func15 (aj.tn (.two (.join [] [(6,8),(14,20)] .n) (aj.tn (.two (.join [] [(6,8),(29,58)] (.inn (.two (.join [(29,lK)] [(29,49)] .n) .n))) (aj.tn (.two (aj.tn (.inn (.loop [(69,aW)] [(6,8),(11,14),(69,92)] (aj.tn (aj.tn (.two (.inn (aj.tn (aj.tn (.inn (.loop [(76,aW)] [(6,8),(12,14),(76,91)] .n))))) .n)))))) .n)))))) d
noncomputable def oq(c:aO):Prop:=
 aQ xt (qP 44 eR (.tuple #[])) h λd e=>
 Br (qY c)
 (af xt (qf 44 d (xn #[(xi xo 0),(xi xo 0),(xi xo 0),(xi xo 0),(xi xo 0),(xi xo 0),(xj eH 0 0),(xj eH 0 0)])) e λ_ g=>
 ∃a:dj,an g d 0 a/\
 R a g)
 (∃a3,(c=dB a3)/\
 ∃f:dj,an e a3 0 f/\
 ae xt 61 #[f] Lb e λj h3=>
 af xt (qf 44 d j) h3 λ_ i=>
 ∃b:dj,an i d 0 b/\
 R b i)
theorem Ao(a:aO)(b:@oq R h a):ab xt 16 #[a] h R:=au ac func16 .n b
noncomputable def rU(c:aO)(a:Int)(b:Int):Prop:=
 ae xt 25 #[c] aI h λv y=>
 aJ (σ:=Sl×Int) (λg z o=>
 Br (g.2<(v.len:Int))
 (aP v g.2 λa3=>
 be o (a3.add (g.2.toNat*1)) λB=>
 aA xt (qp 22 1 #[(0,B)]) aI o λv5 h3=>
 ∃t,(c=dB t)/\
 ∃w:dj,an h3 t 0 w/\
 ae xt 63 #[(.func (.func 35) #[c] #[]),v5,w,a,b] aI h3 λs A=>
 aJ (σ:=Sl×Int) (λf x r=>
 Br (f.2<(s.len:Int))
 (aP s f.2 λl=>
 ∃j:Int×Sl,an r (l.add (f.2.toNat*2)) 0 j/\
 aQ xt (qP 117 eR (.tuple #[])) r λi E=>
 af xt (qf 117 i j) E λ_ u=>
 be u i λk=>
 aA xt (qp 22 1 #[(0,k)]) aI u λm h8=>
 aA xt (qu #[22,22] 22 #[f.1,m]) aI h8 λe D=>
 x ((⟨e.ptr,e.len,e.cap⟩:Sl),qc xo (f.2+1)) D)
 (aA xt (qp 51 1 #[(0,f.1)]) aI r λn q=>
 aA xt (qu #[51,51] 51 #[g.1,n]) aI q λd p=>
 z ((⟨d.ptr,d.len,d.cap⟩:Sl),qc xo (g.2+1)) p)) ((⟨eH,0,0⟩:Sl),(0:Int)) A)
 (R g.1 o)) ((⟨eH,0,0⟩:Sl),(0:Int)) y
theorem Dd(c:aO)(a:Int)(b:Int)(d:@rU R h c a b):ab xt 18 #[c,a,b] h R:=au ac func18 (aj.tn (aj.tn (.two (aj.tn (.inn (.loop [(7,ct),(16,aW)] [(7,8),(9,11),(12,13),(16,47)] (aj.tn (aj.tn (.two (.inn (aj.tn (aj.tn (.two (aj.tn (.inn (.loop [(10,ct),(32,aW)] [(10,11),(12,13),(32,42)] .n))) .n)))) .n)))))) .n))) d
noncomputable def FA(d:bR)(a:Int)(b:Sl):Prop:=
 aQ xt (qO 24 d) h λc e=>
 ∃x2:bR,an e c 0 x2/\
 ae xt 65 #[] jP e λk f=>
 (av.ok [(c,x2.1),(c.add 1,x2.2.1),(c.add 2,x2.2.2)] f)/\
 ae xt 66 #[x2,(xi xq a),b] aI f λj h3=>
 (av.ok [] h3)/\
 ae xt 64 #[k,j] bA h3 λi g=>
 (av.ok [] g)/\
 R i g
theorem Mq(c:bR)(a:Int)(b:Sl)(d:@FA R h c a b):ab xt 20 #[c,(xi xq a),b] h R:=au ac func20 .n d
noncomputable def Mr(b:bR):Prop:=
 aQ xt (qO 24 b) h λc d=>
 ∃x2:bR,an d c 0 x2/\
 ae xt 40 #[x2] bK d λg a=>
 Br (!g)
 (R (xi xo 0) a)
 (be a c λf=>
 be a (c.add 1) λe=>
 R (qc xo (f+e)) a)
theorem Ts(a:bR)(b:@Mr R h a):ab xt 21 #[a] h R:=au ac func21 .n b
noncomputable def FB(p:bR)(d:Int)(a:Sl)(t:Int):Prop:=
 aQ xt (qO 24 p) h λl x=>
 ∃x2:bR,an x l 0 x2/\
 ae xt 40 #[x2] bK x λF z=>
 Br (!F)
 (R (.tuple #[(xj eH 0 0),eS,(xi xo 1)]) z)
 (ae xt 68 #[(xi xo (a.len:Int)),t] (.many [ct,aW]) z λk h3=>
 Br (k.2 !=0)
 (R (.tuple #[(xj eH 0 0),eS,k.2]) h3)
 (∃u:bR,an h3 l 0 u/\
 ae xt 21 #[u] bA h3 λy H=>
 ae xt 65 #[] jP H λG J=>
 ae xt 69 #[G,y] jP J λw A=>
 ∃v:bR,an A l 0 v/\
 ae xt 70 #[v] aI A λf D=>
 aJ (σ:=Int) (λc E h8=>
 Br (c<(f.len:Int))
 (aP f c λo=>
 bi h8 (o.add (c.toNat*1)) λn=>
 ae xt 71 #[w,n] bK h8 λ_ I=>
 E (qc xo (c+1)) I)
 (∃j:bR,an h8 l 0 j/\
 ae xt 72 #[j,(xi xq d),a] aI h8 λm s=>
 aJ (σ:=Int) (λb B e=>
 Br (b<(k.1.len:Int))
 (aP k.1 b λr=>
 bi e (r.add (b.toNat*1)) λg=>
 ae xt 73 #[w,m,g,y] bK e λq i=>
 Br (!q)
 (R (.tuple #[g,eR,(xi xo 0)]) i)
 (B (qc xo (b+1)) i))
 (R (.tuple #[(xj eH 0 0),eS,(xi xo 0)]) e)) (0:Int) s)) (0:Int) D))
theorem Ms(c:bR)(b:Int)(a:Sl)(d:Int)(e:@FB R h c b a d):ab xt 23 #[c,(xi xq b),a,d] h R:=au ac func23 (aj.tn (aj.tn (aj.tn (aj.tn (aj.tn (aj.tn (.two (aj.tn (.inn (.loop [(40,aW)] [(15,16),(40,48)] .n))) (aj.tn (.two (aj.tn (.inn (.loop [(54,aW)] [(8,11),(18,19),(54,66)] .n))) .n))))))))) e
noncomputable def tW(a:aO):Prop:=
 Br (qY a)
 (R (xj eH 0 0) h)
 (∃b,(a=dB b)/\
 bi h (b.add 6) λx2=>
 ae xt 80 #[(.func (.func 35) #[a] #[]),x2] aI h λd c=>
 R d c)
theorem EC(a:aO)(b:@tW R h a):ab xt 25 #[a] h R:=au ac func25 .n b
noncomputable def Ap(b:aO)(a:Int):Prop:=
 ae xt 83 #[b] bK h λk c=>
 Br k
 (R (xi xo 14) c)
 (ae xt 25 #[b] aI c λg i=>
 ae xt 84 #[g,a] bK i λf h3=>
 Br (!f)
 (R (xi xo 5) h3)
 (ae xt 35 #[b,a] jP h3 λe j=>
 ae xt 85 #[e] iV j λ_ d=>
 R (xi xo 0) d))
theorem De(b:aO)(a:Int)(c:@Ap R h b a):ab xt 28 #[b,a] h R:=au ac func28 .n c
noncomputable def rf(c:aO)(a:Int)(b:Int):Prop:=
 ae xt 83 #[c] bK h λB t=>
 Br B
 (R (xi xo 14) t)
 (ae xt 16 #[c] Lb t λx F=>
 aQ xt (qP 44 eR (.tuple #[])) F λa3 h3=>
 af xt (qf 44 a3 x) h3 λ_ G=>
 ae xt 88 #[a,b] bK G λD r=>
 Br (!D)
 (R (xi xo 1) r)
 (bi r (a3.add 6) λw=>
 ae xt 84 #[w,a] bK r λA v=>
 Br (!A)
 (R (xi xo 5) v)
 (ae xt 25 #[c] aI v λE z=>
 ae xt 84 #[E,a] bK z λy h8=>
 Br y
 (R (xi xo 4) h8)
 (∃s:dj,an h8 a3 0 s/\
 ae xt 42 #[s] aI h8 λf u=>
 Br (b<(f.len:Int))
 (R (xi xo 7) u)
 (ae xt 90 #[c] jP u λk p=>
 ae xt 43 #[b,k] jP p λj n=>
 ae xt 89 #[c,a,j] iV n λ_ d=>
 ∃e:dj,an d a3 0 e/\
 aA xt (qp 22 1 #[(0,a)]) aI d λl m=>
 ae xt 45 #[e,l] aI m λg i=>
 ae xt 44 #[(.func (.func 35) #[c] #[]),g] bA i λq o=>
 R q o)))))
theorem uQ(c:aO)(b:Int)(a:Int)(d:@rf R h c b a):ab xt 31 #[c,b,a] h R:=au ac func31 .n d
noncomputable def uR(c:aO)(g:ByteArray):Prop:=
 ae xt 55 #[c] bK h λT K=>
 Br T
 (R (.tuple #[(xj eH 0 0),(xi xo 14)]) K)
 (ae xt 91 #[c,g] bA K λx L=>
 Br (x<0)
 (R (.tuple #[(xj eH 0 0),(xi xo 5)]) L)
 (ae xt 92 #[c] bK L λV h3=>
 Br (!V)
 (R (.tuple #[(xj eH 0 0),(xi xo 11)]) h3)
 (∃a4,(c=dB a4)/\
 bi h3 (a4.add 7) λO=>
 aP O x λQ=>
 ∃M:iE,an h3 (Q.add (x.toNat*4)) 0 M/\
 aQ xt (qP 94 eR (.tuple #[])) h3 λm W=>
 af xt (qf 94 m M) W λ_ N=>
 bi N (m.add 3) λI=>
 aJ (σ:=Sl×Int) (λd S l=>
 Br (d.2<(I.len:Int))
 (aP I d.2 λG=>
 be l (G.add (d.2.toNat*1)) λw=>
 bg (σ:=Sl) (λB H=>
 bg (σ:=Sl×Int) (λt r=>
 Br (t.2 !=0)
 (R (.tuple #[(xj eH 0 0),(xi xo 11)]) r)
 (aA xt (qp 85 1 #[(0,t.1)]) aI r λv25 E=>
 aA xt (qu #[85,85] 85 #[d.1,v25]) aI E λj A=>
 S ((⟨j.ptr,j.len,j.cap⟩:Sl),qc xo (d.2+1)) A))
 (λU=>
 ∃e,(c=dB e)/\
 ∃f:bR,an H (e.add 2) 0 f/\
 be H (m.add 1) λy=>
 ae xt 62 #[y,d.2,w] (.one (.sc (.int .u32))) H λD s=>
 (av.ok [(e.add 2,f.1),((e.add 2).add 1,f.2.1),((e.add 2).add 2,f.2.2)] s)/\
 ae xt 93 #[f,(xi xq D),B] (.many [ct,aW]) s λi p=>
 (av.ok [] p)/\
 U ((⟨i.1.ptr,i.1.len,i.1.cap⟩:Sl),i.2) p))
 (λP=>
 ∃a,(c=dB a)/\
 ∃b:dj,an l a 0 b/\
 be l (m.add 1) λu=>
 ae xt 25 #[c] aI l λv J=>
 (av.ok [(m.add 1,u),(a,b.1),(a.add 1,b.2.1),(a.add 2,b.2.2.1),(a.add 3,b.2.2.2.1),(a.add 4,b.2.2.2.2.1),(a.add 5,b.2.2.2.2.2.1),(a.add 6,b.2.2.2.2.2.2.1),(a.add 7,b.2.2.2.2.2.2.2)] J)/\
 ae xt 63 #[(.func (.func 35) #[c] #[]),v,b,u,d.2] aI J λk h8=>
 (av.ok [] h8)/\
 P (⟨k.ptr,k.len,k.cap⟩:Sl) h8))
 (∃n,(c=dB n)/\
 ∃o:bR,an l (n.add 2) 0 o/\
 be l (m.add 2) λz=>
 ae xt 94 #[o,d.1,z] (.many [ct,lK]) l λF q=>
 (av.ok [] q)/\
 R (.tuple #[F.1,(xi xo 0)]) q)) ((⟨eH,0,0⟩:Sl),(0:Int)) N)))
theorem Gj(b:aO)(a:ByteArray)(c:@uR R h b a):ab xt 32 #[b,a] h R:=au ac func32 (aj.tn (aj.tn (aj.tn (aj.tn (aj.tn (aj.tn (aj.tn (.two (aj.tn (.inn (.loop [(8,ct),(37,aW)] [(4,6),(8,14),(37,76)] (aj.tn (aj.tn (.two (.inn (aj.tn (.two (.join [(11,ct)] [(11,12),(42,54)] .n) (.two (.join [(12,ct),(13,aW)] [(12,14),(54,69)] .n) .n)))) .n)))))) .n)))))))) c
noncomputable def mG(a:Sl)(d:Sl):Prop:=
 Br ((a.len:Int) !=(d.len:Int))
 (R eS h)
 (aJ (σ:=Int) (λb f c=>
 Br (b<(a.len:Int))
 (aP a b λg=>
 gq .u8 c (g.add (b.toNat*1)) λx3=>
 aP d b λa4=>
 gq .u8 c (a4.add (b.toNat*1)) λe=>
 Br (x3 !=e)
 (R eS c)
 (f (qc xo (b+1)) c))
 (R eR c)) (0:Int) h)
theorem sD(a:Sl)(b:Sl)(c:@mG R h a b):ab xt 33 #[a,b] h R:=au ac func33 (aj.tn (aj.tn (.two (aj.tn (.inn (.loop [(13,aW)] [(4,6),(13,26)] .n))) .n))) c
noncomputable def Hq(e:aO)(d:dj):Prop:=
 aQ xt (qO 44 d) h λl i=>
 ∃x2:dj,an i l 0 x2/\
 ae xt 95 #[x2] bK i λq k=>
 Br (!q)
 (R eS k)
 (ae xt 96 #[e] aI k λp h3=>
 ∃g:dj,an h3 l 0 g/\
 ae xt 42 #[g] aI h3 λj r=>
 aJ (σ:=Int) (λb o f=>
 Br (b<(j.len:Int))
 (aP j b λs=>
 bi f (s.add (b.toNat*1)) λm=>
 aQ xt (qP 34 eR (.tuple #[])) f λa t=>
 af xt (qf 34 a m) t λ_ n=>
 ae xt 97 #[p,(.func (.func 98) #[] #[a])] bK n λc h8=>
 Br (!c)
 (R eS h8)
 (o (qc xo (b+1)) h8))
 (R eR f)) (0:Int) r)
theorem OJ(b:aO)(a:dj)(c:@Hq R h b a):ab xt 34 #[b,a] h R:=au ac func34 (aj.tn (aj.tn (aj.tn (.two (aj.tn (.inn (.loop [(16,aW)] [(4,5),(7,8),(16,25)] .n))) .n)))) c
noncomputable def rV(b:aO)(a:Int):Prop:=
 bg (σ:=Unit) (λ_ c=>
 ∃d,(b=dB d)/\
 (0<=a/\a<((64:Nat):Int))/\
 jp c ((d.add 10).add (a.toNat*1)) λx3=>
 R x3 c)
 (λe=>
 Br (qY b) (R (xk eH) h) (Br (a<0) (R (xk eH) h) (Br (a>=64)
 (R (xk eH) h)
 (e () h))))
theorem Df(b:aO)(a:Int)(c:@rV R h b a):ab xt 35 #[b,a] h R:=au ac func35 (aj.tn (.two (.join [] [(4,15)] .n) .n)) c
noncomputable def ot(c:Int)(d:Int)(b:Int):Prop:=
 aQ xt (qP 24 eR (.tuple #[])) h λf g=>
 ae xt 12 #[c,(xi xo 6)] bA g λk l=>
 ae xt 12 #[d,(xi xo 3)] bA l λj h3=>
 ae xt 12 #[b,(xi xo 9)] bA h3 λi m=>
 af xt (qf 24 f (xn #[(qc xo (1+k)),(qc xo (1+j)),(qc xo (1+i))])) m λ_ e=>
 ∃a:bR,an e f 0 a/\
 R a e
theorem Aq(a:Int)(c:Int)(b:Int)(d:@ot R h a c b):ab xt 37 #[a,c,b] h R:=au ac func37 .n d
noncomputable def rg(b:Sl)(a:Int):Prop:=
 Br (a<(b.len:Int))
 (aP b a λc=>
 be h (c.add (a.toNat*1)) λx2=>
 R x2 h)
 (R (xi xo 0) h)
theorem Ct(b:Sl)(a:Int)(c:@rg R h b a):ab xt 38 #[b,a] h R:=au ac func38 .n c
noncomputable def Dg(a:Sl):Prop:=
 aJ (σ:=Sl×Int) (λb e c=>
 Br (b.2<(a.len:Int))
 (aP a b.2 λj=>
 be c (j.add (b.2.toNat*1)) λx3=>
 bg (σ:=Unit) (λ_ f=>
 Br (x3>0)
 (aA xt (qp 22 1 #[(0,b.2)]) aI f λv5 h3=>
 aA xt (qu #[22,22] 22 #[b.1,v5]) aI h3 λd i=>
 e ((⟨d.ptr,d.len,d.cap⟩:Sl),qc xo (b.2+1)) i)
 (e ((⟨b.1.ptr,b.1.len,b.1.cap⟩:Sl),qc xo (b.2+1)) f))
 (λg=>
 Br (x3<0) (R (.tuple #[(xj eH 0 0),eS]) c) (Br (x3>512)
 (R (.tuple #[(xj eH 0 0),eS]) c)
 (g () c))))
 (Br ((a.len:Int)<=64) (R (.tuple #[b.1,(decide ((b.1.len:Int)>0))]) c) (R (.tuple #[b.1,eS]) c))) ((⟨eH,0,0⟩:Sl),(0:Int)) h
theorem Ld(a:Sl)(b:@Dg R h a):ab xt 39 #[a] h R:=au ac func39 (aj.tn (aj.tn (.two (aj.tn (.inn (.loop [(4,ct),(9,aW)] [(2,7),(9,27)] (aj.tn (aj.tn (.two (.inn (aj.tn (.two (.join [] [(2,4),(14,20)] .n) .n))) .n)))))) .n))) b
noncomputable def Qb(c:bR):Prop:=
 aQ xt (qO 24 c) h λb a=>
 be a b λx2=>
 Br (x2>=1) (be a b λx3=>
 Br (x3<=16) (be a (b.add 1) λf=>
 Br (f>=1) (be a (b.add 1) λd=>
 Br (d<=4) (be a (b.add 2) λg=>
 Br (g>=1) (be a (b.add 2) λe=>
 R (decide (e<=24)) a) (R eS a)) (R eS a)) (R eS a)) (R eS a)) (R eS a)
theorem VC(a:bR)(b:@Qb R h a):ab xt 40 #[a] h R:=au ac func40 .n b
noncomputable def tZ(a:aO):Prop:=
 Br (qY a)
 (R (xi xo 0) h)
 (∃b,(a=dB b)/\
 be h (b.add 3) λx2=>
 R x2 h)
theorem ED(a:aO)(b:@tZ R h a):ab xt 41 #[a] h R:=au ac func41 .n b
noncomputable def Hr(c:dj):Prop:=
 aQ xt (qO 44 c) h λi e=>
 ∃x2:dj,an e i 0 x2/\
 ae xt 100 #[x2] aI e λb o=>
 ((48:Int)≠0)/\
 aJ (σ:=Sl×Int) (λa l h3=>
 Br (decide (a.2<(qc xo (yc (qc xo ((qc xo ((b.len:Int)+48))-1)) 48))))
 (be h3 i λk=>
 (0<=(qc xo (a.2*48))/\(qc xo (a.2*48))<=(if(qc xo ((qc xo (a.2+1))*48))<(b.len:Int)then qc xo ((qc xo (a.2+1))*48)else(b.len:Int))/\(if(qc xo ((qc xo (a.2+1))*48))<(b.len:Int)then qc xo ((qc xo (a.2+1))*48)else(b.len:Int))<=(b.cap:Int))/\
 ae xt 101 #[k,a.2,(qc xo (yc (qc xo ((qc xo ((b.len:Int)+48))-1)) 48)),(.slice (if b.cap=(qc xo (a.2*48)).toNat then b.ptr else b.ptr.map (·.add ((qc xo (a.2*48)).toNat*1))) ((if(qc xo ((qc xo (a.2+1))*48))<(b.len:Int)then qc xo ((qc xo (a.2+1))*48)else(b.len:Int)).toNat-(qc xo (a.2*48)).toNat) (b.cap-(qc xo (a.2*48)).toNat))] aI h3 λm f=>
 (av.ok [] f)/\
 aA xt (qp 85 1 #[(0,m)]) aI f λn g=>
 (av.ok [] g)/\
 aA xt (qu #[85,85] 85 #[a.1,n]) aI g λd j=>
 (av.ok [] j)/\
 l ((⟨d.ptr,d.len,d.cap⟩:Sl),qc xo (a.2+1)) j)
 (R a.1 h3)) ((⟨eH,0,0⟩:Sl),(0:Int)) o
theorem OK(a:dj)(b:@Hr R h a):ab xt 42 #[a] h R:=au ac func42 (aj.tn (aj.tn (aj.tn (aj.tn (.two (aj.tn (.inn (.loop [(5,ct),(16,aW)] [(5,8),(16,39)] .n))) .n))))) b
noncomputable def JW(a:Int)(b:aO):Prop:=
 bg (σ:=Unit) (λ_ c=>
 aQ xt (qO 156 (xn #[b,a,(xj eH 0 0),(xi xo 0),(xj eH 0 0),eS,eS])) c λe f=>
 R e f)
 (λd=>
 Br (a<1) (R (xk eH) h) (Br (a>512) (R (xk eH) h) (Br (qY b)
 (R (xk eH) h)
 (d () h))))
theorem Ri(a:Int)(b:aO)(c:@JW R h a b):ab xt 43 #[a,b] h R:=au ac func43 (aj.tn (.two (.join [] [(4,15)] .n) .n)) c
noncomputable def Qc(a:cG)(d:Sl):Prop:=
 aJ (σ:=Sl×Int) (λc t f=>
 Br (c.2<(d.len:Int))
 (aP d c.2 λx=>
 ∃x3:Int×Sl,an f (x.add (c.2.toNat*2)) 0 x3/\
 aQ xt (qP 101 eR (.tuple #[])) f λa4 w=>
 af xt (qf 101 a4 x3) w λ_ h3=>
 bg (σ:=Unit) (λ_ k=>
 be k a4 λj=>
 aA xt (qp 22 1 #[(0,j)]) aI k λe h8=>
 aA xt (qu #[22,22] 22 #[c.1,e]) aI h8 λb y=>
 t ((⟨b.ptr,b.len,b.cap⟩:Sl),qc xo (c.2+1)) y)
 (λr=>
 bg (σ:=Int) (λl p=>
 Br (l !=0)
 (R l p)
 (r () p))
 (λu=>
 be h3 a4 λq=>
 bi h3 (a4.add 1) λn=>
 iG C a.1 (a.2.1.toList++[(xi xo q)]++a.2.2.toList) jP h3 λv m=>
 (av.ok [(a4.add 1,n)] m)/\
 ae xt 102 #[v,n] bA m λs o=>
 (av.ok [] o)/\
 u s o)))
 (ae xt 103 #[(.func (.func a.1) a.2.1 a.2.2),c.1] bA f λg i=>
 R g i)) ((⟨eH,0,0⟩:Sl),(0:Int)) h
theorem VD(a:cG)(b:Sl)(c:@Qc R h a b):ab xt 44 #[(.func (.func a.1) a.2.1 a.2.2),b] h R:=au ac func44 (aj.tn (aj.tn (.two (aj.tn (.inn (.loop [(5,ct),(11,aW)] [(4,6),(7,9),(11,31)] (aj.tn (aj.tn (.two (.inn (aj.tn (.two (.join [] [(4,5),(8,9),(15,25)] (.two (.join [(8,aW)] [(8,9),(15,22)] .n) .n)) .n))) .n)))))) .n))) c
noncomputable def JX(f:dj)(a:Sl):Prop:=
 aQ xt (qO 44 f) h λo i=>
 ∃x2:dj,an i o 0 x2/\
 ae xt 42 #[x2] aI i λj n=>
 aJ (σ:=Sl×Int) (λb m h3=>
 Br (b.2<(a.len:Int))
 (aP a b.2 λa5=>
 be h3 (a5.add (b.2.toNat*1)) λp=>
 aJ (σ:=Sl×Int) (λc k g=>
 Br (c.2<(j.len:Int))
 (aP j c.2 λq=>
 bi g (q.add (c.2.toNat*1)) λl=>
 aA xt (qp 89 1 #[(0,(xn #[p,l]))]) aI g λe r=>
 aA xt (qu #[89,89] 89 #[c.1,e]) aI r λd s=>
 k ((⟨d.ptr,d.len,d.cap⟩:Sl),qc xo (c.2+1)) s)
 (m ((⟨c.1.ptr,c.1.len,c.1.cap⟩:Sl),qc xo (b.2+1)) g)) ((⟨b.1.ptr,b.1.len,b.1.cap⟩:Sl),(0:Int)) h3)
 (R b.1 h3)) ((⟨eH,0,0⟩:Sl),(0:Int)) n
theorem Rj(b:dj)(a:Sl)(c:@JX R h b a):ab xt 45 #[b,a] h R:=au ac func45 (aj.tn (aj.tn (aj.tn (.two (aj.tn (.inn (.loop [(6,ct),(15,aW)] [(6,7),(8,9),(10,11),(15,33)] (aj.tn (aj.tn (.two (.inn (aj.tn (aj.tn (.inn (.loop [(6,ct),(21,aW)] [(6,7),(10,11),(21,32)] .n))))) .n)))))) .n)))) c
noncomputable def pq(a:aO)(b:ByteArray)(j:Sl):Prop:=
 ae xt 55 #[a] bK h λu m=>
 Br u
 (R (xi xo 14) m)
 (ae xt 104 #[b] bK m λt o=>
 Br (!t)
 (R (xi xo 3) o)
 (ae xt 91 #[a,b] bA o λv h3=>
 Br (v>=0)
 (R (xi xo 4) h3)
 (bg (σ:=Bool) (λf p=>
 Br f
 (R (xi xo 6) p)
 (ae xt 25 #[a] aI p λi c=>
 Br ((i.len:Int)==0) (R (xi xo 7) c) (∃d,(a=dB d)/\
 be c (d.add 1) λg=>
 Br (g>16777215) (R (xi xo 7) c) (∃e,(a=dB e)/\
 be c e λk=>
 Br (k>=2147483647)
 (R (xi xo 7) c)
 (R (xi xo 0) c)))))
 (λn=>
 ∃a4,(a=dB a4)/\
 be h3 (a4.add 2) λr=>
 ∃l,(a=dB l)/\
 be h3 ((l.add 2).add 2) λw=>
 Br (decide ((j.len:Int)>(qc xo ((qc xo (r*w))*8)))) (n eR h3) (∃q,(a=dB q)/\
 bi h3 (q.add 7) λs=>
 n (decide ((s.len:Int)>=12)) h3)))))
theorem Bc(b:aO)(a:ByteArray)(c:Sl)(d:@pq R h b a c):ab xt 46 #[b,a,c] h R:=au ac func46 (aj.tn (.two (.inn (aj.tn (aj.tn (aj.tn (aj.tn (aj.tn (aj.tn (.two (.join [(19,lK)] [(19,46)] .n) .n)))))))) .n)) d
noncomputable def FC(d:bR)(b:Int)(a:Int):Prop:=
 aQ xt (qO 24 d) h λm i=>
 aJ (σ:=Sl×Int) (λc j f=>
 Br (c.2<a)
 (∃x3:bR,an f m 0 x3/\
 ae xt 105 #[x3,b,c.2] (.many [aW,lK]) f λg h3=>
 Br (!g.2)
 (R (.tuple #[(xj eH 0 0),eS]) h3)
 (aA xt (qp 22 1 #[(0,g.1)]) aI h3 λv5 k=>
 aA xt (qu #[22,22] 22 #[c.1,v5]) aI k λe l=>
 j ((⟨e.ptr,e.len,e.cap⟩:Sl),qc xo (c.2+1)) l))
 (R (.tuple #[c.1,eR]) f)) ((⟨eH,0,0⟩:Sl),(0:Int)) i
theorem Mt(c:bR)(a:Int)(b:Int)(d:@FC R h c a b):ab xt 47 #[c,a,b] h R:=au ac func47 (aj.tn (aj.tn (.two (aj.tn (.inn (.loop [(8,ct),(13,aW)] [(6,12),(13,30)] .n))) .n))) d
noncomputable def FD(b:bR)(a:Int):Prop:=
 aQ xt (qO 24 b) h λg e=>
 bg (σ:=Unit) (λ_ h3=>
 ∃d:bR,an h3 g 0 d/\
 ae xt 106 #[d] bA h3 λf k=>
 (f≠0)/\
 R (qc xo ((qc xo (yc (qc xo (a-1)) f))+1)) k)
 (λi=>
 ∃x2:bR,an e g 0 x2/\
 ae xt 40 #[x2] bK e λj c=>
 Br (!j) (R (xi xo 0) c) (Br (a<=0)
 (R (xi xo 0) c)
 (i () c)))
theorem Mu(a:bR)(b:Int)(c:@FD R h a b):ab xt 48 #[a,b] h R:=au ac func48 (aj.tn (.two (.join [] [(4,12)] .n) .n)) c
end Go.Qw
namespace Go.Qw
open Go Go.Vc Go.Proofs
variable {R:KI} {h:Heap}
noncomputable def pr(g:aO)(M:iE)(K:Sl):Prop:=
 aQ xt (qO 94 M) h λi h1=>
 ae xt 25 #[g] aI h1 λr2 W=>
 ∃a3,(g=dB a3)/\
 ∃Y:bR,an W (a3.add 2) 0 Y/\
 ae xt 107 #[Y,K] aI W λX h3=>
 aJ (σ:=Sl×Int) (λe K1 m=>
 Br (e.2<(X.len:Int))
 (aP X e.2 λa7=>
 bi m (a7.add (e.2.toNat*1)) λx8=>
 be m (i.add 1) λx9=>
 bi m (i.add 3) λq=>
 aP q e.2 λP=>
 be m (P.add (e.2.toNat*1)) λF=>
 ae xt 62 #[x9,e.2,F] (.one (.sc (.int .u32))) m λk T=>
 (av.ok [(i.add 3,q)] T)/\
 ∃r,(g=dB r)/\
 ∃B:bR,an T (r.add 2) 0 B/\
 ae xt 108 #[B,(xi xq k),x8] (.many [Db,aW]) T λj U=>
 Br (j.2 !=0)
 (R (.tuple #[(xj eH 0 0),eS]) U)
 (be U (i.add 1) λN=>
 ae xt 109 #[N,e.2,r2] aI U λJ I=>
 ∃t,(g=dB t)/\
 be I (t.add 2) λO=>
 ∃D,(g=dB D)/\
 be I (D.add 5) λE=>
 aJ (σ:=Sl×Int) (λb K2 h8=>
 Br (b.2<(qc xo (O+E)))
 (bg (σ:=fz) (λd v=>
 ∃c:fh,an v d 0 c/\
 ae xt 111 #[J,b.2] bA v λG A=>
 (av.ok [(d,c.1),(d.add 1,c.2.1),(d.add 2,c.2.2.1),(d.add 3,c.2.2.2.1),(d.add 4,c.2.2.2.2.1),(d.add 5,c.2.2.2.2.2.1),(d.add 6,(xi xq c.2.2.2.2.2.2.1)),(d.add 7,c.2.2.2.2.2.2.2)] A)/\
 ae xt 112 #[c] aI A λS y=>
 (av.ok [] y)/\
 aA xt (qp 89 1 #[(0,(xn #[G,S]))]) aI y λH n=>
 (av.ok [] n)/\
 aA xt (qu #[89,89] 89 #[b.1,H]) aI n λl o=>
 (av.ok [] o)/\
 K2 ((⟨l.ptr,l.len,l.cap⟩:Sl),qc xo (b.2+1)) o)
 (λV=>
 be h8 (i.add 1) λf=>
 ∃a25,(g=dB a25)/\
 ∃a:bR,an h8 (a25.add 2) 0 a/\
 (ae xt 110 #[j.1,b.2] aI h8 λQ Z=>
 (av.ok [(a25.add 2,a.1),((a25.add 2).add 1,a.2.1),((a25.add 2).add 2,a.2.2),(i.add 1,f)] Z)/\
 aQ xt (qP 170 eR (.tuple #[])) Z λa28 x=>
 (av.ok [(a25.add 2,a.1),((a25.add 2).add 1,a.2.1),((a25.add 2).add 2,a.2.2),(i.add 1,f)] x)/\
 af xt (qf 170 a28 (xn #[f,e.2,b.2,a.1,a.2.1,a.2.2,(xi xq k),Q])) x λ_ w=>
 (av.ok [] w)/\
 V a28 w)/\(aQ xt (qP 170 eR (.tuple #[])) h8 λs z=>
 (av.ok [(a25.add 2,a.1),((a25.add 2).add 1,a.2.1),((a25.add 2).add 2,a.2.2),(i.add 1,f)] z)/\
 ae xt 110 #[j.1,b.2] aI z λL u=>
 (av.ok [(a25.add 2,a.1),((a25.add 2).add 1,a.2.1),((a25.add 2).add 2,a.2.2),(i.add 1,f)] u)/\
 af xt (qf 170 s (xn #[f,e.2,b.2,a.1,a.2.1,a.2.2,(xi xq k),L])) u λ_ p=>
 (av.ok [] p)/\
 V s p)))
 (K1 ((⟨b.1.ptr,b.1.len,b.1.cap⟩:Sl),qc xo (e.2+1)) h8)) ((⟨e.1.ptr,e.1.len,e.1.cap⟩:Sl),(0:Int)) I))
 (R (.tuple #[e.1,eR]) m)) ((⟨eH,0,0⟩:Sl),(0:Int)) h3
theorem Bd(a:aO)(c:iE)(b:Sl)(d:@pr R h a c b):ab xt 49 #[a,c,b] h R:=au ac func49 (aj.tn (aj.tn (aj.tn (.two (aj.tn (.inn (.loop [(9,ct),(28,aW)] [(6,8),(9,18),(28,100)] (aj.tn (aj.tn (.two (.inn (aj.tn (aj.tn (aj.tn (aj.tn (aj.tn (aj.tn (.inn (.loop [(9,ct),(72,aW)] [(9,10),(16,18),(72,99)] (aj.tn (aj.tn (.two (.inn (aj.tn (.two (.join [(17,(.sc .adr))] [(17,18),(75,89)] .n) .n))) .n)))))))))))) .n)))))) .n)))) d
noncomputable def Hs(l:dj)(m:iE):Prop:=
 aQ xt (qO 44 l) h λv s=>
 aQ xt (qO 94 m) s λy t=>
 aQ xt (qP 44 eR (.tuple #[])) t λa3 h3=>
 ∃p:dj,an h3 v 0 p/\
 ae xt 61 #[p] Lb h3 λx u=>
 aQ xt (qP 44 eR (.tuple #[])) u λb A=>
 af xt (qf 44 b x) A λ_ q=>
 be q b λw=>
 af xt (qf 3 b (qc xo (w+1))) q λ_ o=>
 be o (b.add 1) λB=>
 af xt (qf 3 (b.add 1) (qc xo (B+1))) o λ_ h8=>
 bi h8 (b.add 7) λr=>
 ∃c:iE,an h8 y 0 c/\
 aA xt (qp 42 1 #[(0,c)]) aI h8 λk z=>
 aA xt (qu #[42,42] 42 #[r,k]) aI z λj n=>
 af xt (qf 42 (b.add 7) j) n λ_ e=>
 bi e (b.add 7) λi=>
 ae xt 113 #[i,(.func (.func 114) #[] #[])] iV e λ_ f=>
 ∃g:dj,an f b 0 g/\
 af xt (qf 44 a3 g) f λ_ d=>
 ∃a:dj,an d a3 0 a/\
 R a d
theorem OL(b:dj)(a:iE)(c:@Hs R h b a):ab xt 50 #[b,a] h R:=au ac func50 .n c
noncomputable def rX(a:Int)(c:fz)(d:fz):Prop:=
 be h c λj=>
 bi h d λx2=>
 aJ (σ:=Int×Int) (λb g e=>
 Br (b.2<(x2.len:Int))
 (aP x2 b.2 λa4=>
 ∃f:Int×Sl,an e (a4.add (b.2.toNat*2)) 0 f/\
 aQ xt (qP 101 eR (.tuple #[])) e λi l=>
 af xt (qf 101 i f) l λ_ h3=>
 be h3 i λk=>
 Br (k==a)
 (g (qc xo (b.1+1),qc xo (b.2+1)) h3)
 (g (b.1,qc xo (b.2+1)) h3))
 (R b.1 e)) (j,(0:Int)) h
theorem Dh(a:Int)(c:fz)(b:fz)(d:@rX R h a c b):ab xt 51 #[a,c,b] h R:=au ac func51 (aj.tn (aj.tn (.two (aj.tn (.inn (.loop [(5,aW),(11,aW)] [(5,6),(7,8),(11,22)] .n))) .n))) d
noncomputable def ua(c:aO)(a:Sl)(b:cG):Prop:=
 aQ xt (qO 27 c) h λi d=>
 aQ xt (qO 102 (.func (.func b.1) b.2.1 b.2.2)) d λf g=>
 ae xt 116 #[a,(.func (.func 117) #[] #[i,f])] bK g λe h3=>
 R (xm (!e)) h3
theorem EE(c:aO)(a:Sl)(b:cG)(d:@ua R h c a b):ab xt 52 #[c,a,(.func (.func b.1) b.2.1 b.2.2)] h R:=au ac func52 .n d
noncomputable def rY(f:aO)(a:Sl)(d:cG):Prop:=
 aJ (σ:=Int) (λi p g=>
 Br (i<(a.len:Int))
 (aP a i λq=>
 be g (q.add (i.toNat*1)) λx3=>
 bg (σ:=Int) (λe l=>
 Br (e !=0)
 (R e l)
 (p (qc xo (i+1)) l))
 (λm=>
 ∃a4,(f=dB a4)/\
 (0<=x3/\x3<((64:Nat):Int))/\
 jp g ((a4.add 10).add (x3.toNat*1)) λj=>
 ∃b,(f=dB b)/\
 ∃c:dj,an g b 0 c/\
 iG C d.1 (d.2.1.toList++[(xi xo x3)]++d.2.2.toList) bA g λo k=>
 (av.ok [(b,c.1),(b.add 1,c.2.1),(b.add 2,c.2.2.1),(b.add 3,c.2.2.2.1),(b.add 4,c.2.2.2.2.1),(b.add 5,c.2.2.2.2.2.1),(b.add 6,c.2.2.2.2.2.2.1),(b.add 7,c.2.2.2.2.2.2.2),((a4.add 10).add (x3.toNat*1),j)] k)/\
 ae xt 119 #[j,c,o] bA k λn h3=>
 (av.ok [] h3)/\
 m n h3))
 (R (xi xo 0) g)) (0:Int) h
theorem Di(c:aO)(a:Sl)(b:cG)(d:@rY R h c a b):ab xt 53 #[c,a,(.func (.func b.1) b.2.1 b.2.2)] h R:=au ac func53 (aj.tn (.two (aj.tn (.inn (.loop [(12,aW)] [(6,7),(8,10),(12,34)] (aj.tn (aj.tn (.two (.inn (aj.tn (.two (.join [(9,aW)] [(9,10),(16,30)] .n) .n))) .n)))))) .n)) d
noncomputable def ub(b:aO)(c:dj)(a:Sl):Prop:=
 aQ xt (qO 44 c) h λi f=>
 ∃x2:dj,an f i 0 x2/\
 ae xt 45 #[x2,a] aI f λl m=>
 ae xt 44 #[(.func (.func 35) #[b] #[]),l] bA m λe h3=>
 Br (e !=0)
 (R e h3)
 (∃d:dj,an h3 i 0 d/\
 ae xt 61 #[d] Lb h3 λk n=>
 ∃g,(b=dB g)/\
 af xt (qf 44 g k) n λ_ j=>
 R (xi xo 0) j)
theorem EF(b:aO)(c:dj)(a:Sl)(d:@ub R h b c a):ab xt 54 #[b,c,a] h R:=au ac func54 .n d
noncomputable def uS(a:aO):Prop:=
 Br (qY a) (R eR h) (ae xt 57 #[a] bK h λc b=>
 R c b)
theorem Gk(a:aO)(b:@uS R h a):ab xt 55 #[a] h R:=au ac func55 .n b
noncomputable def BP(a:ByteArray):Prop:=
 ae xt 120 #[a] (.one tyT) h λc b=>
 R c b
theorem JD(a:ByteArray)(b:@BP R h a):ab xt 56 #[a] h R:=au ac func56 .n b
noncomputable def uc(a:aO):Prop:=
 Br (!(qY a)) (∃f,(a=dB f)/\
 jp h (f.add 8) λx2=>
 ae xt 121 #[x2] bK h λi b=>
 (av.ok [] b)/\
 Br (!i) ((av.ok [] b)/\
 R eR b) (∃a4,(a=dB a4)/\
 jp b (a4.add 8) λg=>
 ∃c,(a=dB c)/\
 be b (c.add 9) λd=>
 ae xt 41 #[g] bA b λj e=>
 (av.ok [(c.add 9,d)] e)/\
 R (xm (j !=d)) e)) ((av.ok [] h)/\
 (av.ok [] h)/\
 R eS h)
theorem EG(a:aO)(b:@uc R h a):ab xt 57 #[a] h R:=au ac func57 .n b
noncomputable def Ht(b:Int)(a:Int):Prop:=
 ae xt 122 #[b,a] bK h λg e=>
 Br (!g)
 (R (xi xo 0) e)
 (aJ (σ:=Int×Int) (λc f d=>
 Br (decide (c.2<(if(qc xo (b-a))<a then qc xo (b-a)else a)))
 (((qc xo (c.2+1))≠0)/\
 Br (decide ((qc xo (yc (qc xo (c.1*(qc xo (b-c.2)))) (qc xo (c.2+1))))>4096))
 (R (xi xo 4097) d)
 (f (qc xo (yc (qc xo (c.1*(qc xo (b-c.2)))) (qc xo (c.2+1))),qc xo (c.2+1)) d))
 (R c.1 d)) ((1:Int),(0:Int)) e)
theorem OM(a:Int)(b:Int)(c:@Ht R h a b):ab xt 58 #[a,b] h R:=au ac func58 (aj.tn (aj.tn (aj.tn (.two (aj.tn (.inn (.loop [(5,aW),(16,aW)] [(4,7),(16,30)] .n))) .n)))) c
noncomputable def ou(a:aO):Prop:=
 ∃n,(a=dB n)/\
 bi h (n.add 9) λx2=>
 aJ (σ:=Int) (λb l f=>
 Br (b<(x2.len:Int))
 (aP x2 b λa4=>
 be f (a4.add (b.toNat*1)) λq=>
 ∃k,(a=dB k)/\
 jp f k λs=>
 ae xt 35 #[s,q] jP f λi m=>
 ∃a9,(a=dB a9)/\
 ∃c:dj,an m (a9.add 1) 0 c/\
 ae xt 123 #[i,c] aI m λd h3=>
 ae xt 96 #[i] aI h3 λj r=>
 ae xt 124 #[j,d,(.func (.func 99) #[] #[])] bK r λg o=>
 Br g
 (l (qc xo (b+1)) o)
 (ae xt 125 #[i,d] bA o λe p=>
 Br (e !=0)
 (R e p)
 (l (qc xo (b+1)) p)))
 (R (xi xo 0) f)) (0:Int) h
theorem Ar(a:aO)(b:@ou R h a):ab xt 59 #[a] h R:=au ac func59 (aj.tn (.two (aj.tn (.inn (.loop [(13,aW)] [(2,3),(4,8),(13,40)] .n))) .n)) b
noncomputable def ov(a:aO)(e:iE)(c:Int):Prop:=
 aQ xt (qO 94 e) h λn g=>
 ∃x2:iE,an g n 0 x2/\
 ae xt 126 #[a,x2,c] (.many [Db,aW]) g λb j=>
 Br (b.2 !=0)
 (R b.2 j)
 (ae xt 127 #[a,b.1] bA j λd h3=>
 Br (d==14)
 (R d h3)
 (∃a5,(a=dB a5)/\
 jp h3 a5 λl=>
 ∃k,(b.1=dB k)/\
 bi h3 (k.add 5) λm=>
 ae xt 103 #[(.func (.func 35) #[l] #[]),m] bA h3 λi f=>
 (av.ok [(a5,l)] f)/\
 Br (i !=0)
 (R i f)
 (R d f)))
theorem Au(b:aO)(a:iE)(c:Int)(d:@ov R h b a c):ab xt 60 #[b,a,c] h R:=au ac func60 .n d
noncomputable def Mw(l:dj):Prop:=
 aQ xt (qO 44 l) h λb x=>
 aQ xt (qP 44 eR (.tuple #[])) x λs o=>
 bg (σ:=Unit) (λ_ p=>
 bi p (b.add 7) λB=>
 aJ (σ:=Int) (λc w h8=>
 Br (c<(B.len:Int))
 (bi h8 (b.add 7) λe=>
 bi h8 (b.add 7) λi=>
 aP i c λk=>
 bi h8 ((k.add (c.toNat*4)).add 3) λj=>
 ae xt 128 #[j] aI h8 λn t=>
 (av.ok [(b.add 7,i),(b.add 7,e)] t)/\
 aP e c λm=>
 af xt (qf 22 ((m.add (c.toNat*4)).add 3) n) t λ_ g=>
 (av.ok [] g)/\
 w (qc xo (c+1)) g)
 (∃d:dj,an h8 b 0 d/\
 af xt (qf 44 s d) h8 λ_ f=>
 ∃a:dj,an f s 0 a/\
 R a f)) (0:Int) p)
 (λy=>
 bi o (b.add 6) λx3=>
 bi o (b.add 7) λr=>
 ae xt 128 #[x3] aI o λA h3=>
 (av.ok [(b.add 7,r)] h3)/\
 ae xt 129 #[r] aI h3 λz q=>
 (av.ok [] q)/\
 af xt (qf 22 (b.add 6) A) q λ_ u=>
 (av.ok [] u)/\
 af xt (qf 42 (b.add 7) z) u λ_ v=>
 (av.ok [] v)/\
 y () v)
theorem Tt(a:dj)(b:@Mw R h a):ab xt 61 #[a] h R:=au ac func61 (aj.tn (.two (.join [] [(4,12)] .n) (.two (aj.tn (.inn (.loop [(15,aW)] [(3,4),(15,31)] .n))) .n))) b
noncomputable def JY(b:Int)(c:Int)(a:Int):Prop:=
 R (xi xq (qc xq ((qc xq ((qc xq (128*(qc xq b)))+(qc xq (16*(qc xq c)))))+(qc xq a)))) h
theorem Rk(b:Int)(c:Int)(a:Int)(d:@JY R h b c a):ab xt 62 #[b,c,a] h R:=au ac func62 .n d
noncomputable def FE(e:cG)(a:Sl)(p:dj)(c:Int)(f:Int):Prop:=
 aQ xt (qO 44 p) h λi D=>
 aJ (σ:=Sl×Int) (λj E n=>
 Br (j.2<(a.len:Int))
 (aP a j.2 λa3=>
 be n (a3.add (j.2.toNat*1)) λG=>
 bg (σ:=Sl×Int×Int) (λv I=>
 aJ (σ:=Sl×Int) (λb t y=>
 Br (b.2<v.2.1)
 (aP v.1 b.2 λr=>
 ∃l:fh,an y (r.add (b.2.toNat*8)) 0 l/\
 aQ xt (qP 170 eR (.tuple #[])) y λd B=>
 af xt (qf 170 d l) B λ_ h8=>
 be h8 d λo=>
 Br (o==c) (be h8 (d.add 1) λw=>
 Br (w==f)
 (be h8 (d.add 2) λx=>
 bi h8 (d.add 7) λq=>
 aA xt (qp 114 1 #[(0,(xn #[x,q]))]) aI h8 λs H=>
 aA xt (qu #[114,114] 114 #[b.1,s]) aI H λk u=>
 t ((⟨k.ptr,k.len,k.cap⟩:Sl),qc xo (b.2+1)) u)
 (t ((⟨b.1.ptr,b.1.len,b.1.cap⟩:Sl),qc xo (b.2+1)) h8)) (t ((⟨b.1.ptr,b.1.len,b.1.cap⟩:Sl),qc xo (b.2+1)) h8))
 (E ((⟨b.1.ptr,b.1.len,b.1.cap⟩:Sl),qc xo (j.2+1)) y)) ((⟨j.1.ptr,j.1.len,j.1.cap⟩:Sl),v.2.2) I)
 (λA=>
 ∃g:dj,an n i 0 g/\
 iG C e.1 (e.2.1.toList++[(xi xo G)]++e.2.2.toList) jP n λF h3=>
 (av.ok [(i,g.1),(i.add 1,g.2.1),(i.add 2,g.2.2.1),(i.add 3,g.2.2.2.1),(i.add 4,g.2.2.2.2.1),(i.add 5,g.2.2.2.2.2.1),(i.add 6,g.2.2.2.2.2.2.1),(i.add 7,g.2.2.2.2.2.2.2)] h3)/\
 ae xt 130 #[F,g] aI h3 λm z=>
 (av.ok [] z)/\
 A ((⟨m.ptr,m.len,m.cap⟩:Sl),(m.len:Int),(0:Int)) z))
 (R j.1 n)) ((⟨eH,0,0⟩:Sl),(0:Int)) D
theorem Mx(d:cG)(b:Sl)(e:dj)(a:Int)(c:Int)(f:@FE R h d b e a c):ab xt 63 #[(.func (.func d.1) d.2.1 d.2.2),b,e,a,c] h R:=au ac func63 (aj.tn (aj.tn (.two (aj.tn (.inn (.loop [(11,ct),(18,aW)] [(11,12),(13,14),(15,16),(18,52)] (aj.tn (aj.tn (.two (.inn (aj.tn (.two (.join [(26,ct),(27,aW),(28,aW)] [(22,29)] .n) (.inn (.loop [(11,ct),(28,aW)] [(11,12),(15,16),(28,51)] .n))))) .n)))))) .n))) f
noncomputable def My(a:aO)(b:Sl):Prop:=
 ae xt 131 #[a,b] aI h λd c=>
 R (xi xo (d.len:Int)) c
theorem Tu(a:aO)(b:Sl)(c:@My R h a b):ab xt 64 #[a,b] h R:=au ac func64 .n c
noncomputable def Tv:Prop:=
 ae xt 132 #[] (.one (.arr (.int .u8))) h λk g=>
 aQ xt (qP 192 eR (.tuple #[])) g λa i=>
 af xt (qf 192 a (xn (k.map (Sc.enc (.int .u8))).toArray)) i λ_ h3=>
 ∃x3:List (Int),(x3.length=255/\an h3 a 0 (x3.map (Sc.enc (.int .u8))))/\
 ∃b:List (Int),(b.length=255/\an h3 a 0 (b.map (Sc.enc (.int .u8))))/\
 ae xt 133 #[(xn (b.map (Sc.enc (.int .u8))).toArray)] (.one (.arr (.int .i64))) h3 λf e=>
 (av.ok (na a 0 (x3.map (Sc.enc (.int .u8))) []) e)/\
 ∃d:eX,(aL xt (vN 197 #[(0,(xn (x3.map (Sc.enc (.int .u8))).toArray)),(1,(xn (f.map (Sc.enc (.int .i64))).toArray))]) d)/\
 aQ xt (qO 197 d) e λj c=>
 (av.ok (na a 0 (x3.map (Sc.enc (.int .u8))) []) c)/\
 R j c
theorem YA(a:@Tv R h):ab xt 65 #[] h R:=au ac func65 .n a
noncomputable def BQ(e:bR)(c:Int)(a:Sl):Prop:=
 aQ xt (qO 24 e) h λl i=>
 ∃x2:bR,an i l 0 x2/\
 ae xt 70 #[x2] aI i λf n=>
 aJ (σ:=Sl×Int) (λb j h3=>
 Br (b.2<(a.len:Int))
 (aP a b.2 λa5=>
 be h3 (a5.add (b.2.toNat*1)) λo=>
 ∃m:bR,an h3 l 0 m/\
 ae xt 134 #[m,(xi xq c),o] aI h3 λg k=>
 Br (!(qY g.ptr))
 (aA xt (qp 85 1 #[(0,g)]) aI k λv9 p=>
 aA xt (qu #[85,85] 85 #[b.1,v9]) aI p λd q=>
 j ((⟨d.ptr,d.len,d.cap⟩:Sl),qc xo (b.2+1)) q)
 (j ((⟨b.1.ptr,b.1.len,b.1.cap⟩:Sl),qc xo (b.2+1)) k))
 (R b.1 h3)) ((⟨f.ptr,f.len,f.cap⟩:Sl),(0:Int)) n
theorem JE(c:bR)(a:Int)(b:Sl)(d:@BQ R h c a b):ab xt 66 #[c,(xi xq a),b] h R:=au ac func66 (aj.tn (aj.tn (.two (aj.tn (.inn (.loop [(7,ct),(15,aW)] [(7,8),(9,11),(15,30)] .n))) .n))) d
noncomputable def Mz(c:Int)(a:Int):Prop:=
 ae xt 122 #[c,a] bK h λw l=>
 Br (!w)
 (R (.tuple #[(xj eH 0 0),(xi xo 1)]) l)
 (ae xt 58 #[c,a] bA l λr m=>
 Br (r>4096)
 (R (.tuple #[(xj eH 0 0),(xi xo 13)]) m)
 (aA xt (qG 22 a a) aI m λv3 h3=>
 aJ (σ:=Int) (λd u n=>
 Br (d<(v3.len:Int))
 (aP v3 d λa5=>
 af xt (qf 3 (a5.add (d.toNat*1)) d) n λ_ x=>
 u (qc xo (d+1)) x)
 (ae xt 128 #[v3] aI n λv y=>
 aA xt (qp 51 1 #[(0,v)]) aI y λk t=>
 aJ (σ:=Sl) (λo q h8=>
 ae xt 135 #[v3,c] bK h8 λs p=>
 Br s
 (ae xt 128 #[v3] aI p λe i=>
 aA xt (qp 51 1 #[(0,e)]) aI i λf g=>
 aA xt (qu #[51,51] 51 #[o,f]) aI g λb j=>
 q (⟨b.ptr,b.len,b.cap⟩:Sl) j)
 (R (.tuple #[o,(xi xo 0)]) p)) (⟨k.ptr,k.len,k.cap⟩:Sl) t)) (0:Int) h3))
theorem Tw(a:Int)(b:Int)(c:@Mz R h a b):ab xt 68 #[a,b] h R:=au ac func68 (aj.tn (aj.tn (aj.tn (.two (aj.tn (.inn (.loop [(23,aW)] [(7,8),(23,31)] .n))) (aj.tn (.two (.inn (.loop [(8,ct)] [(8,9),(34,42)] .n)) .n)))))) c
noncomputable def MB(b:aO)(a:Int):Prop:=
 bg (σ:=Unit) (λ_ d=>
 bg (σ:=aO) (λf h3=>
 aQ xt (qO 200 (xn #[f,a,(xj eH 0 0)])) h3 λa4 j=>
 R a4 j)
 (λc=>
 Br (qY b)
 (ae xt 65 #[] jP d λg i=>
 c g i)
 (c b d)))
 (λe=>
 Br (a<0) (R (xk eH) h) (Br (a>64)
 (R (xk eH) h)
 (e () h)))
theorem Tx(a:aO)(b:Int)(c:@MB R h a b):ab xt 69 #[a,b] h R:=au ac func69 (aj.tn (.two (.join [] [(4,11)] .n) (.two (.join [(0,Db)] [(0,1),(11,14)] .n) .n))) c
noncomputable def MC(l:bR):Prop:=
 aQ xt (qO 24 l) h λd s=>
 ∃x2:bR,an s d 0 x2/\
 ae xt 40 #[x2] bK s λE t=>
 Br (!E)
 (R (xj eH 0 0) t)
 (ae xt 65 #[] jP t λB h3=>
 be h3 (d.add 1) λx=>
 aJ (σ:=Sl×Int) (λe A g=>
 Br (e.2<x)
 (bg (σ:=Sl) (λf r=>
 be r d λi=>
 aJ (σ:=Int) (λa D h8=>
 Br (a<i)
 (ae xt 137 #[B,(qc xo ((qc xo (e.2+1))*(qc xo (a+1))))] (.one (.sc (.int .u8))) h8 λk F=>
 aP f a λj=>
 af xt (qf 5 (j.add (a.toNat*1)) (xi xp k)) F λ_ o=>
 D (qc xo (a+1)) o)
 (aA xt (qp 85 1 #[(0,f)]) aI h8 λm n=>
 aA xt (qu #[85,85] 85 #[e.1,m]) aI n λc p=>
 A ((⟨c.ptr,c.len,c.cap⟩:Sl),qc xo (e.2+1)) p)) (0:Int) r)
 (λy=>
 ∃u:bR,an g d 0 u/\
 be g d λq=>
 ae xt 21 #[u] bA g λz v=>
 (av.ok [(d,q)] v)/\
 ae xt 136 #[z,(qc xo (q+e.2))] aI v λb w=>
 (av.ok [(d,q)] w)/\
 y (⟨b.ptr,b.len,b.cap⟩:Sl) w))
 (R e.1 g)) ((⟨eH,0,0⟩:Sl),(0:Int)) h3)
theorem Tz(a:bR)(b:@MC R h a):ab xt 70 #[a] h R:=au ac func70 (aj.tn (aj.tn (aj.tn (aj.tn (.two (aj.tn (.inn (.loop [(4,ct),(14,aW)] [(4,8),(14,45)] (aj.tn (aj.tn (.two (.inn (aj.tn (.two (.join [(6,ct)] [(6,7),(17,24)] .n) (.two (aj.tn (.inn (.loop [(26,aW)] [(7,8),(26,40)] .n))) .n)))) .n)))))) .n))))) b
noncomputable def BR(a:aO)(f:Sl):Prop:=
 ae xt 138 #[a,f] (.many [ct,lK]) h λg j=>
 bg (σ:=Unit) (λ_ h3=>
 ∃a4,(a=dB a4)/\
 jp h3 a4 λd=>
 ∃e,(a=dB e)/\
 bi h3 (e.add 2) λm=>
 aA xt (qp 85 1 #[(0,g.1)]) aI h3 λq l=>
 (av.ok [(e.add 2,m),(a4,d)] l)/\
 aA xt (qu #[85,85] 85 #[m,q]) aI l λv9 n=>
 (av.ok [(a4,d)] n)/\
 ae xt 131 #[d,v9] aI n λc o=>
 (av.ok [] o)/\
 ∃b,(a=dB b)/\
 af xt (qf 85 (b.add 2) c) o λ_ i=>
 (av.ok [] i)/\
 R eR i)
 (λr=>
 Br (!g.2) (R eS j) (ae xt 139 #[g.1] bA j λp k=>
 Br (p<0)
 (R eS k)
 (r () k)))
theorem JF(a:aO)(b:Sl)(c:@BR R h a b):ab xt 71 #[a,b] h R:=au ac func71 (aj.tn (aj.tn (.two (.join [] [(4,5),(13,20)] .n) .n))) c
noncomputable def FF(j:bR)(c:Int)(a:Sl):Prop:=
 aQ xt (qO 24 j) h λu s=>
 aJ (σ:=Sl×Int) (λf t k=>
 Br (f.2<(a.len:Int))
 (aP a f.2 λa3=>
 bi k (a3.add (f.2.toNat*1)) λo=>
 aJ (σ:=Sl×Int) (λb l h3=>
 Br (b.2<(o.len:Int))
 (aP o b.2 λq=>
 be h3 (q.add (b.2.toNat*1)) λv=>
 ∃p:bR,an h3 u 0 p/\
 ae xt 134 #[p,(xi xq c),v] aI h3 λm n=>
 Br (!(qY m.ptr))
 (aA xt (qp 85 1 #[(0,m)]) aI n λg w=>
 aA xt (qu #[85,85] 85 #[b.1,g]) aI w λe x=>
 l ((⟨e.ptr,e.len,e.cap⟩:Sl),qc xo (b.2+1)) x)
 (l ((⟨b.1.ptr,b.1.len,b.1.cap⟩:Sl),qc xo (b.2+1)) n))
 (aA xt (qp 129 1 #[(0,b.1)]) aI h3 λi r=>
 aA xt (qu #[129,129] 129 #[f.1,i]) aI r λd h8=>
 t ((⟨d.ptr,d.len,d.cap⟩:Sl),qc xo (f.2+1)) h8)) ((⟨eH,0,0⟩:Sl),(0:Int)) k)
 (R f.1 k)) ((⟨eH,0,0⟩:Sl),(0:Int)) s
theorem MD(c:bR)(b:Int)(a:Sl)(d:@FF R h c b a):ab xt 72 #[c,(xi xq b),a] h R:=au ac func72 (aj.tn (aj.tn (.two (aj.tn (.inn (.loop [(7,ct),(16,aW)] [(7,8),(9,11),(12,14),(16,42)] (aj.tn (aj.tn (.two (.inn (aj.tn (aj.tn (.two (aj.tn (.inn (.loop [(10,ct),(22,aW)] [(10,11),(12,14),(22,37)] .n))) .n)))) .n)))))) .n))) d
noncomputable def FG(b:aO)(e:Sl)(c:Sl)(a:Int):Prop:=
 ae xt 140 #[b] jP h λi r=>
 aJ (σ:=Int) (λd l j=>
 Br (d<(e.len:Int))
 (aP e d λa3=>
 bi j (a3.add (d.toNat*1)) λm=>
 ae xt 84 #[c,d] bK j λt h3=>
 Br t
 (l (qc xo (d+1)) h3)
 (aJ (σ:=Int) (λf o k=>
 Br (f<(m.len:Int))
 (aP m f λs=>
 bi k (s.add (f.toNat*1)) λu=>
 ae xt 141 #[i] bA k λp n=>
 Br (p==a)
 (R eR n)
 (ae xt 71 #[i,u] bK n λ_ v=>
 o (qc xo (f+1)) v))
 (l (qc xo (d+1)) k)) (0:Int) h3))
 (ae xt 141 #[i] bA j λg q=>
 R (xm (g==a)) q)) (0:Int) r
theorem ME(a:aO)(d:Sl)(c:Sl)(b:Int)(e:@FG R h a d c b):ab xt 73 #[a,d,c,b] h R:=au ac func73 (aj.tn (aj.tn (.two (aj.tn (.inn (.loop [(18,aW)] [(8,9),(10,12),(13,14),(18,41)] (aj.tn (aj.tn (.two (.inn (aj.tn (aj.tn (aj.tn (.inn (.loop [(28,aW)] [(8,9),(13,14),(28,40)] .n)))))) .n)))))) .n))) e
noncomputable def JZ(a:Sl):Prop:=
 Br ((a.len:Int) !=64)
 (R (.tuple #[(xi xo 0),(xj eH 0 0),eS]) h)
 (aP a (3:Int) λd=>
 gq .u8 h (d.add ((3:Int).toNat*1)) λx2=>
 (0<=(4:Int)/\(4:Int)<=(59:Int)/\(59:Int)<=(a.cap:Int))/\
 ae xt 146 #[(.slice (if a.cap=(4:Int).toNat then a.ptr else a.ptr.map (·.add ((4:Int).toNat*1))) ((59:Int).toNat-(4:Int).toNat) (a.cap-(4:Int).toNat))] aI h λc b=>
 (av.ok [(d.add ((3:Int).toNat*1),(xi xp x2))] b)/\
 ae xt 147 #[(qc xo x2),c] aI b λf g=>
 ae xt 99 #[a,f] bK g λe h3=>
 Br (!e)
 (R (.tuple #[(xi xo 0),(xj eH 0 0),eS]) h3)
 (R (.tuple #[(qc xo x2),c,eR]) h3))
theorem Rl(a:Sl)(b:@JZ R h a):ab xt 76 #[a] h R:=au ac func76 .n b
noncomputable def MF(c:cG)(a:Sl):Prop:=
 aJ (σ:=Sl×Int) (λb e d=>
 Br (b.2<(a.len:Int))
 (aP a b.2 λl=>
 be d (l.add (b.2.toNat*1)) λx3=>
 iG C c.1 (c.2.1.toList++[(xi xo x3)]++c.2.2.toList) jP d λg i=>
 Br (!(qY g)) (ae xt 149 #[g] bK i λj h3=>
 Br (!j)
 (aA xt (qp 22 1 #[(0,x3)]) aI h3 λm k=>
 aA xt (qu #[22,22] 22 #[b.1,m]) aI k λf n=>
 e ((⟨f.ptr,f.len,f.cap⟩:Sl),qc xo (b.2+1)) n)
 (e ((⟨b.1.ptr,b.1.len,b.1.cap⟩:Sl),qc xo (b.2+1)) h3)) (e ((⟨b.1.ptr,b.1.len,b.1.cap⟩:Sl),qc xo (b.2+1)) i))
 (R b.1 d)) ((⟨eH,0,0⟩:Sl),(0:Int)) h
theorem TA(b:cG)(a:Sl)(c:@MF R h b a):ab xt 80 #[(.func (.func b.1) b.2.1 b.2.2),a] h R:=au ac func80 (aj.tn (aj.tn (.two (aj.tn (.inn (.loop [(5,ct),(11,aW)] [(5,6),(7,9),(11,30)] .n))) .n))) c
noncomputable def Ka(a:aO):Prop:=
 Br (qY a) (R eR h) (ae xt 57 #[a] bK h λc b=>
 R c b)
theorem Rm(a:aO)(b:@Ka R h a):ab xt 83 #[a] h R:=au ac func83 .n b
noncomputable def jH(a:Sl)(b:Int):Prop:=
 ae xt 150 #[a,b] bA h λd c=>
 R (decide (d>=0)) c
theorem ma(a:Sl)(b:Int)(c:@jH R h a b):ab xt 84 #[a,b] h R:=au ac func84 .n c
noncomputable def ud(a:aO):Prop:=
 Br (!(qY a))
 (∃c,(a=dB c)/\
 af xt (qf 4 (c.add 6) eR) h λ_ e=>
 ∃b,(a=dB b)/\
 af xt (qf 85 (b.add 2) (xj eH 0 0)) e λ_ f=>
 ∃a3,(a=dB a3)/\
 af xt (qf 3 (a3.add 3) (xi xo 0)) f λ_ h3=>
 ∃a4,(a=dB a4)/\
 af xt (qf 85 (a4.add 4) (xj eH 0 0)) h3 λ_ g=>
 ∃a5,(a=dB a5)/\
 af xt (qf 4 (a5.add 5) eS) g λ_ d=>
 R (.tuple #[]) d)
 (R (.tuple #[]) h)
theorem EH(a:aO)(b:@ud R h a):ab xt 85 #[a] h R:=au ac func85 .n b
noncomputable def FH(b:Int)(a:Int):Prop:=
 Br (b>=0) (Br (b<64) (Br (a>=1) (R (decide (a<=512)) h) (R eS h)) (R eS h)) (R eS h)
theorem MG(b:Int)(a:Int)(c:@FH R h b a):ab xt 88 #[b,a] h R:=au ac func88 .n c
noncomputable def uT(b:aO)(a:Int)(c:aO):Prop:=
 Br (!(qY b)) (Br (a>=0) (Br (a<64)
 (∃d,(b=dB d)/\
 (0<=a/\a<((64:Nat):Int))/\
 af xt (qf 74 ((d.add 10).add (a.toNat*1)) c) h λ_ e=>
 R (.tuple #[]) e)
 (R (.tuple #[]) h)) (R (.tuple #[]) h)) (R (.tuple #[]) h)
theorem Gl(b:aO)(a:Int)(c:aO)(d:@uT R h b a c):ab xt 89 #[b,a,c] h R:=au ac func89 .n d
noncomputable def rZ(a:aO):Prop:=
 Br (qY a)
 (R (xk eH) h)
 (∃b,(a=dB b)/\
 jp h (b.add 8) λx2=>
 R x2 h)
theorem Dj(a:aO)(b:@rZ R h a):ab xt 90 #[a] h R:=au ac func90 .n b
noncomputable def ue(b:aO)(a:ByteArray):Prop:=
 aQ xt (qO 9 a) h λg c=>
 ∃d,(b=dB d)/\
 bi c (d.add 7) λx3=>
 ae xt 152 #[x3,(.func (.func 153) #[] #[g])] bA c λe f=>
 R e f
theorem EI(b:aO)(a:ByteArray)(c:@ue R h b a):ab xt 91 #[b,a] h R:=au ac func91 .n c
noncomputable def sa(a:aO):Prop:=
 aQ xt (qO 27 a) h λc b=>
 jp b c λx2=>
 ae xt 25 #[x2] aI b λe f=>
 ae xt 116 #[e,(.func (.func 154) #[] #[c])] bK f λd h3=>
 R d h3
theorem Dk(a:aO)(b:@sa R h a):ab xt 92 #[a] h R:=au ac func92 .n b
noncomputable def Dl(y:bR)(a:Int)(k:Sl):Prop:=
 aQ xt (qO 24 y) h λd K=>
 bg (σ:=Unit) (λ_ M=>
 bg (σ:=Unit) (λ_ I=>
 ∃o:bR,an I d 0 o/\
 ae xt 160 #[o,(xi xq a),k] (.many [ct,aW]) I λi h8=>
 Br (i.2 !=0)
 (R (.tuple #[(xj eH 0 0),i.2]) h8)
 (be h8 d λu=>
 aJ (σ:=Sl×Int) (λc T E=>
 Br (c.2<u)
 (be E (d.add 2) λt=>
 aA xt (qG 34 t t) aI E λj p=>
 ∃n:bR,an p d 0 n/\
 ae xt 161 #[n,(xi xq a),c.2] aI p λr B=>
 aJ (σ:=Int) (λe Q g=>
 Br (e<(r.len:Int))
 (aP r e λz=>
 be g (z.add (e.toNat*1)) λs=>
 aP i.1 s λF=>
 bi g (F.add (s.toNat*1)) λm=>
 aJ (σ:=Int) (λb W f=>
 Br (b<(m.len:Int))
 (aP m b λx=>
 gq .u8 f (x.add (b.toNat*1)) λw=>
 aP j b λA=>
 gq .u8 f (A.add (b.toNat*1)) λG=>
 aP j b λa28=>
 af xt (qf 5 (a28.add (b.toNat*1)) (xi xp (qc xp ((qF (ql xp) G^^^(qF (ql xp) w)).toNat:Nat)))) f λ_ v=>
 W (qc xo (b+1)) v)
 (Q (qc xo (e+1)) f)) (0:Int) g)
 (aA xt (qu #[34,34] 34 #[c.1,j]) aI g λl D=>
 T ((⟨l.ptr,l.len,l.cap⟩:Sl),qc xo (c.2+1)) D)) (0:Int) B)
 (R (.tuple #[c.1,(xi xo 0)]) E)) ((⟨eH,0,0⟩:Sl),(0:Int)) h8))
 (λN=>
 ∃q:bR,an M d 0 q/\
 ae xt 159 #[k] aI M λV J=>
 (av.ok [(d,q.1),(d.add 1,q.2.1),(d.add 2,q.2.2)] J)/\
 ae xt 158 #[q,(xi xq a),V] bK J λO H=>
 (av.ok [] H)/\
 Br (!O)
 (R (.tuple #[(xj eH 0 0),(xi xo 9)]) H)
 (N () H)))
 (λP=>
 ∃x2:bR,an K d 0 x2/\
 ae xt 40 #[x2] bK K λU L=>
 Br (!U) (R (.tuple #[(xj eH 0 0),(xi xo 1)]) L) (ae xt 155 #[k,(.func (.func 156) #[] #[d])] bK L λS h3=>
 Br S
 (R (.tuple #[(xj eH 0 0),(xi xo 1)]) h3)
 (P () h3)))
theorem Le(b:bR)(a:Int)(c:Sl)(d:@Dl R h b a c):ab xt 93 #[b,(xi xq a),c] h R:=au ac func93 (aj.tn (.two (.join [] [(6,8),(17,25)] .n) (.two (.join [] [(6,8),(25,31)] .n) (aj.tn (aj.tn (aj.tn (.two (aj.tn (.inn (.loop [(10,ct),(43,aW)] [(10,13),(14,17),(43,81)] (aj.tn (aj.tn (.two (.inn (aj.tn (aj.tn (.two (aj.tn (.inn (.loop [(54,aW)] [(14,17),(54,77)] (aj.tn (aj.tn (.two (.inn (aj.tn (aj.tn (.inn (.loop [(63,aW)] [(15,17),(63,76)] .n))))) .n)))))) .n)))) .n)))))) .n))))))) d
noncomputable def Hu(k:bR)(c:Sl)(a:Int):Prop:=
 aQ xt (qO 24 k) h λl n=>
 bg (σ:=Unit) (λ_ u=>
 aJ (σ:=Sl×Int) (λd q g=>
 Br (d.2<(c.len:Int))
 (aP c d.2 λv=>
 bi g (v.add (d.2.toNat*1)) λm=>
 ∃e:bR,an g l 0 e/\
 ae xt 106 #[e] bA g λj p=>
 Br ((m.len:Int) !=j)
 (R (.tuple #[(xj eH 0 0),eS]) p)
 (aA xt (qu #[34,34] 34 #[d.1,m]) aI p λb r=>
 q ((⟨b.ptr,b.len,b.cap⟩:Sl),qc xo (d.2+1)) r))
 (aA xt (Instr.sliceAt 34 d.1 eH (dB a) (dB a)) aI g λi h8=>
 R (.tuple #[i,eR]) h8)) ((⟨eH,0,0⟩:Sl),(0:Int)) u)
 (λs=>
 ∃x2:bR,an n l 0 x2/\
 ae xt 40 #[x2] bK n λt f=>
 Br (!t) (R (.tuple #[(xj eH 0 0),eS]) f) (Br (a<0) (R (.tuple #[(xj eH 0 0),eS]) f) (∃o:bR,an f l 0 o/\
 ae xt 48 #[o,a] bA f λw h3=>
 Br ((c.len:Int) !=w)
 (R (.tuple #[(xj eH 0 0),eS]) h3)
 (s () h3))))
theorem ON(b:bR)(c:Sl)(a:Int)(d:@Hu R h b c a):ab xt 94 #[b,c,a] h R:=au ac func94 (aj.tn (.two (.join [] [(6,8),(11,26)] .n) (aj.tn (.two (aj.tn (.inn (.loop [(8,ct),(28,aW)] [(6,9),(10,11),(28,41)] .n))) .n)))) d
noncomputable def MH(p:dj):Prop:=
 aQ xt (qO 44 p) h λc E=>
 bg (σ:=Unit) (λ_ I=>
 bg (σ:=Unit) (λ_ h8=>
 bi h8 (c.add 7) λm=>
 aJ (σ:=Int) (λa M A=>
 Br (a<(m.len:Int))
 (aP m a λB=>
 ∃g:iE,an A (B.add (a.toNat*4)) 0 g/\
 aQ xt (qP 94 eR (.tuple #[])) A λd x=>
 af xt (qf 94 d g) x λ_ f=>
 bg (σ:=Unit) (λ_ k=>
 bi k (c.add 7) λe=>
 (0<=a/\a<=(e.cap:Int))/\
 ae xt 165 #[(xj e.ptr a.toNat e.cap),(.func (.func 166) #[] #[d])] bK k λs j=>
 Br s
 (R eS j)
 (M (qc xo (a+1)) j))
 (λF=>
 ∃l:dj,an f c 0 l/\
 ∃i:iE,an f d 0 i/\
 ae xt 164 #[l,i] bK f λu b=>
 (av.ok [] b)/\
 Br (!u) (R eS b) (Br (a>0) (bi b (c.add 7) λy=>
 aP y (qc xo (a-1)) λt=>
 JU b (t.add ((qc xo (a-1)).toNat*4)) λq=>
 JU b d λw=>
 Br (!(Op.bytesLess q.toList w.toList))
 (R eS b)
 (F () b)) (F () b))))
 (R eR A)) (0:Int) h8)
 (λJ=>
 bi I (c.add 6) λD=>
 ae xt 163 #[D,(xi xo 63)] bK I λr n=>
 Br (!r) (R eS n) (bi n (c.add 7) λo=>
 Br ((o.len:Int)>12)
 (R eS n)
 (J () n))))
 (λL=>
 be E c λx2=>
 ae xt 162 #[x2,(xi xo 1),(xi xo 2147483647)] bK E λN v=>
 Br (!N) (R eS v) (be v (c.add 1) λQ=>
 ae xt 162 #[Q,(xi xo 0),(xi xo 16777216)] bK v λP h3=>
 Br (!P) (R eS h3) (∃G:bR,an h3 (c.add 2) 0 G/\
 ae xt 40 #[G] bK h3 λO z=>
 Br (!O) (R eS z) (be z (c.add 5) λS=>
 ae xt 162 #[S,(xi xo 0),(xi xo 16)] bK z λK H=>
 Br (!K)
 (R eS H)
 (L () H)))))
theorem TB(a:dj)(b:@MH R h a):ab xt 95 #[a] h R:=au ac func95 (aj.tn (.two (.join [] [(2,3),(5,27)] .n) (.two (.join [] [(2,3),(27,37)] .n) (.two (aj.tn (.inn (.loop [(40,aW)] [(2,5),(40,72)] (aj.tn (aj.tn (.two (.inn (aj.tn (.two (.join [] [(2,3),(45,65)] .n) .n))) .n)))))) .n)))) b
noncomputable def uU(a:aO):Prop:=
 Br (qY a)
 (R (xj eH 0 0) h)
 (∃b,(a=dB b)/\
 bi h (b.add 2) λx2=>
 ae xt 167 #[x2] aI h λd c=>
 R d c)
theorem Gm(a:aO)(b:@uU R h a):ab xt 96 #[a] h R:=au ac func96 .n b
noncomputable def jA(b:Sl)(a:cG):Prop:=
 ae xt 168 #[b,(.func (.func a.1) a.2.1 a.2.2)] bA h λd c=>
 R (decide (d>=0)) c
theorem nk(b:Sl)(a:cG)(c:@jA R h b a):ab xt 97 #[b,(.func (.func a.1) a.2.1 a.2.2)] h R:=au ac func97 .n c
noncomputable def Dm(b:Sl)(a:fz):Prop:=
 bi h a λc=>
 ae xt 99 #[b,c] bK h λe d=>
 R e d
theorem Lf(b:Sl)(a:fz)(c:@Dm R h b a):ab xt 98 #[b,a] h R:=au ac func98 .n c
noncomputable def FI(a:Sl)(b:Sl):Prop:=
 aA xt (convert 34 9 a) (.one tyT) h λc d=>
 aA xt (convert 34 9 b) (.one tyT) d λf e=>
 R (xm (c.toList==f.toList)) e
theorem MI(a:Sl)(b:Sl)(c:@FI R h a b):ab xt 99 #[a,b] h R:=au ac func99 .n c
noncomputable def Kb(S:dj):Prop:=
 aQ xt (qO 44 S) h λe h1=>
 ∃x2:dj,an h1 e 0 x2/\
 ae xt 95 #[x2] bK h1 λr3 G=>
 Br (!r3)
 (R (xj eH 0 0) G)
 (bg (σ:=Sl) (λs8 s=>
 be s (e.add 2) λx9=>
 be s ((e.add 2).add 1) λK=>
 be s ((e.add 2).add 2) λW=>
 be s (e.add 5) λO=>
 bi s (e.add 6) λP=>
 aA xt (qp 34 5 #[(0,(xi xp (qc xp x9))),(1,(xi xp (qc xp K))),(2,(xi xp (qc xp W))),(3,(xi xp (qc xp O))),(4,(xi xp (qc xp (P.len:Int))))]) aI s λar h6=>
 aA xt (qu #[34,34] 34 #[s8,ar]) aI h6 λi h7=>
 bi h7 (e.add 6) λu=>
 aJ (σ:=Sl×Int) (λc K2 h8=>
 Br (c.2<(u.len:Int))
 (aP u c.2 λT=>
 be h8 (T.add (c.2.toNat*1)) λL=>
 aA xt (qp 34 1 #[(0,(xi xp (qc xp L)))]) aI h8 λV h9=>
 aA xt (qu #[34,34] 34 #[c.1,V]) aI h9 λo ax=>
 K2 ((⟨o.ptr,o.len,o.cap⟩:Sl),qc xo (c.2+1)) ax)
 (bi h8 (e.add 7) λH=>
 aA xt (qp 34 1 #[(0,(xi xp (qc xp (H.len:Int))))]) aI h8 λad U=>
 aA xt (qu #[34,34] 34 #[c.1,ad]) aI U λp w=>
 bi w (e.add 7) λE=>
 aJ (σ:=Sl×Int) (λd K3 j=>
 Br (d.2<(E.len:Int))
 (aP E d.2 λQ=>
 ∃x:iE,an j (Q.add (d.2.toNat*4)) 0 x/\
 aQ xt (qP 94 eR (.tuple #[])) j λa Y=>
 af xt (qf 94 a x) Y λ_ n=>
 bg (σ:=Sl) (λam m=>
 bg (σ:=Sl) (λk z=>
 bi z (a.add 3) λv=>
 aJ (σ:=Sl×Int) (λb K6 q=>
 Br (b.2<(v.len:Int))
 (aP v b.2 λM=>
 be q (M.add (b.2.toNat*1)) λah=>
 aA xt (qp 34 1 #[(0,(xi xp (qc xp ah)))]) aI q λv45 I=>
 aA xt (qu #[34,34] 34 #[b.1,v45]) aI I λv46 ap=>
 K6 ((⟨v46.ptr,v46.len,v46.cap⟩:Sl),qc xo (b.2+1)) ap)
 (K3 ((⟨b.1.ptr,b.1.len,b.1.cap⟩:Sl),qc xo (d.2+1)) q)) ((⟨k.ptr,k.len,k.cap⟩:Sl),(0:Int)) z)
 (λK5=>
 be m (a.add 1) λJ=>
 be m (a.add 2) λy=>
 ae xt 169 #[am,J,(xi xo 3)] aI m λN t=>
 (av.ok [(a.add 2,y)] t)/\
 ae xt 169 #[N,y,(xi xo 2)] aI t λr B=>
 (av.ok [] B)/\
 K5 (⟨r.ptr,r.len,r.cap⟩:Sl) B))
 (λK4=>
 JU n a λf=>
 JU n a λg=>
 aA xt (qp 34 1 #[(0,(xi xp (qc xp (f.size:Int))))]) aI n λX F=>
 (av.ok [(a,g),(a,f)] F)/\
 aA xt (qu #[34,34] 34 #[d.1,X]) aI F λZ A=>
 (av.ok [(a,g),(a,f)] A)/\
 aA xt (qu #[34,9] 34 #[Z,g]) aI A λl D=>
 (av.ok [(a,f)] D)/\
 K4 (⟨l.ptr,l.len,l.cap⟩:Sl) D))
 (R d.1 j)) ((⟨p.ptr,p.len,p.cap⟩:Sl),(0:Int)) w)) ((⟨i.ptr,i.len,i.cap⟩:Sl),(0:Int)) h7)
 (λK1=>
 be G e λx4=>
 be G (e.add 1) λx5=>
 ae xt 169 #[(xj eH 0 0),x4,(xi xo 4)] aI G λr6 h3=>
 (av.ok [(e.add 1,x5)] h3)/\
 ae xt 169 #[r6,x5,(xi xo 4)] aI h3 λr7 h4=>
 (av.ok [] h4)/\
 K1 (⟨r7.ptr,r7.len,r7.cap⟩:Sl) h4))
theorem Rn(a:dj)(b:@Kb R h a):ab xt 100 #[a] h R:=au ac func100 (aj.tn (aj.tn (.two (.join [(3,ct)] [(3,4),(13,19)] .n) (aj.tn (.two (aj.tn (.inn (.loop [(3,ct),(44,aW)] [(3,4),(5,6),(44,54)] .n))) (aj.tn (.two (aj.tn (.inn (.loop [(3,ct),(64,aW)] [(3,4),(7,8),(9,10),(64,99)] (aj.tn (aj.tn (.two (.inn (aj.tn (.two (.join [(3,ct)] [(3,4),(68,78)] .n) (.two (.join [(3,ct)] [(3,4),(78,85)] .n) (aj.tn (.inn (.loop [(3,ct),(88,aW)] [(3,4),(9,10),(88,98)] .n))))))) .n)))))) .n))))))) b
noncomputable def MJ(a:Int)(b:Int)(c:Int)(d:Sl):Prop:=
 (0<=(24:Int))/\
 (0<=(16:Int))/\
 (0<=(8:Int))/\
 aA xt (qp 34 7 #[(0,(xi xp (qc xp (q9 a (2^min (24:Int).toNat (ql xo)))))),(1,(xi xp (qc xp (q9 a (2^min (16:Int).toNat (ql xo)))))),(2,(xi xp (qc xp (q9 a (2^min (8:Int).toNat (ql xo)))))),(3,(xi xp (qc xp a))),(4,(xi xp (qc xp b))),(5,(xi xp (qc xp c))),(6,(xi xp (qc xp (d.len:Int))))]) aI h λe f=>
 aA xt (qu #[34,34] 34 #[e,d]) aI f λj i=>
 ae xt 147 #[(xi xo 2),j] aI i λg h3=>
 R g h3
theorem TC(c:Int)(a:Int)(b:Int)(d:Sl)(e:@MJ R h c a b d):ab xt 101 #[c,a,b,d] h R:=au ac func101 .n e
noncomputable def my(a:aO)(e:Sl):Prop:=
 bg (σ:=Unit) (λ_ h3=>
 bg (σ:=Unit) (λ_ h8=>
 ∃f,(a=dB f)/\
 be h8 (f.add 3) λs=>
 ∃i,(a=dB i)/\
 af xt (qf 3 (i.add 3) (qc xo (s+1))) h8 λ_ A=>
 ∃a22,(a=dB a22)/\
 jp A a22 λr=>
 ae xt 170 #[r] bK A λl g=>
 Br (!l)
 (R (xi xo 14) g)
 (ae xt 171 #[a] bA g λp q=>
 R p q))
 (λI=>
 ∃b,(a=dB b)/\
 bi h3 (b.add 2) λc=>
 ae xt 146 #[e] aI h3 λm x=>
 (av.ok [(b.add 2,c)] x)/\
 aA xt (qp 85 1 #[(0,m)]) aI x λo B=>
 (av.ok [(b.add 2,c)] B)/\
 aA xt (qu #[85,85] 85 #[c,o]) aI B λn D=>
 (av.ok [] D)/\
 ∃j,(a=dB j)/\
 af xt (qf 85 (j.add 2) n) D λ_ v=>
 (av.ok [] v)/\
 I () v))
 (λH=>
 Br ((e.len:Int) !=64)
 (R (xi xo 1) h)
 (bg (σ:=Bool) (λG d=>
 Br G
 (R (xi xo 5) d)
 (∃a4,(a=dB a4)/\
 bi d (a4.add 2) λE=>
 ∃u,(a=dB u)/\
 be d (u.add 1) λJ=>
 Br ((E.len:Int)>=J)
 (R (xi xo 7) d)
 (∃z,(a=dB z)/\
 jp d z λF=>
 ae xt 121 #[F] bK d λk w=>
 Br (!k)
 (R (xi xo 14) w)
 (H () w))))
 (λt=>
 Br (qY a) (t eR h) (∃y,(a=dB y)/\
 rT h (y.add 6) λx2=>
 t x2 h))))
theorem ow(a:aO)(b:Sl)(c:@my R h a b):ab xt 102 #[a,b] h R:=au ac func102 (aj.tn (.two (.join [] [(4,36)] (.inn (aj.tn (aj.tn (.two (.join [(9,lK)] [(9,18)] .n) .n))))) (.two (.join [] [(36,47)] .n) .n))) c
noncomputable def MK(b:cG)(a:Sl):Prop:=
 ae xt 128 #[a] aI h λi k=>
 ae xt 148 #[i] iV k λ_ n=>
 ae xt 172 #[i] aI n λf h3=>
 aJ (σ:=Int) (λc l d=>
 Br (c<(f.len:Int))
 (aP f c λa5=>
 be d (a5.add (c.toNat*1)) λo=>
 iG C b.1 (b.2.1.toList++[(xi xo o)]++b.2.2.toList) jP d λm j=>
 ae xt 173 #[m] bA j λg e=>
 Br (g !=0)
 (R g e)
 (l (qc xo (c+1)) e))
 (R (xi xo 0) d)) (0:Int) h3
theorem TD(b:cG)(a:Sl)(c:@MK R h b a):ab xt 103 #[(.func (.func b.1) b.2.1 b.2.2),a] h R:=au ac func103 (aj.tn (aj.tn (aj.tn (.two (aj.tn (.inn (.loop [(15,aW)] [(4,5),(6,8),(15,27)] .n))) .n)))) c
noncomputable def Kc(d:ByteArray):Prop:=
 aA xt (convert 9 34 d) aI h λf g=>
 aJ (σ:=Int) (λc e a=>
 Br (c<(f.len:Int))
 (aP f c λa3=>
 gq .u8 a (a3.add (c.toNat*1)) λb=>
 Br (b<97) (Br (b<48) (Br (b !=45)
 (R eS a)
 (e (qc xo (c+1)) a)) (Br (b>57) (Br (b !=45)
 (R eS a)
 (e (qc xo (c+1)) a)) (e (qc xo (c+1)) a))) (Br (b>122) (Br (b<48) (Br (b !=45)
 (R eS a)
 (e (qc xo (c+1)) a)) (Br (b>57) (Br (b !=45)
 (R eS a)
 (e (qc xo (c+1)) a)) (e (qc xo (c+1)) a))) (e (qc xo (c+1)) a)))
 (Br ((d.size:Int)>=1) (R (decide ((d.size:Int)<=12)) a) (R eS a))) (0:Int) g
theorem Ro(a:ByteArray)(b:@Kc R h a):ab xt 104 #[a] h R:=au ac func104 (aj.tn (.two (aj.tn (.inn (.loop [(8,aW)] [(2,3),(4,5),(8,31)] .n))) .n)) b
noncomputable def Kd(e:bR)(a:Int)(b:Int):Prop:=
 aQ xt (qO 24 e) h λd j=>
 aJ (σ:=Int) (λc l f=>
 Br (c<16)
 (∃x3:bR,an f d 0 x3/\
 ae xt 62 #[a,b,c] (.one (.sc (.int .u32))) f λk h3=>
 (av.ok [(d,x3.1),(d.add 1,x3.2.1),(d.add 2,x3.2.2)] h3)/\
 ae xt 174 #[x3,(xi xq k)] bK h3 λi g=>
 (av.ok [] g)/\
 Br i
 (R (.tuple #[c,eR]) g)
 (l (qc xo (c+1)) g))
 (R (.tuple #[(xi xo 0),eS]) f)) (0:Int) j
theorem Rp(c:bR)(a:Int)(b:Int)(d:@Kd R h c a b):ab xt 105 #[c,a,b] h R:=au ac func105 (aj.tn (.two (aj.tn (.inn (.loop [(9,aW)] [(6,20)] .n))) .n)) d
noncomputable def Av(a:bR):Prop:=
 aQ xt (qO 24 a) h λc b=>
 be b c λx2=>
 be b (c.add 2) λx3=>
 R (qc xo (x2*x3)) b
theorem Dn(a:bR)(b:@Av R h a):ab xt 106 #[a] h R:=au ac func106 .n b
noncomputable def FJ(f:bR)(a:Sl):Prop:=
 aQ xt (qO 24 f) h λg j=>
 ∃x2:bR,an j g 0 x2/\
 ae xt 48 #[x2,(xi xo (a.len:Int))] bA j λq r=>
 aJ (σ:=Sl×Int) (λb p h3=>
 Br (b.2<q)
 (∃i:bR,an h3 g 0 i/\
 ae xt 106 #[i] bA h3 λk s=>
 aA xt (qG 34 k k) aI s λl m=>
 ∃n:bR,an m g 0 n/\
 ae xt 106 #[n] bA m λd u=>
 (0<=(qc xo (b.2*d))/\(qc xo (b.2*d))<=(a.len:Int))/\
 aA xt (w8 #[34,34] 3 #[l,(.slice (if a.cap=(qc xo (b.2*d)).toNat then a.ptr else a.ptr.map (·.add ((qc xo (b.2*d)).toNat*1))) (a.len-(qc xo (b.2*d)).toNat) (a.cap-(qc xo (b.2*d)).toNat))]) bA u λ_ o=>
 aA xt (qp 85 1 #[(0,l)]) aI o λe h8=>
 aA xt (qu #[85,85] 85 #[b.1,e]) aI h8 λc t=>
 p ((⟨c.ptr,c.len,c.cap⟩:Sl),qc xo (b.2+1)) t)
 (R b.1 h3)) ((⟨eH,0,0⟩:Sl),(0:Int)) r
theorem ML(a:bR)(b:Sl)(c:@FJ R h a b):ab xt 107 #[a,b] h R:=au ac func107 (aj.tn (aj.tn (.two (aj.tn (.inn (.loop [(5,ct),(12,aW)] [(5,8),(12,31)] .n))) .n))) c
noncomputable def Hv(D:bR)(d:Int)(a:Sl):Prop:=
 aQ xt (qO 24 D) h λc M=>
 bg (σ:=Unit) (λ_ h3=>
 ∃N:bR,an h3 c 0 N/\
 ae xt 174 #[N,(xi xq d)] bK h3 λS H=>
 Br (!S)
 (R (.tuple #[(xk eH),(xi xo 8)]) H)
 (be H (c.add 1) λQ=>
 aJ (σ:=Sl×Int) (λf P x=>
 Br (f.2<Q)
 (be x (c.add 2) λw=>
 aA xt (qG 34 w w) aI x λy Z=>
 aA xt (qp 85 1 #[(0,y)]) aI Z λz T=>
 aA xt (qu #[85,85] 85 #[f.1,z]) aI T λm h8=>
 P ((⟨m.ptr,m.len,m.cap⟩:Sl),qc xo (f.2+1)) h8)
 (be x c λL=>
 aJ (σ:=Sl×Int) (λb W p=>
 Br (b.2<L)
 (be p (c.add 2) λg=>
 be p (c.add 2) λl=>
 (0<=(qc xo (b.2*g))/\(qc xo (b.2*g))<=(qc xo ((qc xo (b.2+1))*l))/\(qc xo ((qc xo (b.2+1))*l))<=(a.cap:Int))/\
 aA xt (qp 85 1 #[(0,(.slice (if a.cap=(qc xo (b.2*g)).toNat then a.ptr else a.ptr.map (·.add ((qc xo (b.2*g)).toNat*1))) ((qc xo ((qc xo (b.2+1))*l)).toNat-(qc xo (b.2*g)).toNat) (a.cap-(qc xo (b.2*g)).toNat)))]) aI p λB I=>
 aA xt (qu #[85,85] 85 #[b.1,B]) aI I λn G=>
 W ((⟨n.ptr,n.len,n.cap⟩:Sl),qc xo (b.2+1)) G)
 (bg (σ:=Sl×Int) (λr o=>
 Br (r.2 !=0)
 (R (.tuple #[(xk eH),(xi xo 8)]) o)
 (∃j:bR,an o c 0 j/\
 aQ xt (qO 234 (xn #[j.1,j.2.1,j.2.2,(xi xq d),r.1])) o λE J=>
 R (.tuple #[E,(xi xo 0)]) J))
 (λV=>
 ∃e:bR,an p c 0 e/\
 ∃i:bR,an p c 0 i/\
 ae xt 65 #[] jP p λK v=>
 (av.ok [(c,i.1),(c.add 1,i.2.1),(c.add 2,i.2.2),(c,e.1),(c.add 1,e.2.1),(c.add 2,e.2.2)] v)/\
 ae xt 176 #[i] aI v λA s=>
 (av.ok [(c,e.1),(c.add 1,e.2.1),(c.add 2,e.2.2)] s)/\
 ae xt 66 #[e,(xi xq d),A] aI s λF q=>
 (av.ok [] q)/\
 ae xt 175 #[K,F,b.1] (.many [ct,aW]) q λk t=>
 (av.ok [] t)/\
 V ((⟨k.1.ptr,k.1.len,k.1.cap⟩:Sl),k.2) t))) ((⟨f.1.ptr,f.1.len,f.1.cap⟩:Sl),(0:Int)) x)) ((⟨eH,0,0⟩:Sl),(0:Int)) H))
 (λU=>
 ∃x2:bR,an M c 0 x2/\
 ae xt 40 #[x2] bK M λX u=>
 Br (!X) (R (.tuple #[(xk eH),(xi xo 1)]) u) (be u c λY=>
 be u (c.add 2) λO=>
 Br ((a.len:Int) !=(qc xo (Y*O)))
 (R (.tuple #[(xk eH),(xi xo 1)]) u)
 (U () u)))
theorem OO(c:bR)(a:Int)(b:Sl)(d:@Hv R h c a b):ab xt 108 #[c,(xi xq a),b] h R:=au ac func108 (aj.tn (.two (.join [] [(6,8),(12,25)] .n) (aj.tn (aj.tn (.two (aj.tn (.inn (.loop [(8,ct),(31,aW)] [(8,9),(31,40)] .n))) (.two (aj.tn (.inn (.loop [(8,ct),(42,aW)] [(8,10),(42,60)] .n))) (.two (.join [(10,ct),(11,aW)] [(10,12),(60,71)] .n) .n))))))) d
noncomputable def FK(a:Int)(b:Int)(c:Sl):Prop:=
 bg (σ:=Unit) (λ_ F=>
 ((64:Int)≠0)/\
 ae xt 177 #[(wj (qc xo ((qc xo (8*a))+b)) 64)] (.one (.sc (.cpx .f64))) F λA I=>
 aQ xt (qP 238 eR (.tuple #[])) I λa3 h3=>
 aJ (σ:=Sl×Int) (λe z l=>
 Br (e.2<(c.len:Int))
 (aP c e.2 λa5=>
 be l (a5.add (e.2.toNat*1)) λf=>
 bg (σ:=Bool) (λJ D=>
 Br J
 ((0<=f/\f<((64:Nat):Int))/\
 af xt (qf 4 (a3.add (f.toNat*1)) eR) D λ_ M=>
 ae xt 177 #[f] (.one (.sc (.cpx .f64))) M λB E=>
 ae xt 178 #[(.complex .f64 B.1 B.2),(.complex .f64 A.1 A.2)] (.one (.sc (.flt .f64))) E λo h8=>
 aA xt (qp 237 1 #[(0,(xn #[f,(.float .f64 o)]))]) aI h8 λq L=>
 aA xt (qu #[237,237] 237 #[e.1,q]) aI L λi x=>
 z ((⟨i.ptr,i.len,i.cap⟩:Sl),qc xo (e.2+1)) x)
 (z ((⟨e.1.ptr,e.1.len,e.1.cap⟩:Sl),qc xo (e.2+1)) D))
 (λu=>
 Br (f>=0) (Br (f<64) ((0<=f/\f<((64:Nat):Int))/\
 rT l (a3.add (f.toNat*1)) λK=>
 u (!K) l) (u eS l)) (u eS l)))
 (ae xt 179 #[e.1,(.func (.func 180) #[] #[])] iV l λ_ v=>
 aJ (σ:=Sl×Int) (λd H j=>
 Br (d.2<(e.1.len:Int))
 (aP e.1 d.2 λr=>
 ∃g:Int×Nat,an j (r.add (d.2.toNat*2)) 0 [g.1,(.float .f64 g.2)]/\
 aQ xt (qP 242 eR (.tuple #[])) j λn t=>
 af xt (qf 242 n (xn #[g.1,(.float .f64 g.2)])) t λ_ m=>
 be m n λp=>
 aA xt (qp 22 1 #[(0,p)]) aI m λs w=>
 aA xt (qu #[22,22] 22 #[d.1,s]) aI w λk y=>
 H ((⟨k.ptr,k.len,k.cap⟩:Sl),qc xo (d.2+1)) y)
 (R d.1 j)) ((⟨eH,0,0⟩:Sl),(0:Int)) v)) ((⟨eH,0,0⟩:Sl),(0:Int)) h3)
 (λG=>
 Br (a<0) (R (xj eH 0 0) h) (Br (a>16777215) (R (xj eH 0 0) h) (Br (b<0) (R (xj eH 0 0) h) (Br (b>=8)
 (R (xj eH 0 0) h)
 (G () h)))))
theorem MM(a:Int)(b:Int)(c:Sl)(d:@FK R h a b c):ab xt 109 #[a,b,c] h R:=au ac func109 (aj.tn (.two (.join [] [(6,7),(15,29)] .n) (aj.tn (aj.tn (aj.tn (.two (aj.tn (.inn (.loop [(8,ct),(37,aW)] [(8,9),(11,12),(37,65)] (aj.tn (aj.tn (.two (.inn (aj.tn (.two (.join [(52,lK)] [(41,53)] .n) .n))) .n)))))) (aj.tn (aj.tn (.two (aj.tn (.inn (.loop [(12,ct),(69,aW)] [(12,13),(14,15),(69,79)] .n))) .n))))))))) d
noncomputable def pu(b:aO)(c:Int):Prop:=
 bg (σ:=Unit) (λ_ t=>
 ∃w,(b=dB w)/\
 be t (w.add 2) λx3=>
 aA xt (qG 34 x3 x3) aI t λv4 o=>
 ∃a5,(b=dB a5)/\
 ∃v:bR,an o a5 0 v/\
 ∃u,(b=dB u)/\
 gq .u32 o (u.add 3) λA=>
 ae xt 161 #[v,(xi xq A),c] aI o λs h3=>
 (av.ok [] h3)/\
 aJ (σ:=Int) (λd x i=>
 Br (d<(s.len:Int))
 (aP s d λr=>
 be i (r.add (d.toNat*1)) λf=>
 ∃e,(b=dB e)/\
 bi i (e.add 4) λq=>
 aP q f λl=>
 bi i (l.add (f.toNat*1)) λg=>
 aJ (σ:=Int) (λa z j=>
 Br (a<(g.len:Int))
 (aP g a λp=>
 gq .u8 j (p.add (a.toNat*1)) λm=>
 aP v4 a λn=>
 gq .u8 j (n.add (a.toNat*1)) λk=>
 aP v4 a λa22=>
 af xt (qf 5 (a22.add (a.toNat*1)) (xi xp (qc xp ((qF (ql xp) k^^^(qF (ql xp) m)).toNat:Nat)))) j λ_ B=>
 z (qc xo (a+1)) B)
 (x (qc xo (d+1)) j)) (0:Int) i)
 (R v4 i)) (0:Int) h3)
 (λy=>
 Br (qY b) (R (xj eH 0 0) h) (Br (c<0) (R (xj eH 0 0) h) (Br (c>65535)
 (R (xj eH 0 0) h)
 (y () h))))
theorem Be(b:aO)(a:Int)(c:@pu R h b a):ab xt 110 #[b,a] h R:=au ac func110 (aj.tn (.two (.join [] [(4,5),(10,20)] .n) (aj.tn (.two (aj.tn (.inn (.loop [(37,aW)] [(7,10),(37,63)] (aj.tn (aj.tn (.two (.inn (aj.tn (aj.tn (.inn (.loop [(49,aW)] [(8,10),(49,62)] .n))))) .n)))))) .n)))) c
noncomputable def MN(a:Sl)(b:Int):Prop:=
 bg (σ:=Unit) (λ_ c=>
 ((a.len:Int)≠0)/\
 aP a (wj b (a.len:Int)) λe=>
 be c (e.add ((wj b (a.len:Int)).toNat*1)) λx3=>
 R x3 c)
 (λd=>
 Br ((a.len:Int)==0) (R (xi xo (-1:Int)) h) (Br (b<0)
 (R (xi xo (-1:Int)) h)
 (d () h)))
theorem TE(a:Sl)(b:Int)(c:@MN R h a b):ab xt 111 #[a,b] h R:=au ac func111 (aj.tn (.two (.join [] [(4,12)] .n) .n)) c
noncomputable def Hw(g:fh):Prop:=
 aQ xt (qO 170 g) h λa r=>
 ∃x2:fh,an r a 0 x2/\
 ae xt 184 #[x2] bK r λu l=>
 Br (!u)
 (R (xj eH 0 0) l)
 (be l a λy=>
 ae xt 185 #[(xj eH 0 0),y,(xi xo 3)] aI l λx h3=>
 be h3 (a.add 1) λw=>
 ae xt 185 #[x,w,(xi xo 1)] aI h3 λv s=>
 be s (a.add 2) λA=>
 ae xt 185 #[v,A,(xi xo 2)] aI s λt b=>
 be b (a.add 3) λi=>
 be b ((a.add 3).add 1) λp=>
 be b ((a.add 3).add 2) λd=>
 aA xt (qp 34 3 #[(0,(xi xp (qc xp i))),(1,(xi xp (qc xp p))),(2,(xi xp (qc xp d)))]) aI b λf B=>
 aA xt (qu #[34,34] 34 #[t,f]) aI B λj q=>
 gq .u32 q (a.add 6) λo=>
 ae xt 185 #[j,(qc xo o),(xi xo 4)] aI q λc h8=>
 bi h8 (a.add 7) λn=>
 aA xt (qu #[34,34] 34 #[c,n]) aI h8 λk z=>
 ae xt 147 #[(xi xo 1),k] aI z λe m=>
 R e m)
theorem OP(a:fh)(b:@Hw R h a):ab xt 112 #[a] h R:=au ac func112 .n b
noncomputable def iW(b:Sl)(a:cG):Prop:=
 ae xt 187 #[(xi xr (qc xr (b.len:Int)))] bA h λe c=>
 ae xt 186 #[b,(xi xo 0),(xi xo (b.len:Int)),e,(.func (.func a.1) a.2.1 a.2.2)] iV c λ_ d=>
 R (.tuple #[]) d
theorem mH(b:Sl)(a:cG)(c:@iW R h b a):ab xt 113 #[b,(.func (.func a.1) a.2.1 a.2.2)] h R:=au ac func113 .n c
noncomputable def Do(a:iE)(b:iE):Prop:=
 aQ xt (qO 94 a) h λi e=>
 aQ xt (qO 94 b) e λg c=>
 JU c i λx3=>
 JU c g λf=>
 ae xt 115 #[x3,f] bA c λd h3=>
 R d h3
theorem Lg(a:iE)(b:iE)(c:@Do R h a b):ab xt 114 #[a,b] h R:=au ac func114 .n c
noncomputable def rh(a:ByteArray)(b:ByteArray):Prop:=
 ae xt 188 #[a] bK h λf e=>
 ae xt 188 #[b] bK e λd c=>
 Br f
 (Br d
 (R (xi xo 0) c)
 (R (xi xo (-1:Int)) c))
 (Br d
 (R (xi xo 1) c)
 (Br (Op.bytesLess a.toList b.toList)
 (R (xi xo (-1:Int)) c)
 (Br (!(Op.bytesLess a.toList b.toList||a.toList==b.toList))
 (R (xi xo 1) c)
 (R (xi xo 0) c))))
theorem Cu(a:ByteArray)(b:ByteArray)(c:@rh R h a b):ab xt 115 #[a,b] h R:=au ac func115 .n c
noncomputable def iJ(b:Sl)(a:cG):Prop:=
 ae xt 189 #[b,(.func (.func a.1) a.2.1 a.2.2)] bA h λd c=>
 R (decide (d>=0)) c
theorem kq(b:Sl)(a:cG)(c:@iJ R h b a):ab xt 116 #[b,(.func (.func a.1) a.2.1 a.2.2)] h R:=au ac func116 .n c
noncomputable def ri(b:Int)(a:fz)(d:fz):Prop:=
 jp h a λf=>
 ∃i,(f=dB i)/\
 (0<=b/\b<((64:Nat):Int))/\
 jp h ((i.add 10).add (b.toNat*1)) λx3=>
 jp h a λg=>
 ∃a5,(g=dB a5)/\
 ∃c:dj,an h a5 0 c/\
 ∃e:cG,cellOf h d=dB (.func (.func e.1) e.2.1 e.2.2)/\
 iG C e.1 (e.2.1.toList++[(xi xo b)]++e.2.2.toList) bA h λm j=>
 (av.ok [(a5,c.1),(a5.add 1,c.2.1),(a5.add 2,c.2.2.1),(a5.add 3,c.2.2.2.1),(a5.add 4,c.2.2.2.2.1),(a5.add 5,c.2.2.2.2.2.1),(a5.add 6,c.2.2.2.2.2.2.1),(a5.add 7,c.2.2.2.2.2.2.2),(a,g),((i.add 10).add (b.toNat*1),x3),(a,f)] j)/\
 ae xt 118 #[x3,c,m] bK j λl k=>
 (av.ok [(a,g),(a,f)] k)/\
 R (xm (!l)) k
theorem Cv(c:Int)(b:fz)(a:fz)(d:@ri R h c b a):ab xt 117 #[c,b,a] h R:=au ac func117 .n d
noncomputable def Cw(a:aO)(c:dj)(b:Int):Prop:=
 aQ xt (qO 44 c) h λp e=>
 bg (σ:=Unit) (λ_ h3=>
 ae xt 191 #[a] bA h3 λm o=>
 ae xt 190 #[a,m,b] bK o λq d=>
 Br q (R eR d) (∃g:dj,an d p 0 g/\
 ae xt 123 #[a,g] aI d λn r=>
 ae xt 190 #[a,(xi xo (n.len:Int)),b] bK r λj k=>
 R j k))
 (λl=>
 Br (qY a) (R eS e) (ae xt 149 #[a] bK e λi f=>
 Br i
 (R eS f)
 (l () f)))
theorem FL(c:aO)(b:dj)(a:Int)(d:@Cw R h c b a):ab xt 118 #[c,b,a] h R:=au ac func118 (aj.tn (.two (.join [] [(6,13)] .n) .n)) d
noncomputable def Cx(a:aO)(e:dj)(b:Int):Prop:=
 aQ xt (qO 44 e) h λl j=>
 bg (σ:=Unit) (λ_ i=>
 ∃g:dj,an i l 0 g/\
 ae xt 123 #[a,g] aI i λc h8=>
 ae xt 125 #[a,c] bA h8 λd v=>
 R d v)
 (λq=>
 bg (σ:=Bool) (λo h3=>
 Br o
 (R (xi xo 5) h3)
 (∃m:dj,an h3 l 0 m/\
 ae xt 118 #[a,m,b] bK h3 λu k=>
 Br (!u)
 (R (xi xo 7) k)
 (ae xt 191 #[a] bA k λr w=>
 ae xt 190 #[a,r,b] bK w λs n=>
 Br s
 (R (xi xo 0) n)
 (q () n))))
 (λf=>
 Br (qY a) (f eR j) (ae xt 149 #[a] bK j λp t=>
 f p t)))
theorem FM(c:aO)(b:dj)(a:Int)(d:@Cx R h c b a):ab xt 119 #[c,b,a] h R:=au ac func119 (aj.tn (.two (.join [] [(6,26)] (.inn (.two (.join [(7,lK)] [(7,14)] .n) .n))) .n)) d
noncomputable def lM(a:ByteArray):Prop:=
 Br ((a.size:Int)==0)
 (R aaQ h)
 (aA xt (qG 34 (xi xo (a.size:Int)) (xi xo (a.size:Int))) aI h λb c=>
 aA xt (w8 #[34,9] 3 #[b,a]) bA c λ_ d=>
 aP b (0:Int) λa3=>
 aA xt (Builtin.unsafeString_ #[252,3] 9 #[(a3.add ((0:Int).toNat*1)),(xi xo (b.len:Int))]) (.one tyT) d λv4 h3=>
 R v4 h3)
theorem rj(a:ByteArray)(b:@lM R h a):ab xt 120 #[a] h R:=au ac func120 .n b
noncomputable def Aw(a:aO):Prop:=
 Br (!(qY a)) (∃b,(a=dB b)/\
 rT h b λx2=>
 R (xm (!x2)) h) (R eS h)
theorem Hx(a:aO)(b:@Aw R h a):ab xt 121 #[a] h R:=au ac func121 .n b
noncomputable def Hy(a:Int)(b:Int):Prop:=
 Br (a>=0) (Br (a<=64) (Br (b>=0) (R (decide (b<=a)) h) (R eS h)) (R eS h)) (R eS h)
theorem OQ(a:Int)(b:Int)(c:@Hy R h a b):ab xt 122 #[a,b] h R:=au ac func122 .n c
noncomputable def Ke(d:aO)(c:dj):Prop:=
 aQ xt (qO 44 c) h λa b=>
 ∃x2:dj,an b a 0 x2/\
 ∃x3:dj,an b a 0 x3/\
 ae xt 42 #[x2] aI b λi e=>
 (av.ok [(a,x3.1),(a.add 1,x3.2.1),(a.add 2,x3.2.2.1),(a.add 3,x3.2.2.2.1),(a.add 4,x3.2.2.2.2.1),(a.add 5,x3.2.2.2.2.2.1),(a.add 6,x3.2.2.2.2.2.2.1),(a.add 7,x3.2.2.2.2.2.2.2)] e)/\
 ae xt 192 #[d,x3] aI e λg h3=>
 (av.ok [] h3)/\
 aA xt (qu #[85,85] 85 #[i,g]) aI h3 λj f=>
 (av.ok [] f)/\
 R j f
theorem Rq(b:aO)(a:dj)(c:@Ke R h b a):ab xt 123 #[b,a] h R:=au ac func123 .n c
noncomputable def gT(b:Sl)(d:Sl)(a:cG):Prop:=
 Br ((b.len:Int) !=(d.len:Int))
 (R eS h)
 (aJ (σ:=Int) (λc i e=>
 Br (c<(b.len:Int))
 (aP b c λk=>
 bi e (k.add (c.toNat*1)) λx3=>
 aP d c λa4=>
 bi e (a4.add (c.toNat*1)) λf=>
 iG C a.1 (a.2.1.toList++[(xj x3.ptr x3.len x3.cap),(xj f.ptr f.len f.cap)]++a.2.2.toList) bK e λj g=>
 Br (!j)
 (R eS g)
 (i (qc xo (c+1)) g))
 (R eR e)) (0:Int) h)
theorem lx(b:Sl)(c:Sl)(a:cG)(d:@gT R h b c a):ab xt 124 #[b,c,(.func (.func a.1) a.2.1 a.2.2)] h R:=au ac func124 (aj.tn (aj.tn (.two (aj.tn (.inn (.loop [(17,aW)] [(6,10),(17,32)] .n))) .n))) d
noncomputable def pv(a:aO)(b:Sl):Prop:=
 aJ (σ:=Int) (λk D c=>
 Br (k<(b.len:Int))
 (aP b k λF=>
 bi c (F.add (k.toNat*1)) λx3=>
 Br ((x3.len:Int) !=64)
 (R (xi xo 1) c)
 (D (qc xo (k+1)) c))
 (bg (σ:=Unit) (λ_ x=>
 ∃d,(a=dB d)/\
 jp x d λu=>
 ae xt 170 #[u] bK x λn y=>
 Br (!n)
 (ae xt 167 #[b] aI y λl I=>
 ∃i,(a=dB i)/\
 af xt (qf 85 (i.add 4) l) I λ_ B=>
 ∃g,(a=dB g)/\
 af xt (qf 4 (g.add 5) eR) B λ_ h8=>
 R (xi xo 14) h8)
 (ae xt 167 #[b] aI y λm G=>
 ∃e,(a=dB e)/\
 af xt (qf 85 (e.add 2) m) G λ_ s=>
 ∃j,(a=dB j)/\
 af xt (qf 3 (j.add 3) (xi xo 0)) s λ_ r=>
 ae xt 171 #[a] bA r λq t=>
 R q t))
 (λA=>
 bg (σ:=Bool) (λE f=>
 Br E
 (R (xi xo 5) f)
 (∃w,(a=dB w)/\
 be f (w.add 1) λH=>
 Br ((b.len:Int)>H)
 (R (xi xo 7) f)
 (∃a9,(a=dB a9)/\
 jp f a9 λo=>
 ae xt 121 #[o] bK f λp h3=>
 Br (!p)
 (R (xi xo 14) h3)
 (A () h3))))
 (λv=>
 Br (qY a) (v eR c) (∃a4,(a=dB a4)/\
 rT c (a4.add 6) λz=>
 v z c))))) (0:Int) h
theorem Bf(b:aO)(a:Sl)(c:@pv R h b a):ab xt 125 #[b,a] h R:=au ac func125 (aj.tn (.two (aj.tn (.inn (.loop [(9,aW)] [(4,5),(6,7),(9,17)] .n))) (.two (.join [] [(4,5),(17,41)] (.inn (.two (.join [(17,lK)] [(17,26)] .n) .n))) .n))) c
noncomputable def px(b:aO)(K:iE)(a:Int):Prop:=
 aQ xt (qO 94 K) h λg p=>
 bg (σ:=aO) (λv k=>
 bg (σ:=Sl×Int) (λx E=>
 Br (x.2 !=0)
 (R (.tuple #[(xk eH),(xi xo 11)]) E)
 (bg (σ:=Unit) (λ_ j=>
 bg (σ:=Unit) (λ_ G=>
 R (.tuple #[v,(xi xo 0)]) G)
 (λK5=>
 ∃o,(b=dB o)/\
 jp j o λF=>
 be j (g.add 1) λO=>
 ae xt 18 #[F,O,a] aI j λH A=>
 (av.ok [] A)/\
 ∃m,(v=dB m)/\
 af xt (qf 51 (m.add 4) H) A λ_ w=>
 (av.ok [] w)/\
 K5 () w))
 (λY=>
 bg (σ:=Int) (λJ B=>
 Br (J !=0)
 (R (.tuple #[(xk eH),(xi xo 11)]) B)
 (Y () B))
 (λX=>
 ∃r,(b=dB r)/\
 ∃q:bR,an E ((r.add 1).add 2) 0 q/\
 ∃y,(v=dB y)/\
 gq .u32 E (y.add 2) λP=>
 ae xt 108 #[q,(xi xq P),x.1] (.many [Db,aW]) E λD h8=>
 (av.ok [] h8)/\
 ∃u,(v=dB u)/\
 af xt (qf 165 (u.add 3) D.1) h8 λ_ T=>
 (av.ok [] T)/\
 X D.2 T))))
 (λV=>
 ∃c,(b=dB c)/\
 ∃d:bR,an k ((c.add 1).add 2) 0 d/\
 ∃i,(v=dB i)/\
 gq .u32 k (i.add 2) λn=>
 ∃e,(b=dB e)/\
 jp k e λl=>
 ∃s,(b=dB s)/\
 bi k (s.add 9) λL=>
 ∃z,(b=dB z)/\
 ∃t:dj,an k (z.add 1) 0 t/\
 be k (g.add 1) λM=>
 ae xt 63 #[(.func (.func 35) #[l] #[]),L,t,M,a] aI k λI Q=>
 (av.ok [(e,l),(i.add 2,(xi xq n)),((c.add 1).add 2,d.1),(((c.add 1).add 2).add 1,d.2.1),(((c.add 1).add 2).add 2,d.2.2)] Q)/\
 ae xt 93 #[d,(xi xq n),I] (.many [ct,aW]) Q λf U=>
 (av.ok [(e,l)] U)/\
 V ((⟨f.1.ptr,f.1.len,f.1.cap⟩:Sl),f.2) U))
 (λW=>
 be p (g.add 1) λx2=>
 be p (g.add 1) λx3=>
 bi p (g.add 3) λN=>
 aP N a λa5=>
 be p (a5.add (a.toNat*1)) λx6=>
 ae xt 62 #[x3,a,x6] (.one (.sc (.int .u32))) p λZ S=>
 (av.ok [(g.add 3,N),(g.add 1,x2)] S)/\
 aQ xt (qO 187 (xn #[x2,a,(xi xq Z),(xk eH),(xj eH 0 0),(xj eH 0 0)])) S λa8 h3=>
 (av.ok [(g.add 3,N),(g.add 1,x2)] h3)/\
 W (dB a8) h3)
theorem Bg(b:aO)(a:iE)(c:Int)(d:@px R h b a c):ab xt 126 #[b,a,c] h R:=au ac func126 (aj.tn (.two (.join [(8,Db)] [(8,9),(11,25)] .n) (.two (.join [(9,ct),(10,aW)] [(9,11),(25,55)] .n) (aj.tn (.two (.join [] [(6,8),(10,11),(57,76)] (.two (.join [(10,aW)] [(10,11),(57,74)] .n) .n)) (.two (.join [] [(76,87)] .n) .n)))))) d
noncomputable def py(c:aO)(b:aO):Prop:=
 aJ (σ:=Unit) (λ_ q g=>
 ∃n,(c=dB n)/\
 ∃x3:bR,an g ((n.add 1).add 2) 0 x3/\
 ∃a4,(b=dB a4)/\
 gq .u32 g (a4.add 2) λo=>
 ∃l,(b=dB l)/\
 bi g (l.add 4) λr=>
 ∃m,(c=dB m)/\
 be g (m.add 10) λp=>
 ae xt 23 #[x3,(xi xq o),r,p] (.many [ct,lK,aW]) g λa d=>
 (av.ok [] d)/\
 Br (a.2.2 !=0)
 (R a.2.2 d)
 (Br (!a.2.1)
 (R (xi xo 0) d)
 (∃i,(b=dB i)/\
 bi d (i.add 5) λj=>
 ∃e,(c=dB e)/\
 be d (e.add 11) λk=>
 Br ((j.len:Int)>=k)
 (R (xi xo 12) d)
 (ae xt 193 #[c,b,a.1] bA d λf h3=>
 Br (f !=0)
 (R f h3)
 (q () h3))))) () h
theorem Bh(a:aO)(b:aO)(c:@py R h a b):ab xt 127 #[a,b] h R:=au ac func127 (aj.tn (.inn (.loop [] [(4,56)] .n))) c
noncomputable def ox(a:Sl):Prop:=
 Br (qY a.ptr)
 (R (xj eH 0 0) h)
 (aA xt (qp 22 0 #[]) aI h λb c=>
 aA xt (qu #[22,22] 22 #[b,a]) aI c λe d=>
 R e d)
theorem Ax(a:Sl)(b:@ox R h a):ab xt 128 #[a] h R:=au ac func128 .n b
noncomputable def jB(a:Sl):Prop:=
 Br (qY a.ptr)
 (R (xj eH 0 0) h)
 (aA xt (qp 42 0 #[]) aI h λb c=>
 aA xt (qu #[42,42] 42 #[b,a]) aI c λe d=>
 R e d)
theorem nl(a:Sl)(b:@jB R h a):ab xt 129 #[a] h R:=au ac func129 .n b
noncomputable def Dp(l:aO)(k:dj):Prop:=
 aQ xt (qO 44 k) h λy u=>
 ae xt 96 #[l] aI u λq w=>
 aJ (σ:=Sl×Int) (λa v h3=>
 Br ((qc xo (a.2+1))>=(q.len:Int))
 (ae xt 196 #[a.1,(.func (.func 197) #[] #[])] iV h3 λ_ x=>
 ae xt 198 #[a.1,(.func (.func 199) #[] #[])] aI x λA B=>
 R A B)
 (bg (σ:=Sl) (λb n=>
 v ((⟨b.ptr,b.len,b.cap⟩:Sl),qc xo (a.2+1)) n)
 (λg=>
 aP q (qc xo (a.2+1)) λs=>
 bi h3 (s.add ((qc xo (a.2+1)).toNat*1)) λz=>
 ae xt 194 #[z] (.many [(.agg [(.int .i64),(.int .i64),(.int .i64),(.int .i64),(.int .i64),(.int .i64),(.int .u32),.slc]),lK]) h3 λr D=>
 aQ xt (qP 170 eR (.tuple #[])) D λa9 t=>
 af xt (qf 170 a9 r.1) t λ_ h8=>
 Br r.2 (∃e:dj,an h8 y 0 e/\
 ∃f:fh,an h8 a9 0 f/\
 ae xt 195 #[e,f] bK h8 λi p=>
 Br i
 (∃d:fh,an p a9 0 d/\
 aA xt (qp 189 1 #[(0,d)]) aI p λj o=>
 aA xt (qu #[189,189] 189 #[a.1,j]) aI o λc m=>
 g (⟨c.ptr,c.len,c.cap⟩:Sl) m)
 (g (⟨a.1.ptr,a.1.len,a.1.cap⟩:Sl) p)) (g (⟨a.1.ptr,a.1.len,a.1.cap⟩:Sl) h8)))) ((⟨eH,0,0⟩:Sl),(-1:Int)) w
theorem Lh(b:aO)(a:dj)(c:@Dp R h b a):ab xt 130 #[b,a] h R:=au ac func130 (aj.tn (.scope 0 [(6,ct),(7,aW)] [(4,5),(6,10),(12,40)] [.n,.n,.n] [(aj.tn (aj.tn (.two (.join [(6,ct)] [(6,7),(8,10),(18,36)] .n) .n)))] [(1,[.n])])) c
noncomputable def Hz(d:aO)(a:Sl):Prop:=
 ae xt 200 #[a] bK h λl e=>
 Br (!l)
 (R (xj eH 0 0) e)
 (ae xt 201 #[a] aI e λb i=>
 ae xt 203 #[d] jP i λg h3=>
 ae xt 204 #[b] bA h3 λf j=>
 ae xt 202 #[g,b,f] bA j λc k=>
 (0<=c/\c<=(b.cap:Int))/\
 R (xj b.ptr c.toNat b.cap) k)
theorem OR(a:aO)(b:Sl)(c:@Hz R h a b):ab xt 131 #[a,b] h R:=au ac func131 .n c
noncomputable def Kf:Prop:=
 aQ xt (qP 192 eR (.tuple #[])) h λc g=>
 aJ (σ:=Int×Int) (λb i e=>
 Br (b.2<255)
 ((0<=b.2/\b.2<((255:Nat):Int))/\
 af xt (qf 5 (c.add (b.2.toNat*1)) (xi xp b.1)) e λ_ h3=>
 ae xt 205 #[(xi xp b.1),(xi xp 3)] (.one (.sc (.int .u8))) h3 λj k=>
 i (j,qc xo (b.2+1)) k)
 (∃d:List (Int),(d.length=255/\an e c 0 (d.map (Sc.enc (.int .u8))))/\
 af xt (qf 192 c (xn (d.map (Sc.enc (.int .u8))).toArray)) e λ_ f=>
 ∃a:List (Int),(a.length=255/\an f c 0 (a.map (Sc.enc (.int .u8))))/\
 R (xn (a.map (Sc.enc (.int .u8))).toArray) f)) ((1:Int),(0:Int)) g
theorem Rr(a:@Kf R h):ab xt 132 #[] h R:=au ac func132 (aj.tn (aj.tn (.two (aj.tn (.inn (.loop [(1,(.sc (.int .u8))),(3,aW)] [(1,12)] .n))) .n))) a
noncomputable def Qd(e:List (Int)):Prop:=
 aQ xt (qO 192 (xn (e.map (Sc.enc (.int .u8))).toArray)) h λm j=>
 aQ xt (qP 194 eR (.tuple #[])) j λd i=>
 ∃x3:List (Int),(x3.length=255/\an i m 0 (x3.map (Sc.enc (.int .u8))))/\
 aJ (σ:=Int) (λb k h3=>
 Br (b<255)
 (∃c:Int,(0<=b/\b<((255:Nat):Int)/\((x3.map (Sc.enc (.int .u8))).toArray:Array eX)[b.toNat]?=dB (xi xp c))/\
 (0<=c/\c<((256:Nat):Int))/\
 af xt (qf 3 (d.add (c.toNat*1)) b) h3 λ_ l=>
 k (qc xo (b+1)) l)
 (∃f:List (Int),(f.length=256/\an h3 d 0 (f.map (Sc.enc (.int .i64))))/\
 af xt (qf 194 d (xn (f.map (Sc.enc (.int .i64))).toArray)) h3 λ_ g=>
 ∃a:List (Int),(a.length=256/\an g d 0 (a.map (Sc.enc (.int .i64))))/\
 R (xn (a.map (Sc.enc (.int .i64))).toArray) g)) (0:Int) i
theorem VE(a:List (Int))(b:@Qd R h a):ab xt 133 #[(xn (a.map (Sc.enc (.int .u8))).toArray)] h R:=au ac func133 (aj.tn (.two (aj.tn (.inn (.loop [(6,aW)] [(3,5),(6,14)] .n))) .n)) b
noncomputable def TF(i:bR)(c:Int)(a:Int):Prop:=
 aQ xt (qO 24 i) h λj n=>
 bg (σ:=Unit) (λ_ h3=>
 ∃l:bR,an h3 j 0 l/\
 ae xt 21 #[l] bA h3 λo v=>
 aA xt (qG 34 o o) aI v λp q=>
 ∃r:bR,an q j 0 r/\
 ae xt 161 #[r,(xi xq c),a] aI q λm w=>
 aJ (σ:=Int) (λb s g=>
 Br (b<(m.len:Int))
 (aP m b λk=>
 be g (k.add (b.toNat*1)) λd=>
 aP p d λf=>
 af xt (qf 5 (f.add (d.toNat*1)) (xi xp 1)) g λ_ h8=>
 s (qc xo (b+1)) h8)
 (R p g)) (0:Int) w)
 (λt=>
 ∃x2:bR,an n j 0 x2/\
 ae xt 40 #[x2] bK n λu e=>
 Br (!u) (R (xj eH 0 0) e) (Br (a<0) (R (xj eH 0 0) e) (Br (a>65535)
 (R (xj eH 0 0) e)
 (t () e))))
theorem YB(c:bR)(a:Int)(b:Int)(d:@TF R h c a b):ab xt 134 #[c,(xi xq a),b] h R:=au ac func134 (aj.tn (.two (.join [] [(6,7),(10,21)] .n) (aj.tn (.two (aj.tn (.inn (.loop [(29,aW)] [(9,10),(29,37)] .n))) .n)))) d
noncomputable def Kg(a:Sl)(e:Int):Prop:=
 aJ (σ:=Int) (λb l d=>
 Br (b>=0)
 (aP a b λp=>
 be d (p.add (b.toNat*1)) λx3=>
 Br (decide (x3<(qc xo ((qc xo (e-(a.len:Int)))+b))))
 (aP a b λa4=>
 be d (a4.add (b.toNat*1)) λg=>
 aP a b λk=>
 af xt (qf 3 (k.add (b.toNat*1)) (qc xo (g+1))) d λ_ m=>
 aJ (σ:=Int) (λc i h3=>
 Br (c<(a.len:Int))
 (aP a (qc xo (c-1)) λo=>
 be h3 (o.add ((qc xo (c-1)).toNat*1)) λj=>
 aP a c λf=>
 af xt (qf 3 (f.add (c.toNat*1)) (qc xo (j+1))) h3 λ_ n=>
 i (qc xo (c+1)) n)
 (R eR h3)) (qc xo (b+1)) m)
 (l (qc xo (b-1)) d))
 (R eS d)) (qc xo ((a.len:Int)-1)) h
theorem Rs(b:Sl)(a:Int)(c:@Kg R h b a):ab xt 135 #[b,a] h R:=au ac func135 (aj.tn (.two (aj.tn (.inn (.loop [(5,aW)] [(4,7),(10,48)] (aj.tn (.two (.inn (aj.tn (.two (aj.tn (.two (aj.tn (.inn (.loop [(6,aW)] [(6,7),(33,48)] .n))) .n)) .n))) .n))))) .n)) c
noncomputable def MO(b:Int)(a:Int):Prop:=
 bg (σ:=Unit) (λ_ d=>
 aA xt (qG 34 b b) aI d λc f=>
 aP c a λa3=>
 af xt (qf 5 (a3.add (a.toNat*1)) (xi xp 1)) f λ_ h3=>
 R c h3)
 (λe=>
 Br (b<1) (R (xj eH 0 0) h) (Br (b>64) (R (xj eH 0 0) h) (Br (a<0) (R (xj eH 0 0) h) (Br (a>=b)
 (R (xj eH 0 0) h)
 (e () h)))))
theorem TG(b:Int)(a:Int)(c:@MO R h b a):ab xt 136 #[b,a] h R:=au ac func136 (aj.tn (.two (.join [] [(4,5),(6,21)] .n) .n)) c
noncomputable def Dq(c:aO)(a:Int):Prop:=
 ((255:Int)≠0)/\
 bg (σ:=Int) (λb f=>
 ae xt 206 #[c] jP f λi e=>
 ∃a3,(i=dB a3)/\
 (0<=b/\b<((255:Nat):Int))/\
 gq .u8 e (a3.add (b.toNat*1)) λg=>
 R (xi xp g) e)
 (λd=>
 Br ((wj a 255)<0)
 (d (qc xo ((wj a 255)+255)) h)
 (d (wj a 255) h))
theorem Li(a:aO)(b:Int)(c:@Dq R h a b):ab xt 137 #[a,b] h R:=au ac func137 (aj.tn (aj.tn (.two (.join [(1,aW)] [(1,2),(7,11)] .n) .n))) c
noncomputable def Ay(b:aO)(g:Sl):Prop:=
 bg (σ:=Unit) (λ_ r=>
 ae xt 146 #[g] aI r λj o=>
 ∃a5,(b=dB a5)/\
 bi o (a5.add 2) λq=>
 aJ (σ:=Sl×Int) (λa m h3=>
 Br (a.2<(q.len:Int))
 (aP q a.2 λt=>
 bi h3 (t.add (a.2.toNat*1)) λn=>
 ae xt 139 #[n] bA h3 λe i=>
 aP a.1 e λl=>
 gq .u8 i (l.add (e.toNat*1)) λf=>
 Br (f !=0)
 (∃d,(b=dB d)/\
 jp i d λk=>
 ae xt 207 #[k,(xi xp f),n,a.1] (.many [ct,lK]) i λc u=>
 m ((⟨c.1.ptr,c.1.len,c.1.cap⟩:Sl),qc xo (a.2+1)) u)
 (m ((⟨a.1.ptr,a.1.len,a.1.cap⟩:Sl),qc xo (a.2+1)) i))
 (R (.tuple #[a.1,eR]) h3)) ((⟨j.ptr,j.len,j.cap⟩:Sl),(0:Int)) o)
 (λs=>
 Br (qY b) (R (.tuple #[(xj eH 0 0),eS]) h) (∃p,(b=dB p)/\
 be h (p.add 1) λx2=>
 Br ((g.len:Int) !=x2)
 (R (.tuple #[(xj eH 0 0),eS]) h)
 (s () h)))
theorem HB(a:aO)(b:Sl)(c:@Ay R h a b):ab xt 138 #[a,b] h R:=au ac func138 (aj.tn (.two (.join [] [(4,6),(10,21)] .n) (aj.tn (.two (aj.tn (.inn (.loop [(6,ct),(28,aW)] [(6,7),(8,10),(28,51)] .n))) .n)))) c
end Go.Qw
namespace Go.Qw
open Go Go.Vc Go.Proofs
variable {R:KI} {h:Heap}
noncomputable def MP(a:Sl):Prop:=
 ae xt 208 #[a,(.func (.func 209) #[] #[])] bA h λc b=>
 R c b
theorem TH(a:Sl)(b:@MP R h a):ab xt 139 #[a] h R:=au ac func139 .n b
noncomputable def uV(a:aO):Prop:=
 Br (qY a)
 (R (xk eH) h)
 (∃b,(a=dB b)/\
 jp h b λx2=>
 ∃a3,(a=dB a3)/\
 be h (a3.add 1) λc=>
 ae xt 210 #[a] aI h λf d=>
 (av.ok [(a3.add 1,c),(b,x2)] d)/\
 aQ xt (qO 200 (xn #[x2,c,f])) d λg e=>
 (av.ok [(a3.add 1,c),(b,x2)] e)/\
 R g e)
theorem Gn(a:aO)(b:@uV R h a):ab xt 140 #[a] h R:=au ac func140 .n b
noncomputable def Az(a:aO):Prop:=
 Br (qY a)
 (R (xi xo 0) h)
 (∃b,(a=dB b)/\
 bi h (b.add 2) λx2=>
 R (xi xo (x2.len:Int)) h)
theorem HC(a:aO)(b:@Az R h a):ab xt 141 #[a] h R:=au ac func141 .n b
noncomputable def FN(a:Sl):Prop:=
 Br (qY a.ptr)
 (R (xj eH 0 0) h)
 (aA xt (qp 34 0 #[]) aI h λb c=>
 aA xt (qu #[34,34] 34 #[b,a]) aI c λe d=>
 R e d)
theorem MQ(a:Sl)(b:@FN R h a):ab xt 146 #[a] h R:=au ac func146 .n b
noncomputable def MR(a:Int)(b:Sl):Prop:=
 bg (σ:=Unit) (λ_ g=>
 aA xt (qG 34 (xi xo 64) (xi xo 64)) aI g λc k=>
 aA xt (qp 34 4 #[(0,(xi xp 87)),(1,(xi xp 115)),(2,(xi xp 1)),(3,(xi xp (qc xp a)))]) aI k λv3 h3=>
 aA xt (w8 #[34,34] 3 #[c,v3]) bA h3 λ_ l=>
 (0<=(4:Int)/\(4:Int)<=(c.len:Int))/\
 aA xt (w8 #[34,34] 3 #[(.slice (if c.cap=(4:Int).toNat then c.ptr else c.ptr.map (·.add ((4:Int).toNat*1))) (c.len-(4:Int).toNat) (c.cap-(4:Int).toNat)),b]) bA l λ_ o=>
 (0<=(59:Int)/\(59:Int)<=(c.cap:Int))/\
 ae xt 213 #[(xj c.ptr ((59:Int).toNat) c.cap)] (.one (.sc (.int .u32))) o λi p=>
 aJ (σ:=Int) (λd f e=>
 Br (d<4)
 ((0<=(qc xo (8*d)))/\
 aP c (qc xo (59+d)) λm=>
 af xt (qf 5 (m.add ((qc xo (59+d)).toNat*1)) (xi xp (qc xp (q9 i (2^min (qc xo (8*d)).toNat (ql xq)))))) e λ_ h8=>
 f (qc xo (d+1)) h8)
 (aP c (63:Int) λa9=>
 af xt (qf 5 (a9.add ((63:Int).toNat*1)) (xi xp 165)) e λ_ n=>
 R c n)) (0:Int) p)
 (λj=>
 Br (a<1) (R (xj eH 0 0) h) (Br (a>255) (R (xj eH 0 0) h) (Br ((b.len:Int)>55)
 (R (xj eH 0 0) h)
 (j () h))))
theorem TJ(a:Int)(b:Sl)(c:@MR R h a b):ab xt 147 #[a,b] h R:=au ac func147 (aj.tn (.two (.join [] [(4,5),(8,19)] .n) (aj.tn (aj.tn (aj.tn (aj.tn (.two (aj.tn (.inn (.loop [(32,aW)] [(7,8),(32,45)] .n))) .n))))))) c
noncomputable def uf(a:aO):Prop:=
 Br (!(qY a)) (∃b,(a=dB b)/\
 rT h (b.add 6) λx2=>
 R x2 h) (R eS h)
theorem EJ(a:aO)(b:@uf R h a):ab xt 149 #[a] h R:=au ac func149 .n b
noncomputable def lh(b:Sl)(d:Int):Prop:=
 aJ (σ:=Int) (λa e c=>
 Br (a<(b.len:Int))
 (aP b a λf=>
 be c (f.add (a.toNat*1)) λx3=>
 Br (d==x3)
 (R a c)
 (e (qc xo (a+1)) c))
 (R (xi xo (-1:Int)) c)) (0:Int) h
theorem np(a:Sl)(b:Int)(c:@lh R h a b):ab xt 150 #[a,b] h R:=au ac func150 (aj.tn (.two (aj.tn (.inn (.loop [(8,aW)] [(4,6),(8,19)] .n))) .n)) c
noncomputable def fD(c:Sl)(a:cG):Prop:=
 aJ (σ:=Int) (λb g d=>
 Br (b<(c.len:Int))
 (aP c b λi=>
 ∃x3:iE,an d (i.add (b.toNat*4)) 0 x3/\
 iG C a.1 (a.2.1.toList++[(xn #[x3.1,x3.2.1,x3.2.2.1,x3.2.2.2])]++a.2.2.toList) bK d λf e=>
 Br f
 (R b e)
 (g (qc xo (b+1)) e))
 (R (xi xo (-1:Int)) d)) (0:Int) h
theorem ib(b:Sl)(a:cG)(c:@fD R h b a):ab xt 152 #[b,(.func (.func a.1) a.2.1 a.2.2)] h R:=au ac func152 (aj.tn (.two (aj.tn (.inn (.loop [(8,aW)] [(4,6),(8,19)] .n))) .n)) c
noncomputable def rk(b:iE)(a:fz):Prop:=
 aQ xt (qO 94 b) h λd c=>
 JU c d λx2=>
 JU c a λx3=>
 R (xm (x2.toList==x3.toList)) c
theorem Cy(b:iE)(a:fz)(c:@rk R h b a):ab xt 153 #[b,a] h R:=au ac func153 .n c
noncomputable def pz(b:Int)(a:fz):Prop:=
 jp h a λc=>
 ∃f,(c=dB f)/\
 (0<=b/\b<((64:Nat):Int))/\
 jp h ((f.add 10).add (b.toNat*1)) λx3=>
 jp h a λe=>
 ∃a5,(e=dB a5)/\
 ∃g:dj,an h a5 0 g/\
 ae xt 34 #[x3,g] bK h λi d=>
 (av.ok [(a,e),(a,c)] d)/\
 R i d
theorem Bi(b:Int)(a:fz)(c:@pz R h b a):ab xt 154 #[b,a] h R:=au ac func154 .n c
noncomputable def gD(b:Sl)(a:cG):Prop:=
 ae xt 215 #[b,(.func (.func a.1) a.2.1 a.2.2)] bA h λd c=>
 R (decide (d>=0)) c
theorem kL(b:Sl)(a:cG)(c:@gD R h b a):ab xt 155 #[b,(.func (.func a.1) a.2.1 a.2.2)] h R:=au ac func155 .n c
noncomputable def AA(b:Int×Sl)(a:fz):Prop:=
 aQ xt (qO 117 b) h λf c=>
 ∃x2:bR,an c a 0 x2/\
 ∃x3:Int×Sl,an c f 0 x3/\
 ae xt 157 #[x2,x3] bK c λd e=>
 R (xm (!d)) e
theorem HD(b:Int×Sl)(a:fz)(c:@AA R h b a):ab xt 156 #[b,a] h R:=au ac func156 .n c
noncomputable def Dr(b:bR)(d:Int×Sl):Prop:=
 aQ xt (qO 24 b) h λi f=>
 aQ xt (qO 117 d) f λc a=>
 be a c λx3=>
 Br (x3>=0) (be a c λg=>
 Br (g<=65535) (bi a (c.add 1) λe=>
 be a (i.add 2) λj=>
 R (xm ((e.len:Int)==j)) a) (R eS a)) (R eS a)
theorem Lj(b:bR)(a:Int×Sl)(c:@Dr R h b a):ab xt 157 #[b,a] h R:=au ac func157 .n c
noncomputable def FO(f:bR)(a:Int)(c:Sl):Prop:=
 aQ xt (qO 24 f) h λd g=>
 ∃x2:bR,an g d 0 x2/\
 ae xt 40 #[x2] bK g λl b=>
 (av.ok [] b)/\
 Br l (∃i:bR,an b d 0 i/\
 ∃e:bR,an b d 0 e/\
 ae xt 20 #[i,(xi xq a),c] bA b λk h3=>
 (av.ok [(d,e.1),(d.add 1,e.2.1),(d.add 2,e.2.2)] h3)/\
 ae xt 21 #[e] bA h3 λm j=>
 (av.ok [] j)/\
 R (xm (k==m)) j) ((av.ok [] b)/\
 (av.ok [] b)/\
 R eS b)
theorem MS(c:bR)(a:Int)(b:Sl)(d:@FO R h c a b):ab xt 158 #[c,(xi xq a),b] h R:=au ac func158 .n d
noncomputable def HE(b:Sl):Prop:=
 aJ (σ:=Sl×Int) (λa g c=>
 Br (a.2<(b.len:Int))
 (aP b a.2 λi=>
 ∃x3:Int×Sl,an c (i.add (a.2.toNat*2)) 0 x3/\
 aQ xt (qP 117 eR (.tuple #[])) c λa4 k=>
 af xt (qf 117 a4 x3) k λ_ h3=>
 be h3 a4 λe=>
 aA xt (qp 22 1 #[(0,e)]) aI h3 λj l=>
 aA xt (qu #[22,22] 22 #[a.1,j]) aI l λd f=>
 g ((⟨d.ptr,d.len,d.cap⟩:Sl),qc xo (a.2+1)) f)
 (R a.1 c)) ((⟨eH,0,0⟩:Sl),(0:Int)) h
theorem OS(a:Sl)(b:@HE R h a):ab xt 159 #[a] h R:=au ac func159 (aj.tn (aj.tn (.two (aj.tn (.inn (.loop [(3,ct),(8,aW)] [(3,4),(5,6),(8,18)] .n))) .n))) b
noncomputable def HG(M:bR)(g:Int)(y:Sl):Prop:=
 aQ xt (qO 24 M) h λi h1=>
 aJ (σ:=Sl×Int) (λl K1 A=>
 Br (l.2<(y.len:Int))
 (aP y l.2 λa3=>
 ∃Y:Int×Sl,an A (a3.add (l.2.toNat*2)) 0 Y/\
 aQ xt (qP 117 eR (.tuple #[])) A λa5 h3=>
 af xt (qf 117 a5 Y) h3 λ_ B=>
 ∃X:bR,an B i 0 X/\
 be B a5 λx7=>
 bi B (a5.add 1) λD=>
 ae xt 161 #[X,(xi xq g),x7] aI B λr9 h5=>
 (av.ok [(a5.add 1,D)] h5)/\
 aA xt (qp 273 1 #[(0,(xn #[r9,D]))]) aI h5 λG h6=>
 (av.ok [(a5.add 1,D)] h6)/\
 aA xt (qu #[273,273] 273 #[l.1,G]) aI h6 λj W=>
 (av.ok [(a5.add 1,D)] W)/\
 K1 ((⟨j.ptr,j.len,j.cap⟩:Sl),qc xo (l.2+1)) W)
 (bg (σ:=aO) (λa w=>
 ∃p:bR,an w i 0 p/\
 ae xt 21 #[p] bA w λU P=>
 ae xt 216 #[U,l.1] (.many [ct,ct,ct,aW]) P λd x=>
 Br (d.2.2.2 !=0)
 (R (.tuple #[(xj eH 0 0),(xi xo 10)]) x)
 (∃t,(a=dB t)/\
 af xt (qf 85 (t.add 4) d.2.1) x λ_ N=>
 ∃s,(a=dB s)/\
 af xt (qf 273 (s.add 5) d.2.2.1) N λ_ J=>
 ae xt 217 #[a,d.1] iV J λ_ Q=>
 ae xt 218 #[a] iV Q λ_ V=>
 ae xt 219 #[a] iV V λ_ T=>
 ae xt 220 #[a] (.many [ct,ct]) T λe c=>
 ∃a25,(a=dB a25)/\
 bi c ((a25.add 6).add 1) λS=>
 Br ((S.len:Int)==0)
 (aJ (σ:=Int) (λf K3 k=>
 Br (f<(e.2.len:Int))
 (aP e.2 f λa28=>
 bi k (a28.add (f.toNat*1)) λI=>
 ae xt 221 #[I,aaP] aI k λO o=>
 Br ((O.len:Int)>0)
 (R (.tuple #[(xj eH 0 0),(xi xo 10)]) o)
 (K3 (qc xo (f+1)) o))
 (ae xt 222 #[a,(xj eH 0 0)] iV k λ_ z=>
 ∃n,(a=dB n)/\
 bi z (n.add 4) λE=>
 R (.tuple #[E,(xi xo 0)]) z)) (0:Int) c)
 (∃v,(a=dB v)/\
 jp c v λH=>
 ae xt 175 #[H,e.1,e.2] (.many [ct,aW]) c λm q=>
 Br (m.2 !=0)
 (R (.tuple #[(xj eH 0 0),(xi xo 10)]) q)
 (ae xt 222 #[a,m.1] iV q λ_ u=>
 ∃r,(a=dB r)/\
 bi u (r.add 4) λK=>
 R (.tuple #[K,(xi xo 0)]) u))))
 (λK2=>
 ∃b:bR,an A i 0 b/\
 ae xt 65 #[] jP A λF h8=>
 (av.ok [(i,b.1),(i.add 1,b.2.1),(i.add 2,b.2.2)] h8)/\
 aQ xt (qO 281 (xn #[F,b.1,b.2.1,b.2.2,(xj eH 0 0),(xj eH 0 0),(xj eH 0 0),(xj eH 0 0),(xj eH 0 0),(xj eH 0 0),(xj eH 0 0)])) h8 λL Z=>
 (av.ok [(i,b.1),(i.add 1,b.2.1),(i.add 2,b.2.2)] Z)/\
 K2 (dB L) Z))) ((⟨eH,0,0⟩:Sl),(0:Int)) h1
theorem OT(b:bR)(a:Int)(c:Sl)(d:@HG R h b a c):ab xt 160 #[b,(xi xq a),c] h R:=au ac func160 (aj.tn (.fwd (aj.tn (.two (aj.tn (.inn (.loop [(8,ct),(23,aW)] [(8,9),(10,11),(23,39)] .n))) (.two (.join [(11,Db)] [(11,12),(39,43)] .n) .n))) [(0,[.n]),(1,[(.two (aj.tn (.inn (.loop [(95,aW)] [(20,21),(95,104)] .n))) .n)]),(2,[.n])])) d
noncomputable def Qe(f:bR)(b:Int)(a:Int):Prop:=
 aQ xt (qO 24 f) h λl j=>
 bg (σ:=Unit) (λ_ h3=>
 ∃i:bR,an h3 l 0 i/\
 ae xt 21 #[i] bA h3 λk q=>
 ae xt 223 #[(xi xq (qc xq ((qF (ql xq) b^^^(qF (ql xq) (qc xq ((qc xq a)*2654435761)))).toNat:Nat)))] jP q λg s=>
 ae xt 224 #[g] (.one (.sc (.int .u32))) s λ_ t=>
 ae xt 226 #[k] aI t λm n=>
 ae xt 225 #[m,g] bA n λd h8=>
 ae xt 227 #[g,k,d] aI h8 λe r=>
 R e r)
 (λo=>
 ∃x2:bR,an j l 0 x2/\
 ae xt 40 #[x2] bK j λp c=>
 Br (!p) (R (xj eH 0 0) c) (Br (a<0) (R (xj eH 0 0) c) (Br (a>65535)
 (R (xj eH 0 0) c)
 (o () c))))
theorem VF(c:bR)(a:Int)(b:Int)(d:@Qe R h c a b):ab xt 161 #[c,(xi xq a),b] h R:=au ac func161 (aj.tn (.two (.join [] [(6,7),(10,21)] .n) .n)) d
noncomputable def FP(c:Int)(a:Int)(b:Int):Prop:=
 Br (c>=a) (R (decide (c<=b)) h) (R eS h)
theorem MT(c:Int)(a:Int)(b:Int)(d:@FP R h c a b):ab xt 162 #[c,a,b] h R:=au ac func162 .n d
noncomputable def Kh(c:Sl)(a:Int):Prop:=
 aJ (σ:=Int) (λb f e=>
 Br (b<(c.len:Int))
 (aP c b λi=>
 be e (i.add (b.toNat*1)) λx3=>
 ae xt 162 #[x3,(xi xo 0),a] bK e λg d=>
 Br (!g) (R eS d) (Br (b>0) (aP c (qc xo (b-1)) λa5=>
 be d (a5.add ((qc xo (b-1)).toNat*1)) λj=>
 Br (j>=x3)
 (R eS d)
 (f (qc xo (b+1)) d)) (f (qc xo (b+1)) d)))
 (R eR e)) (0:Int) h
theorem Ru(b:Sl)(a:Int)(c:@Kh R h b a):ab xt 163 #[b,a] h R:=au ac func163 (aj.tn (.two (aj.tn (.inn (.loop [(9,aW)] [(4,7),(9,32)] .n))) .n)) c
noncomputable def HI(i:dj)(n:iE):Prop:=
 aQ xt (qO 44 i) h λf u=>
 aQ xt (qO 94 n) u λa p=>
 bg (σ:=Unit) (λ_ r=>
 bi r (a.add 3) λg=>
 ae xt 116 #[g,(.func (.func 228) #[] #[])] bK r λm b=>
 Br (!m) (bi b (a.add 3) λe=>
 ∃c:bR,an b (f.add 2) 0 c/\
 be b (a.add 2) λo=>
 ae xt 48 #[c,o] bA b λj h8=>
 (av.ok [(a.add 3,e)] h8)/\
 R (xm ((e.len:Int)==j)) h8) ((av.ok [] b)/\
 R eS b))
 (λv=>
 JU p a λx3=>
 ae xt 104 #[x3] bK p λw h3=>
 Br (!w) (R eS h3) (be h3 (a.add 1) λs=>
 be h3 (f.add 1) λy=>
 ae xt 162 #[s,(xi xo 0),(qc xo (y-1))] bK h3 λx d=>
 Br (!x) (R eS d) (be d (a.add 2) λz=>
 be d (f.add 2) λt=>
 be d ((f.add 2).add 2) λk=>
 ae xt 162 #[z,(xi xo 0),(qc xo ((qc xo (t*k))*8))] bK d λl q=>
 Br (!l)
 (R eS q)
 (v () q))))
theorem OU(b:dj)(a:iE)(c:@HI R h b a):ab xt 164 #[b,a] h R:=au ac func164 (aj.tn (.two (.join [] [(4,5),(6,33)] .n) .n)) c
noncomputable def fd(b:Sl)(a:cG):Prop:=
 ae xt 152 #[b,(.func (.func a.1) a.2.1 a.2.2)] bA h λd c=>
 R (decide (d>=0)) c
theorem gE(b:Sl)(a:cG)(c:@fd R h b a):ab xt 165 #[b,(.func (.func a.1) a.2.1 a.2.2)] h R:=au ac func165 .n c
noncomputable def HJ(c:iE)(a:fz):Prop:=
 aQ xt (qO 94 c) h λd b=>
 be b (d.add 1) λx2=>
 be b (a.add 1) λx3=>
 R (xm (x2==x3)) b
theorem OV(b:iE)(a:fz)(c:@HJ R h b a):ab xt 166 #[b,a] h R:=au ac func166 .n c
noncomputable def Ki(b:Sl):Prop:=
 aJ (σ:=Sl×Int) (λa g c=>
 Br (a.2<(b.len:Int))
 (aP b a.2 λi=>
 bi c (i.add (a.2.toNat*1)) λx3=>
 ae xt 146 #[x3] aI c λe j=>
 aA xt (qp 85 1 #[(0,e)]) aI j λv5 h3=>
 aA xt (qu #[85,85] 85 #[a.1,v5]) aI h3 λd f=>
 g ((⟨d.ptr,d.len,d.cap⟩:Sl),qc xo (a.2+1)) f)
 (R a.1 c)) ((⟨eH,0,0⟩:Sl),(0:Int)) h
theorem Rv(a:Sl)(b:@Ki R h a):ab xt 167 #[a] h R:=au ac func167 (aj.tn (aj.tn (.two (aj.tn (.inn (.loop [(3,ct),(8,aW)] [(3,4),(5,6),(8,18)] .n))) .n))) b
noncomputable def kr(c:Sl)(a:cG):Prop:=
 aJ (σ:=Int) (λb g d=>
 Br (b<(c.len:Int))
 (aP c b λi=>
 bi d (i.add (b.toNat*1)) λx3=>
 iG C a.1 (a.2.1.toList++[(xj x3.ptr x3.len x3.cap)]++a.2.2.toList) bK d λf e=>
 Br f
 (R b e)
 (g (qc xo (b+1)) e))
 (R (xi xo (-1:Int)) d)) (0:Int) h
theorem oy(b:Sl)(a:cG)(c:@kr R h b a):ab xt 168 #[b,(.func (.func a.1) a.2.1 a.2.2)] h R:=au ac func168 (aj.tn (.two (aj.tn (.inn (.loop [(8,aW)] [(4,6),(8,19)] .n))) .n)) c
noncomputable def FQ(a:Sl)(d:Int)(b:Int):Prop:=
 aJ (σ:=Sl×Int) (λc f e=>
 Br (c.2>=0)
 ((0<=(qc xo (8*c.2)))/\
 aA xt (qp 34 1 #[(0,(xi xp (qc xp (q9 d (2^min (qc xo (8*c.2)).toNat (ql xo))))))]) aI e λi g=>
 aA xt (qu #[34,34] 34 #[c.1,i]) aI g λv3 h3=>
 f ((⟨v3.ptr,v3.len,v3.cap⟩:Sl),qc xo (c.2-1)) h3)
 (R c.1 e)) ((⟨a.ptr,a.len,a.cap⟩:Sl),qc xo (b-1)) h
theorem MU(b:Sl)(c:Int)(a:Int)(d:@FQ R h b c a):ab xt 169 #[b,c,a] h R:=au ac func169 (aj.tn (.two (aj.tn (.inn (.loop [(0,ct),(7,aW)] [(0,1),(7,8),(10,22)] .n))) .n)) d
noncomputable def ug(a:aO):Prop:=
 ae xt 121 #[a] bK h λn b=>
 Br (!n)
 (R eS b)
 (∃f,(a=dB f)/\
 rT b (f.add 1) λx3=>
 Br (!x3)
 (R eR b)
 (∃a4,(a=dB a4)/\
 be b (a4.add 2) λk=>
 Br (k==0)
 (∃j,(a=dB j)/\
 af xt (qf 4 j eR) b λ_ g=>
 ∃i,(a=dB i)/\
 be g (i.add 3) λm=>
 ∃a9,(a=dB a9)/\
 af xt (qf 3 (a9.add 3) (qc xo (m+1))) g λ_ h3=>
 R eS h3)
 (∃d,(a=dB d)/\
 be b (d.add 2) λe=>
 ∃c,(a=dB c)/\
 af xt (qf 3 (c.add 2) (qc xo (e-1))) b λ_ l=>
 R eR l)))
theorem EK(a:aO)(b:@ug R h a):ab xt 170 #[a] h R:=au ac func170 .n b
noncomputable def uh(a:aO):Prop:=
 ∃c,(a=dB c)/\
 af xt (qf 85 (c.add 4) (xj eH 0 0)) h λ_ d=>
 ∃b,(a=dB b)/\
 af xt (qf 4 (b.add 5) eS) d λ_ e=>
 R (xi xo 0) e
theorem EL(a:aO)(b:@uh R h a):ab xt 171 #[a] h R:=au ac func171 .n b
noncomputable def nr(a:aO):Prop:=
 bg (σ:=Unit) (λ_ b=>
 ∃a4,(a=dB a4)/\
 jp b a4 λf=>
 ae xt 170 #[f] bK b λg c=>
 Br (!g)
 (R (xi xo 14) c)
 (∃d,(a=dB d)/\
 af xt (qf 3 (d.add 3) (xi xo 0)) c λ_ h3=>
 ae xt 171 #[a] bA h3 λj k=>
 R j k))
 (λi=>
 Br (qY a) (R (xi xo 5) h) (∃e,(a=dB e)/\
 rT h (e.add 6) λx2=>
 Br x2
 (R (xi xo 5) h)
 (i () h)))
theorem rn(a:aO)(b:@nr R h a):ab xt 173 #[a] h R:=au ac func173 (aj.tn (.two (.join [] [(2,11)] .n) .n)) b
noncomputable def Ds(c:bR)(a:Int):Prop:=
 aQ xt (qO 24 c) h λb d=>
 ∃x2:bR,an d b 0 x2/\
 ∃x3:bR,an d b 0 x3/\
 ae xt 176 #[x3] aI d λg e=>
 (av.ok [(b,x2.1),(b.add 1,x2.2.1),(b.add 2,x2.2.2)] e)/\
 ae xt 158 #[x2,(xi xq a),g] bK e λf h3=>
 (av.ok [] h3)/\
 R f h3
theorem Lk(b:bR)(a:Int)(c:@Ds R h b a):ab xt 174 #[b,(xi xq a)] h R:=au ac func174 .n c
noncomputable def Cz(t:aO)(f:Sl)(j:Sl):Prop:=
 bg (σ:=Unit) (λ_ h3=>
 ae xt 204 #[f] bA h3 λg P=>
 ae xt 201 #[f] aI P λd S=>
 aJ (σ:=Int) (λi I r=>
 Br (i<(d.len:Int))
 (aP d i λO=>
 bi r (O.add (i.toNat*1)) λT=>
 aP j i λa9=>
 bi r (a9.add (i.toNat*1)) λy=>
 aA xt (qu #[34,34] 34 #[T,y]) aI r λv G=>
 (av.ok [] G)/\
 aP d i λu=>
 af xt (qf 34 (u.add (i.toNat*1)) v) G λ_ h8=>
 (av.ok [] h8)/\
 I (qc xo (i+1)) h8)
 (ae xt 203 #[t] jP r λF Q=>
 ae xt 202 #[F,d,g] bA Q λa p=>
 Br (a<g)
 (R (.tuple #[(xj eH 0 0),(xi xo 9)]) p)
 ((0<=a/\a<=(d.len:Int))/\
 aJ (σ:=Int) (λe N m=>
 Br (decide (e<(((d.len-a.toNat):Nat):Int)))
 (∃n:fz,((if d.cap=a.toNat then d.ptr else d.ptr.map (·.add (a.toNat*1)))=dB n/\0<=e/\e<(((d.len-a.toNat):Nat):Int))/\
 bi m (n.add (e.toNat*1)) λB=>
 ae xt 139 #[B] bA m λx q=>
 Br (x>=0)
 (R (.tuple #[(xj eH 0 0),(xi xo 10)]) q)
 (N (qc xo (e+1)) q))
 ((0<=a/\a<=(d.cap:Int))/\
 aJ (σ:=Sl×Int) (λb L k=>
 Br (b.2<(a.toNat:Int))
 (∃o,(d.ptr=dB o/\0<=b.2/\b.2<(a.toNat:Int))/\
 bi k (o.add (b.2.toNat*1)) λc=>
 (0<=g/\g<=(c.len:Int))/\
 ae xt 146 #[(.slice (if c.cap=g.toNat then c.ptr else c.ptr.map (·.add (g.toNat*1))) (c.len-g.toNat) (c.cap-g.toNat))] aI k λz w=>
 aA xt (qp 85 1 #[(0,z)]) aI w λD A=>
 aA xt (qu #[85,85] 85 #[b.1,D]) aI A λl E=>
 L ((⟨l.ptr,l.len,l.cap⟩:Sl),qc xo (b.2+1)) E)
 (R (.tuple #[b.1,(xi xo 0)]) k)) ((⟨eH,0,0⟩:Sl),(0:Int)) m)) (0:Int) p))) (0:Int) S)
 (λK=>
 ae xt 200 #[f] bK h λM H=>
 Br (!M) (R (.tuple #[(xj eH 0 0),(xi xo 1)]) H) (ae xt 200 #[j] bK H λJ s=>
 Br (!J) (R (.tuple #[(xj eH 0 0),(xi xo 1)]) s) (Br ((f.len:Int) !=(j.len:Int)) (R (.tuple #[(xj eH 0 0),(xi xo 1)]) s) (Br ((f.len:Int)==0)
 (R (.tuple #[(xj eH 0 0),(xi xo 1)]) s)
 (K () s)))))
theorem FR(b:aO)(c:Sl)(a:Sl)(d:@Cz R h b c a):ab xt 175 #[b,c,a] h R:=au ac func175 (aj.tn (.two (.join [] [(6,8),(17,37)] .n) (aj.tn (aj.tn (.two (aj.tn (.inn (.loop [(43,aW)] [(10,11),(43,59)] .n))) (aj.tn (aj.tn (.two (aj.tn (.inn (.loop [(71,aW)] [(6,8),(13,14),(71,79)] .n))) (aj.tn (.two (aj.tn (.inn (.loop [(14,ct),(83,aW)] [(14,15),(16,17),(83,95)] .n))) .n)))))))))) d
noncomputable def Dt(b:bR):Prop:=
 aQ xt (qO 24 b) h λg c=>
 be c g λx2=>
 aJ (σ:=Sl×Int) (λa e d=>
 Br (decide (a.2<(if(if(16:Int)<x2 then(16:Int)else x2)>(0:Int)then(if(16:Int)<x2 then(16:Int)else x2)else(0:Int))))
 (aA xt (qp 22 1 #[(0,a.2)]) aI d λv4 h3=>
 aA xt (qu #[22,22] 22 #[a.1,v4]) aI h3 λv5 f=>
 e ((⟨v5.ptr,v5.len,v5.cap⟩:Sl),qc xo (a.2+1)) f)
 (R a.1 d)) ((⟨eH,0,0⟩:Sl),(0:Int)) c
theorem Ll(a:bR)(b:@Dt R h a):ab xt 176 #[a] h R:=au ac func176 (aj.tn (aj.tn (.two (aj.tn (.inn (.loop [(3,ct),(9,aW)] [(3,5),(9,17)] .n))) .n))) b
noncomputable def MV(a:Int):Prop:=
 Br (a<0) (R (.complex .f64 0 0) h) (Br (a>=4096)
 (R (.complex .f64 0 0) h)
 (ae xt 229 #[] jP h λe f=>
 aJ (σ:=Int) (λd g c=>
 Br (d==a)
 (∃a3,(e=dB a3)/\
 ∃b:Nat×Nat,cellOf c a3=dB (.complex .f64 b.1 b.2)/\
 R (.complex .f64 b.1 b.2) c)
 (ae xt 230 #[e] iV c λ_ h3=>
 g (qc xo (d+1)) h3)) (0:Int) f))
theorem TK(a:Int)(b:@MV R h a):ab xt 177 #[a] h R:=au ac func177 (aj.tn (.scope 0 [(4,aW)] [(2,3),(4,5),(12,23)] [.n,.n,.n] [.n] [])) b
noncomputable def Kj(b:Nat×Nat)(c:Nat×Nat):Prop:=
 ∃a:Nat×Nat,(kB xt .sub 235 (.tmp 6) (.tmp 7) (.complex .f64 b.1 b.2) (.complex .f64 c.1 c.2) (.complex .f64 a.1 a.2))/\
 ∃f:Nat,((FloatKind.format .f64).mul a.1 a.1=dB f)/\
 ∃e:Nat,((FloatKind.format .f64).mul a.2 a.2=dB e)/\
 ∃d:Nat,((FloatKind.format .f64).add f e=dB d)/\
 R (.float .f64 d) h
theorem Rw(a:Nat×Nat)(b:Nat×Nat)(c:@Kj R h a b):ab xt 178 #[(.complex .f64 a.1 a.2),(.complex .f64 b.1 b.2)] h R:=au ac func178 .n c
noncomputable def BS(a:Int×Nat)(b:Int×Nat):Prop:=
 aQ xt (qO 242 (xn #[a.1,(.float .f64 a.2)])) h λf n=>
 aQ xt (qO 242 (xn #[b.1,(.float .f64 b.2)])) n λe c=>
 ∃x3:Nat,cellOf c (f.add 1)=dB (.float .f64 x3)/\
 ∃j:Nat,cellOf c (e.add 1)=dB (.float .f64 j)/\
 be c f λg=>
 be c e λm=>
 ae xt 182 #[(.float .f64 x3),(.float .f64 j)] bA c λo h3=>
 (av.ok [(e,m),(f,g)] h3)/\
 ae xt 183 #[g,m] bA h3 λp k=>
 (av.ok [] k)/\
 aA xt (qp 22 2 #[(0,o),(1,p)]) aI k λv9 l=>
 (av.ok [] l)/\
 ae xt 181 #[v9] bA l λd i=>
 (av.ok [] i)/\
 R d i
theorem JG(a:Int×Nat)(b:Int×Nat)(c:@BS R h a b):ab xt 180 #[(xn #[a.1,(.float .f64 a.2)]),(xn #[b.1,(.float .f64 b.2)])] h R:=au ac func180 .n c
noncomputable def AB(a:Sl):Prop:=
 aJ (σ:=Int) (λb d c=>
 Br (b<(a.len:Int))
 (aP a b λe=>
 be c (e.add (b.toNat*1)) λx3=>
 Br (x3 !=0)
 (R x3 c)
 (d (qc xo (b+1)) c))
 (R (xi xo 0) c)) (0:Int) h
theorem Du(a:Sl)(b:@AB R h a):ab xt 181 #[a] h R:=au ac func181 (aj.tn (aj.tn (.two (aj.tn (.inn (.loop [(8,aW)] [(2,3),(5,6),(8,17)] .n))) .n))) b
noncomputable def pA(a:Nat)(b:Nat):Prop:=
 ae xt 232 #[(.float .f64 a)] bK h λf e=>
 ae xt 232 #[(.float .f64 b)] bK e λd c=>
 Br f
 (Br d
 (R (xi xo 0) c)
 (R (xi xo (-1:Int)) c))
 (Br d
 (R (xi xo 1) c)
 (Br ((FloatKind.format .f64).order a b==dB .lt)
 (R (xi xo (-1:Int)) c)
 (Br ((FloatKind.format .f64).order a b==dB .gt)
 (R (xi xo 1) c)
 (R (xi xo 0) c))))
theorem Bj(a:Nat)(b:Nat)(c:@pA R h a b):ab xt 182 #[(.float .f64 a),(.float .f64 b)] h R:=au ac func182 .n c
noncomputable def nY(a:Int)(b:Int):Prop:=
 ae xt 233 #[a] bK h λf e=>
 ae xt 233 #[b] bK e λd c=>
 Br f
 (Br d
 (R (xi xo 0) c)
 (R (xi xo (-1:Int)) c))
 (Br d
 (R (xi xo 1) c)
 (Br (a<b)
 (R (xi xo (-1:Int)) c)
 (Br (a>b)
 (R (xi xo 1) c)
 (R (xi xo 0) c))))
theorem se(a:Int)(b:Int)(c:@nY R h a b):ab xt 183 #[a,b] h R:=au ac func183 .n c
noncomputable def HK(e:fh):Prop:=
 aQ xt (qO 170 e) h λb a=>
 bg (σ:=Bool) (λn g=>
 Br n (∃j:bR,an g (b.add 3) 0 j/\
 ae xt 40 #[j] bK g λd h3=>
 Br d (bi h3 (b.add 7) λi=>
 be h3 ((b.add 3).add 2) λf=>
 R (xm ((i.len:Int)==f)) h3) (R eS h3)) (R eS g))
 (λc=>
 be a b λx2=>
 Br (x2>=0) (be a b λx3=>
 Br (x3<=16777215) (be a (b.add 1) λm=>
 Br (m>=0) (be a (b.add 1) λk=>
 Br (k<8) (be a (b.add 2) λo=>
 Br (o>=0) (be a (b.add 2) λl=>
 c (decide (l<=65535)) a) (c eS a)) (c eS a)) (c eS a)) (c eS a)) (c eS a))
theorem OW(a:fh)(b:@HK R h a):ab xt 184 #[a] h R:=au ac func184 (aj.tn (.two (.join [(3,lK)] [(3,32)] .n) .n)) b
noncomputable def BU(a:Sl)(d:Int)(b:Int):Prop:=
 aJ (σ:=Sl×Int) (λc f e=>
 Br (c.2>=0)
 ((0<=(qc xo (8*c.2)))/\
 aA xt (qp 34 1 #[(0,(xi xp (qc xp (q9 d (2^min (qc xo (8*c.2)).toNat (ql xo))))))]) aI e λi g=>
 aA xt (qu #[34,34] 34 #[c.1,i]) aI g λv3 h3=>
 f ((⟨v3.ptr,v3.len,v3.cap⟩:Sl),qc xo (c.2-1)) h3)
 (R c.1 e)) ((⟨a.ptr,a.len,a.cap⟩:Sl),qc xo (b-1)) h
theorem JH(b:Sl)(c:Int)(a:Int)(d:@BU R h b c a):ab xt 185 #[b,c,a] h R:=au ac func185 (aj.tn (.two (aj.tn (.inn (.loop [(0,ct),(7,aW)] [(0,1),(7,8),(10,22)] .n))) .n)) d
noncomputable def jQ(b:Sl)(B:Int)(w:Int)(g:Int)(a:cG):Prop:=
 aJ (σ:=Tu5) (λc v p=>
 Br ((qc xo (c.2.1-c.1))<=12)
 (ae xt 234 #[b,c.1,c.2.1,(.func (.func a.1) a.2.1 a.2.2)] iV p λ_ M=>
 R (.tuple #[]) M)
 (Br (c.2.2.1==0)
 (ae xt 235 #[b,c.1,c.2.1,(.func (.func a.1) a.2.1 a.2.2)] iV p λ_ h3=>
 R (.tuple #[]) h3)
 (bg (σ:=Int) (λk P=>
 ae xt 237 #[b,c.1,c.2.1,(.func (.func a.1) a.2.1 a.2.2)] (.many [aW,aW]) P λq J=>
 bg (σ:=Int×Int) (λo h8=>
 bg (σ:=Unit) (λ_ i=>
 bg (σ:=Int) (λf u=>
 ae xt 241 #[b,f,c.2.1,o.1,(.func (.func a.1) a.2.1 a.2.2)] (.many [aW,lK]) u λd m=>
 ((8:Int)≠0)/\
 Br ((qc xo (d.1-f))<(qc xo (c.2.1-d.1)))
 (ae xt 186 #[b,f,d.1,k,(.func (.func a.1) a.2.1 a.2.2)] iV m λ_ E=>
 v (qc xo (d.1+1),c.2.1,k,decide ((qc xo (d.1-f))>=(qc xo (yc (qc xo (c.2.1-c.1)) 8))),d.2) E)
 (ae xt 186 #[b,(qc xo (d.1+1)),c.2.1,k,(.func (.func a.1) a.2.1 a.2.2)] iV m λ_ z=>
 v (f,d.1,k,decide ((qc xo (c.2.1-d.1))>=(qc xo (yc (qc xo (c.2.1-c.1)) 8))),d.2) z))
 (λO=>
 bg (σ:=Bool) (λx n=>
 Br x
 (ae xt 240 #[b,c.1,c.2.1,o.1,(.func (.func a.1) a.2.1 a.2.2)] bA n λA y=>
 v (A,c.2.1,k,c.2.2.2.1,c.2.2.2.2) y)
 (O c.1 n))
 (λG=>
 Br (c.1>0) (aP b (qc xo (c.1-1)) λD=>
 ∃e:iE,an i (D.add ((qc xo (c.1-1)).toNat*4)) 0 e/\
 aP b o.1 λs=>
 ∃j:iE,an i (s.add (o.1.toNat*4)) 0 j/\
 iG C a.1 (a.2.1.toList++[(xn #[e.1,e.2.1,e.2.2.1,e.2.2.2]),(xn #[j.1,j.2.1,j.2.2.1,j.2.2.2])]++a.2.2.toList) bA i λt l=>
 (av.ok [] l)/\
 G (!(decide (t<0))) l) ((av.ok [] i)/\
 G eS i))))
 (λr=>
 Br c.2.2.2.1 (Br c.2.2.2.2 (Br (o.2==1)
 (ae xt 239 #[b,c.1,c.2.1,(.func (.func a.1) a.2.1 a.2.2)] bK h8 λK I=>
 Br K
 (R (.tuple #[]) I)
 (r () I))
 (r () h8)) (r () h8)) (r () h8)))
 (λH=>
 Br (q.2==2)
 (ae xt 238 #[b,c.1,c.2.1,(.func (.func a.1) a.2.1 a.2.2)] iV J λ_ L=>
 H (qc xo ((qc xo (c.2.1-1))-(qc xo (q.1-c.1))),(1:Int)) L)
 (H (q.1,q.2) J)))
 (λF=>
 Br (!c.2.2.2.1)
 (ae xt 236 #[b,c.1,c.2.1,(.func (.func a.1) a.2.1 a.2.2)] iV p λ_ N=>
 F (qc xo (c.2.2.1-1)) N)
 (F c.2.2.1 p))))) (B,w,g,eR,eR) h
theorem nI(c:Sl)(d:Int)(e:Int)(b:Int)(a:cG)(f:@jQ R h c d e b a):ab xt 186 #[c,d,e,b,(.func (.func a.1) a.2.1 a.2.2)] h R:=au ac func186 (aj.tn (aj.tn (.inn (.loop [(1,aW),(2,aW),(3,aW),(10,lK),(11,lK)] [(1,4),(10,148)] (.inn (aj.tn (aj.tn (aj.tn (.two (.join [(3,aW)] [(3,4),(38,47)] .n) (aj.tn (.two (.join [(13,aW),(14,aW)] [(13,15),(55,68)] .n) (.two (.join [] [(68,81)] .n) (.two (.join [(1,aW)] [(1,2),(15,16),(81,105)] (.two (.join [(97,lK)] [(81,98)] .n) .n)) .n))))))))))))) f
noncomputable def ui(a:ByteArray):Prop:=
 R (xm (!(a.toList==a.toList))) h
theorem EM(a:ByteArray)(b:@ui R h a):ab xt 188 #[a] h R:=au ac func188 .n b
noncomputable def gA(c:Sl)(a:cG):Prop:=
 aJ (σ:=Int) (λb g d=>
 Br (b<(c.len:Int))
 (aP c b λi=>
 be d (i.add (b.toNat*1)) λx3=>
 iG C a.1 (a.2.1.toList++[(xi xo x3)]++a.2.2.toList) bK d λf e=>
 Br f
 (R b e)
 (g (qc xo (b+1)) e))
 (R (xi xo (-1:Int)) d)) (0:Int) h
theorem iS(b:Sl)(a:cG)(c:@gA R h b a):ab xt 189 #[b,(.func (.func a.1) a.2.1 a.2.2)] h R:=au ac func189 (aj.tn (.two (aj.tn (.inn (.loop [(8,aW)] [(4,6),(8,19)] .n))) .n)) c
noncomputable def FS(c:aO)(a:Int)(b:Int):Prop:=
 ae xt 244 #[c] bA h λe d=>
 R (decide ((if(0:Int)>b then(0:Int)else b)<=(qc xo (e-a)))) d
theorem MW(c:aO)(a:Int)(b:Int)(d:@FS R h c a b):ab xt 190 #[c,a,b] h R:=au ac func190 .n d
noncomputable def uW(a:aO):Prop:=
 Br (qY a)
 (R (xi xo 0) h)
 (∃b,(a=dB b)/\
 bi h (b.add 2) λx2=>
 R (xi xo (x2.len:Int)) h)
theorem Gp(a:aO)(b:@uW R h a):ab xt 191 #[a] h R:=au ac func191 .n b
noncomputable def HL(e:aO)(d:dj):Prop:=
 aQ xt (qO 44 d) h λr f=>
 ∃x2:dj,an f r 0 x2/\
 ae xt 130 #[e,x2] aI f λg p=>
 aJ (σ:=Sl×Int) (λb o h3=>
 Br (b.2<(g.len:Int))
 (aP g b.2 λa5=>
 ∃j:fh,an h3 (a5.add (b.2.toNat*8)) 0 j/\
 aQ xt (qP 170 eR (.tuple #[])) h3 λi q=>
 af xt (qf 170 i j) q λ_ k=>
 ∃l:fh,an k i 0 l/\
 ae xt 112 #[l] aI k λm s=>
 aA xt (qp 85 1 #[(0,m)]) aI s λc n=>
 aA xt (qu #[85,85] 85 #[b.1,c]) aI n λa h8=>
 o ((⟨a.ptr,a.len,a.cap⟩:Sl),qc xo (b.2+1)) h8)
 (R b.1 h3)) ((⟨eH,0,0⟩:Sl),(0:Int)) p
theorem OX(b:aO)(a:dj)(c:@HL R h b a):ab xt 192 #[b,a] h R:=au ac func192 (aj.tn (aj.tn (.two (aj.tn (.inn (.loop [(5,ct),(12,aW)] [(5,6),(7,8),(12,22)] .n))) .n))) c
noncomputable def pB(k:aO)(f:aO)(A:Sl):Prop:=
 ae xt 245 #[f] bA h λy h1=>
 ∃a2,(f=dB a2)/\
 be h1 a2 λx3=>
 ∃a4,(f=dB a4)/\
 be h1 (a4.add 1) λx5=>
 ∃a6,(k=dB a6)/\
 bi h1 (a6.add 9) λx7=>
 ae xt 109 #[x3,x5,x7] aI h1 λr8 h2=>
 (av.ok [] h2)/\
 aJ (σ:=Int) (λs9 K1 h3=>
 Br (s9<(r8.len:Int))
 (ae xt 111 #[r8,(qc xo (y+s9))] bA h3 λu h4=>
 ∃a0,(k=dB a0)/\
 bi h4 (a0.add 9) λb3=>
 ae xt 150 #[b3,u] bA h4 λe h5=>
 ∃G,(k=dB G)/\
 jp h5 G λb1=>
 ae xt 35 #[b1,u] jP h5 λv h6=>
 bg (σ:=Unit) (λ_ h9=>
 ∃a22,(k=dB a22)/\
 ∃K:dj,an h9 (a22.add 1) 0 K/\
 ae xt 119 #[v,K,(xi xo 1)] bA h9 λF l=>
 Br (F !=0)
 (R F l)
 (bg (σ:=fz) (λb2 ay=>
 ∃S:fh,an ay b2 0 S/\
 ae xt 112 #[S] aI ay λcl cc=>
 ae xt 102 #[v,cl] bA cc λO m=>
 Br (O !=0)
 (R O m)
 (bg (σ:=Unit) (λ_ ar=>
 ∃Y,(k=dB Y)/\
 be ar (Y.add 12) λcd=>
 ∃N,(k=dB N)/\
 af xt (qf 3 (N.add 12) (qc xo (cd+1))) ar λ_ b6=>
 R (xi xo 0) b6)
 (λK4=>
 ∃d,(f=dB d)/\
 bi m (d.add 4) λc=>
 ∃a45,(f=dB a45)/\
 bi m (a45.add 4) λg=>
 aP g e λt=>
 bi m (t.add (e.toNat*1)) λn=>
 ∃j,(f=dB j)/\
 bi m (j.add 5) λi=>
 (aA xt (qp 22 1 #[(0,y)]) aI m λv51 w=>
 (av.ok [(j.add 5,i),(t.add (e.toNat*1),n),(a45.add 4,g),(d.add 4,c)] w)/\
 (aA xt (qu #[22,22] 22 #[n,v51]) aI w λb7 a1=>
 (av.ok [(j.add 5,i),(a45.add 4,g),(d.add 4,c)] a1)/\
 aA xt (qp 22 1 #[(0,u)]) aI a1 λv53 ah=>
 (av.ok [(j.add 5,i),(a45.add 4,g),(d.add 4,c)] ah)/\
 aA xt (qu #[22,22] 22 #[i,v53]) aI ah λcq a9=>
 (av.ok [(a45.add 4,g),(d.add 4,c)] a9)/\
 aP c e λa55=>
 af xt (qf 22 (a55.add (e.toNat*1)) b7) a9 λ_ B=>
 (av.ok [] B)/\
 ∃Z,(f=dB Z)/\
 af xt (qf 22 (Z.add 5) cq) B λ_ a5=>
 (av.ok [] a5)/\
 K4 () a5)/\(aA xt (qp 22 1 #[(0,u)]) aI w λcp a7=>
 (av.ok [(j.add 5,i),(t.add (e.toNat*1),n),(a45.add 4,g),(d.add 4,c)] a7)/\
 aA xt (qu #[22,22] 22 #[n,v51]) aI a7 λbq X=>
 (av.ok [(j.add 5,i),(a45.add 4,g),(d.add 4,c)] X)/\
 aA xt (qu #[22,22] 22 #[i,cp]) aI X λbl bb=>
 (av.ok [(a45.add 4,g),(d.add 4,c)] bb)/\
 aP c e λcr=>
 af xt (qf 22 (cr.add (e.toNat*1)) bq) bb λ_ am=>
 (av.ok [] am)/\
 ∃L,(f=dB L)/\
 af xt (qf 22 (L.add 5) bl) am λ_ E=>
 (av.ok [] E)/\
 K4 () E))/\(aA xt (qp 22 1 #[(0,u)]) aI m λcf a8=>
 (av.ok [(j.add 5,i),(t.add (e.toNat*1),n),(a45.add 4,g),(d.add 4,c)] a8)/\
 aA xt (qp 22 1 #[(0,y)]) aI a8 λb9 V=>
 (av.ok [(j.add 5,i),(t.add (e.toNat*1),n),(a45.add 4,g),(d.add 4,c)] V)/\
 aA xt (qu #[22,22] 22 #[n,b9]) aI V λb5 D=>
 (av.ok [(j.add 5,i),(a45.add 4,g),(d.add 4,c)] D)/\
 aA xt (qu #[22,22] 22 #[i,cf]) aI D λb4 W=>
 (av.ok [(a45.add 4,g),(d.add 4,c)] W)/\
 aP c e λa66=>
 af xt (qf 22 (a66.add (e.toNat*1)) b5) W λ_ ap=>
 (av.ok [] ap)/\
 ∃H,(f=dB H)/\
 af xt (qf 22 (H.add 5) b4) ap λ_ U=>
 (av.ok [] U)/\
 K4 () U))))
 (λK3=>
 ∃a25,(f=dB a25)/\
 be l a25 λp=>
 ∃o,(f=dB o)/\
 be l (o.add 1) λr=>
 ∃b,(k=dB b)/\
 ∃a:bR,an l ((b.add 1).add 2) 0 a/\
 ∃q,(f=dB q)/\
 gq .u32 l (q.add 2) λs=>
 ∃x,(f=dB x)/\
 jp l (x.add 3) λz=>
 (ae xt 110 #[z,y] aI l λbk P=>
 (av.ok [(q.add 2,(xi xq s)),((b.add 1).add 2,a.1),(((b.add 1).add 2).add 1,a.2.1),(((b.add 1).add 2).add 2,a.2.2),(o.add 1,r),(a25,p)] P)/\
 aQ xt (qP 170 eR (.tuple #[])) P λM T=>
 (av.ok [(q.add 2,(xi xq s)),((b.add 1).add 2,a.1),(((b.add 1).add 2).add 1,a.2.1),(((b.add 1).add 2).add 2,a.2.2),(o.add 1,r),(a25,p)] T)/\
 af xt (qf 170 M (xn #[p,r,y,a.1,a.2.1,a.2.2,(xi xq s),bk])) T λ_ J=>
 (av.ok [] J)/\
 K3 M J)/\(aQ xt (qP 170 eR (.tuple #[])) l λa3 ad=>
 (av.ok [(x.add 3,z),(q.add 2,(xi xq s)),((b.add 1).add 2,a.1),(((b.add 1).add 2).add 1,a.2.1),(((b.add 1).add 2).add 2,a.2.2),(o.add 1,r),(a25,p)] ad)/\
 ae xt 110 #[z,y] aI ad λb0 ax=>
 (av.ok [(q.add 2,(xi xq s)),((b.add 1).add 2,a.1),(((b.add 1).add 2).add 1,a.2.1),(((b.add 1).add 2).add 2,a.2.2),(o.add 1,r),(a25,p)] ax)/\
 af xt (qf 170 a3 (xn #[p,r,y,a.1,a.2.1,a.2.2,(xi xq s),b0])) ax λ_ bd=>
 (av.ok [] bd)/\
 K3 a3 bd))))
 (λK2=>
 ae xt 84 #[A,e] bK h6 λbr h7=>
 Br br (K1 (qc xo (s9+1)) h7) (∃Q,(k=dB Q)/\
 ∃I:dj,an h7 (Q.add 1) 0 I/\
 ae xt 118 #[v,I,(xi xo 1)] bK h7 λcn h8=>
 Br (!cn)
 (K1 (qc xo (s9+1)) h8)
 (K2 () h8))))
 (R (xi xo 7) h3)) (0:Int) h2
theorem Bl(b:aO)(c:aO)(a:Sl)(d:@pB R h b c a):ab xt 193 #[b,c,a] h R:=au ac func193 (aj.tn (aj.tn (aj.tn (.two (aj.tn (.inn (.loop [(33,aW)] [(6,7),(9,16),(33,140)] (aj.tn (aj.tn (.two (.inn (aj.tn (aj.tn (aj.tn (aj.tn (.two (.join [] [(53,65)] .n) (aj.tn (.two (.join [(14,(.sc .adr))] [(14,15),(74,99)] .n) (aj.tn (.two (.join [] [(106,132)] .n) .n)))))))))) .n)))))) .n)))) d
noncomputable def FT(E:Sl):Prop:=
 aQ xt (qP 170 eR (.tuple #[])) h λf h1=>
 ae xt 76 #[E] (.many [aW,ct,lK]) h1 λa h2=>
 bg (σ:=Unit) (λ_ h5=>
 bg (σ:=fz) (λb a3=>
 bg (σ:=Unit) (λ_ a6=>
 (0<=(9:Int)/\(9:Int)<=(13:Int)/\(13:Int)<=(a.2.1.cap:Int))/\
 ae xt 246 #[(.slice (if a.2.1.cap=(9:Int).toNat then a.2.1.ptr else a.2.1.ptr.map (·.add ((9:Int).toNat*1))) ((13:Int).toNat-(9:Int).toNat) (a.2.1.cap-(9:Int).toNat))] bA a6 λad ay=>
 af xt (qf 46 (b.add 6) (xi xq (qc xq ad))) ay λ_ u=>
 ∃x:bR,an u (b.add 3) 0 x/\
 ae xt 40 #[x] bK u λah l=>
 Br (!ah)
 (af xt (qf 170 f (xn #[(xi xo 0),(xi xo 0),(xi xo 0),(xi xo 0),(xi xo 0),(xi xo 0),(xi xq 0),(xj eH 0 0)])) l λ_ m=>
 ∃c:fh,an m f 0 c/\
 R (.tuple #[c,eS]) m)
 (be l ((b.add 3).add 2) λk=>
 (0<=(13:Int)/\(13:Int)<=(qc xo (13+k))/\(qc xo (13+k))<=(a.2.1.cap:Int))/\
 ae xt 146 #[(.slice (if a.2.1.cap=(13:Int).toNat then a.2.1.ptr else a.2.1.ptr.map (·.add ((13:Int).toNat*1))) ((qc xo (13+k)).toNat-(13:Int).toNat) (a.2.1.cap-(13:Int).toNat))] aI l λam U=>
 af xt (qf 34 (b.add 7) am) U λ_ n=>
 ∃O:fh,an n b 0 O/\
 ae xt 112 #[O] aI n λa4 a2=>
 ae xt 99 #[E,a4] bK a2 λV j=>
 Br (!V)
 (af xt (qf 170 f (xn #[(xi xo 0),(xi xo 0),(xi xo 0),(xi xo 0),(xi xo 0),(xi xo 0),(xi xq 0),(xj eH 0 0)])) j λ_ F=>
 ∃e:fh,an F f 0 e/\
 R (.tuple #[e,eS]) F)
 (∃N:fh,an j b 0 N/\
 af xt (qf 170 f N) j λ_ G=>
 ∃d:fh,an G f 0 d/\
 R (.tuple #[d,eR]) G)))
 (λK3=>
 (0<=(6:Int)/\(6:Int)<=(7:Int)/\(7:Int)<=(a.2.1.cap:Int))/\
 (0<=(7:Int)/\(7:Int)<=(8:Int)/\(8:Int)<=(a.2.1.cap:Int))/\
 (0<=(8:Int)/\(8:Int)<=(9:Int)/\(9:Int)<=(a.2.1.cap:Int))/\
 ae xt 246 #[(.slice (if a.2.1.cap=(6:Int).toNat then a.2.1.ptr else a.2.1.ptr.map (·.add ((6:Int).toNat*1))) ((7:Int).toNat-(6:Int).toNat) (a.2.1.cap-(6:Int).toNat))] bA a3 λa0 r=>
 (av.ok [] r)/\
 ae xt 246 #[(.slice (if a.2.1.cap=(7:Int).toNat then a.2.1.ptr else a.2.1.ptr.map (·.add ((7:Int).toNat*1))) ((8:Int).toNat-(7:Int).toNat) (a.2.1.cap-(7:Int).toNat))] bA r λZ t=>
 (av.ok [] t)/\
 ae xt 246 #[(.slice (if a.2.1.cap=(8:Int).toNat then a.2.1.ptr else a.2.1.ptr.map (·.add ((8:Int).toNat*1))) ((9:Int).toNat-(8:Int).toNat) (a.2.1.cap-(8:Int).toNat))] bA t λax y=>
 (av.ok [] y)/\
 af xt (qf 24 (b.add 3) (xn #[a0,Z,ax])) y λ_ o=>
 (av.ok [] o)/\
 K3 () o))
 (λQ=>
 (0<=(3:Int)/\(3:Int)<=(a.2.1.cap:Int))/\
 (0<=(3:Int)/\(3:Int)<=(4:Int)/\(4:Int)<=(a.2.1.cap:Int))/\
 (0<=(4:Int)/\(4:Int)<=(6:Int)/\(6:Int)<=(a.2.1.cap:Int))/\
 (ae xt 246 #[(xj a.2.1.ptr ((3:Int).toNat) a.2.1.cap)] bA h5 λY h6=>
 (av.ok [] h6)/\
 (ae xt 246 #[(.slice (if a.2.1.cap=(3:Int).toNat then a.2.1.ptr else a.2.1.ptr.map (·.add ((3:Int).toNat*1))) ((4:Int).toNat-(3:Int).toNat) (a.2.1.cap-(3:Int).toNat))] bA h6 λr7 W=>
 (av.ok [] W)/\
 (ae xt 246 #[(.slice (if a.2.1.cap=(4:Int).toNat then a.2.1.ptr else a.2.1.ptr.map (·.add ((4:Int).toNat*1))) ((6:Int).toNat-(4:Int).toNat) (a.2.1.cap-(4:Int).toNat))] bA W λr8 h8=>
 (av.ok [] h8)/\
 aQ xt (qP 170 eR (.tuple #[])) h8 λa9 h9=>
 (av.ok [] h9)/\
 af xt (qf 170 a9 (xn #[Y,r7,r8,(xi xo 0),(xi xo 0),(xi xo 0),(xi xq 0),(xj eH 0 0)])) h9 λ_ J=>
 (av.ok [] J)/\
 Q a9 J)/\(aQ xt (qP 170 eR (.tuple #[])) W λz H=>
 (av.ok [] H)/\
 ae xt 246 #[(.slice (if a.2.1.cap=(4:Int).toNat then a.2.1.ptr else a.2.1.ptr.map (·.add ((4:Int).toNat*1))) ((6:Int).toNat-(4:Int).toNat) (a.2.1.cap-(4:Int).toNat))] bA H λap K=>
 (av.ok [] K)/\
 af xt (qf 170 z (xn #[Y,r7,ap,(xi xo 0),(xi xo 0),(xi xo 0),(xi xq 0),(xj eH 0 0)])) K λ_ D=>
 (av.ok [] D)/\
 Q z D))/\(aQ xt (qP 170 eR (.tuple #[])) h6 λp v=>
 (av.ok [] v)/\
 ae xt 246 #[(.slice (if a.2.1.cap=(3:Int).toNat then a.2.1.ptr else a.2.1.ptr.map (·.add ((3:Int).toNat*1))) ((4:Int).toNat-(3:Int).toNat) (a.2.1.cap-(3:Int).toNat))] bA v λS I=>
 (av.ok [] I)/\
 ae xt 246 #[(.slice (if a.2.1.cap=(4:Int).toNat then a.2.1.ptr else a.2.1.ptr.map (·.add ((4:Int).toNat*1))) ((6:Int).toNat-(4:Int).toNat) (a.2.1.cap-(4:Int).toNat))] bA I λar M=>
 (av.ok [] M)/\
 af xt (qf 170 p (xn #[Y,S,ar,(xi xo 0),(xi xo 0),(xi xo 0),(xi xq 0),(xj eH 0 0)])) M λ_ L=>
 (av.ok [] L)/\
 Q p L))/\(aQ xt (qP 170 eR (.tuple #[])) h5 λA q=>
 (av.ok [] q)/\
 ae xt 246 #[(xj a.2.1.ptr ((3:Int).toNat) a.2.1.cap)] bA q λT w=>
 (av.ok [] w)/\
 ae xt 246 #[(.slice (if a.2.1.cap=(3:Int).toNat then a.2.1.ptr else a.2.1.ptr.map (·.add ((3:Int).toNat*1))) ((4:Int).toNat-(3:Int).toNat) (a.2.1.cap-(3:Int).toNat))] bA w λa5 s=>
 (av.ok [] s)/\
 ae xt 246 #[(.slice (if a.2.1.cap=(4:Int).toNat then a.2.1.ptr else a.2.1.ptr.map (·.add ((4:Int).toNat*1))) ((6:Int).toNat-(4:Int).toNat) (a.2.1.cap-(4:Int).toNat))] bA s λX P=>
 (av.ok [] P)/\
 af xt (qf 170 A (xn #[T,a5,X,(xi xo 0),(xi xo 0),(xi xo 0),(xi xq 0),(xj eH 0 0)])) P λ_ B=>
 (av.ok [] B)/\
 Q A B)))
 (λK1=>
 Br (!a.2.2) (af xt (qf 170 f (xn #[(xi xo 0),(xi xo 0),(xi xo 0),(xi xo 0),(xi xo 0),(xi xo 0),(xi xq 0),(xj eH 0 0)])) h2 λ_ h3=>
 ∃i:fh,an h3 f 0 i/\
 R (.tuple #[i,eS]) h3) (Br (a.1 !=1)
 (af xt (qf 170 f (xn #[(xi xo 0),(xi xo 0),(xi xo 0),(xi xo 0),(xi xo 0),(xi xo 0),(xi xq 0),(xj eH 0 0)])) h2 λ_ h4=>
 ∃g:fh,an h4 f 0 g/\
 R (.tuple #[g,eS]) h4)
 (K1 () h2)))
theorem MX(a:Sl)(b:@FT R h a):ab xt 194 #[a] h R:=au ac func194 (aj.tn (aj.tn (.two (.join [] [(3,4),(14,21)] .n) (.two (.join [(7,(.sc .adr))] [(7,8),(21,31)] .n) (.two (.join [] [(31,42)] .n) .n))))) b
noncomputable def FU(b:dj)(d:fh):Prop:=
 aQ xt (qO 44 b) h λj n=>
 aQ xt (qO 170 d) n λc g=>
 bg (σ:=Unit) (λ_ i=>
 bi i (j.add 7) λl=>
 ae xt 165 #[l,(.func (.func 247) #[] #[c])] bK i λa m=>
 R a m)
 (λp=>
 ∃x3:fh,an g c 0 x3/\
 ae xt 184 #[x3] bK g λo h3=>
 Br (!o) (R eS h3) (∃e:bR,an h3 (c.add 3) 0 e/\
 ∃k:bR,an h3 (j.add 2) 0 k/\
 ∃f:Bool,(kB xt .neq 24 (.tmp 10) (.tmp 12) e k (xm f))/\
 Br f
 (R eS h3)
 (p () h3)))
theorem MY(a:dj)(b:fh)(c:@FU R h a b):ab xt 195 #[a,b] h R:=au ac func195 (aj.tn (.two (.join [] [(4,15)] .n) .n)) c
noncomputable def gr(b:Sl)(a:cG):Prop:=
 ae xt 248 #[b,(xi xo (b.len:Int)),(.func (.func a.1) a.2.1 a.2.2)] iV h λ_ c=>
 R (.tuple #[]) c
theorem ko(b:Sl)(a:cG)(c:@gr R h b a):ab xt 196 #[b,(.func (.func a.1) a.2.1 a.2.2)] h R:=au ac func196 .n c
noncomputable def HM(j:fh)(e:fh):Prop:=
 aQ xt (qO 170 j) h λb t=>
 aQ xt (qO 170 e) t λc a=>
 be a b λx3=>
 be a c λu=>
 be a (b.add 1) λm=>
 be a (c.add 1) λq=>
 be a (b.add 2) λi=>
 be a (c.add 2) λk=>
 ae xt 183 #[x3,u] bA a λs h3=>
 (av.ok [(c.add 2,k),(b.add 2,i),(c.add 1,q),(b.add 1,m)] h3)/\
 ae xt 183 #[m,q] bA h3 λd p=>
 (av.ok [(c.add 2,k),(b.add 2,i)] p)/\
 ae xt 183 #[i,k] bA p λg r=>
 (av.ok [] r)/\
 aA xt (qp 22 3 #[(0,s),(1,d),(2,g)]) aI r λf o=>
 (av.ok [] o)/\
 ae xt 181 #[f] bA o λl n=>
 (av.ok [] n)/\
 R l n
theorem OY(a:fh)(b:fh)(c:@HM R h a b):ab xt 197 #[a,b] h R:=au ac func197 .n c
noncomputable def gK(a:Sl)(c:cG):Prop:=
 Br ((a.len:Int)<2)
 (R a h)
 (aJ (σ:=Int) (λd s l=>
 Br (d<(a.len:Int))
 (aP a d λu=>
 ∃x3:fh,an l (u.add (d.toNat*8)) 0 x3/\
 aP a (qc xo (d-1)) λa4=>
 ∃f:fh,an l (a4.add ((qc xo (d-1)).toNat*8)) 0 f/\
 iG C c.1 (c.2.1.toList++[(xn #[x3.1,x3.2.1,x3.2.2.1,x3.2.2.2.1,x3.2.2.2.2.1,x3.2.2.2.2.2.1,(xi xq x3.2.2.2.2.2.2.1),x3.2.2.2.2.2.2.2]),(xn #[f.1,f.2.1,f.2.2.1,f.2.2.2.1,f.2.2.2.2.1,f.2.2.2.2.2.1,(xi xq f.2.2.2.2.2.2.1),f.2.2.2.2.2.2.2])]++c.2.2.toList) bK l λt p=>
 (av.ok [] p)/\
 Br t
 ((0<=d/\d<=(a.len:Int))/\
 aJ (σ:=Int×Int) (λb q h3=>
 Br (decide (b.2<(((a.len-d.toNat):Nat):Int)))
 (∃r:fz,((if a.cap=d.toNat then a.ptr else a.ptr.map (·.add (d.toNat*8)))=dB r/\0<=b.2/\b.2<(((a.len-d.toNat):Nat):Int))/\
 ∃g:fh,an h3 (r.add (b.2.toNat*8)) 0 g/\
 ∃j:fz,((if a.cap=d.toNat then a.ptr else a.ptr.map (·.add (d.toNat*8)))=dB j/\0<=(qc xo (b.2-1))/\(qc xo (b.2-1))<(((a.len-d.toNat):Nat):Int))/\
 ∃e:fh,an h3 (j.add ((qc xo (b.2-1)).toNat*8)) 0 e/\
 iG C c.1 (c.2.1.toList++[(xn #[g.1,g.2.1,g.2.2.1,g.2.2.2.1,g.2.2.2.2.1,g.2.2.2.2.2.1,(xi xq g.2.2.2.2.2.2.1),g.2.2.2.2.2.2.2]),(xn #[e.1,e.2.1,e.2.2.1,e.2.2.2.1,e.2.2.2.2.1,e.2.2.2.2.2.1,(xi xq e.2.2.2.2.2.2.1),e.2.2.2.2.2.2.2])]++c.2.2.toList) bK h3 λn m=>
 (av.ok [] m)/\
 Br (!n)
 (∃i:fz,((if a.cap=d.toNat then a.ptr else a.ptr.map (·.add (d.toNat*8)))=dB i/\0<=b.2/\b.2<(((a.len-d.toNat):Nat):Int))/\
 ∃k:fh,an m (i.add (b.2.toNat*8)) 0 k/\
 aP a b.1 λo=>
 af xt (qf 170 (o.add (b.1.toNat*8)) k) m λ_ v=>
 q (qc xo (b.1+1),qc xo (b.2+1)) v)
 (q (b.1,qc xo (b.2+1)) m))
 ((0<=b.1/\b.1<=(a.len:Int))/\
 af xt (Builtin.clear_ #[189] 0 #[(.slice (if a.cap=b.1.toNat then a.ptr else a.ptr.map (·.add (b.1.toNat*8))) (a.len-b.1.toNat) (a.cap-b.1.toNat))]) h3 λ_ w=>
 (0<=b.1/\b.1<=(a.cap:Int))/\
 R (xj a.ptr b.1.toNat a.cap) w)) (d,(1:Int)) p)
 (s (qc xo (d+1)) p))
 (R a l)) (1:Int) h)
theorem li(b:Sl)(a:cG)(c:@gK R h b a):ab xt 198 #[b,(.func (.func a.1) a.2.1 a.2.2)] h R:=au ac func198 (aj.tn (aj.tn (.two (aj.tn (.inn (.loop [(5,aW)] [(4,8),(12,65)] (aj.tn (.two (.inn (aj.tn (.two (aj.tn (.two (aj.tn (.inn (.loop [(5,aW),(7,aW)] [(5,6),(7,8),(32,59)] .n))) .n)) .n))) .n))))) .n))) c
noncomputable def AC(a:fh)(b:fh):Prop:=
 aQ xt (qO 170 a) h λi f=>
 aQ xt (qO 170 b) f λg c=>
 ∃x3:fh,an c i 0 x3/\
 ∃d:fh,an c g 0 d/\
 ae xt 197 #[x3,d] bA c λe h3=>
 R (xm (e==0)) h3
theorem HN(a:fh)(b:fh)(c:@AC R h a b):ab xt 199 #[a,b] h R:=au ac func199 .n c
noncomputable def Qf(a:Sl):Prop:=
 aJ (σ:=Int) (λc e b=>
 Br (c<(a.len:Int))
 (aP a c λf=>
 bi b (f.add (c.toNat*1)) λx3=>
 aP a (0:Int) λa4=>
 bi b (a4.add ((0:Int).toNat*1)) λd=>
 Br ((x3.len:Int) !=(d.len:Int)) (R eS b) (Br ((x3.len:Int)>64)
 (R eS b)
 (e (qc xo (c+1)) b)))
 (R eR b)) (0:Int) h
theorem VG(a:Sl)(b:@Qf R h a):ab xt 200 #[a] h R:=au ac func200 (aj.tn (.two (aj.tn (.inn (.loop [(7,aW)] [(2,3),(4,5),(7,24)] .n))) .n)) b
noncomputable def Qg(a:Sl):Prop:=
 aA xt (qG 85 (xi xo 0) (xi xo (a.len:Int))) aI h λc g=>
 aJ (σ:=Sl×Int) (λb k e=>
 Br (b.2<(a.len:Int))
 (aP a b.2 λa3=>
 bi e (a3.add (b.2.toNat*1)) λj=>
 ae xt 146 #[j] aI e λf h3=>
 aA xt (qp 85 1 #[(0,f)]) aI h3 λl i=>
 aA xt (qu #[85,85] 85 #[b.1,l]) aI i λd m=>
 k ((⟨d.ptr,d.len,d.cap⟩:Sl),qc xo (b.2+1)) m)
 (R b.1 e)) ((⟨c.ptr,c.len,c.cap⟩:Sl),(0:Int)) g
theorem VH(a:Sl)(b:@Qg R h a):ab xt 201 #[a] h R:=au ac func201 (aj.tn (aj.tn (.two (aj.tn (.inn (.loop [(3,ct),(11,aW)] [(3,4),(5,6),(11,21)] .n))) .n))) b
noncomputable def HO(f:aO)(b:Sl)(e:Int):Prop:=
 aJ (σ:=Int×Int) (λa E D=>
 Br (a.2<e)
 (ae xt 249 #[b,a.1,a.2] bA D λk p=>
 Br (k<0)
 (E (a.1,qc xo (a.2+1)) p)
 (bg (σ:=Unit) (λ_ q=>
 bg (σ:=Unit) (λ_ O=>
 aJ (σ:=Int) (λc F d=>
 Br (c<(b.len:Int))
 (Br (c !=a.1)
 (aP b c λn=>
 bi d (n.add (c.toNat*1)) λj=>
 aP j a.2 λv=>
 gq .u8 d (v.add (a.2.toNat*1)) λx=>
 aP b a.1 λa25=>
 bi d (a25.add (a.1.toNat*1)) λz=>
 aP b c λu=>
 bi d (u.add (c.toNat*1)) λw=>
 ae xt 252 #[f,(xi xp x),z,w] iV d λ_ m=>
 (av.ok [(n.add (c.toNat*1),j)] m)/\
 F (qc xo (c+1)) m)
 (F (qc xo (c+1)) d))
 (E (qc xo (a.1+1),qc xo (a.2+1)) d)) (0:Int) O)
 (λJ=>
 aP b a.1 λg=>
 bi q (g.add (a.1.toNat*1)) λi=>
 aP i a.2 λt=>
 gq .u8 q (t.add (a.2.toNat*1)) λs=>
 aP b a.1 λl=>
 bi q (l.add (a.1.toNat*1)) λo=>
 ae xt 251 #[f,(xi xp s)] (.one (.sc (.int .u8))) q λr H=>
 (av.ok [(l.add (a.1.toNat*1),o),(g.add (a.1.toNat*1),i)] H)/\
 ae xt 250 #[f,(xi xp r),o] aI H λA B=>
 (av.ok [(g.add (a.1.toNat*1),i)] B)/\
 aP b a.1 λy=>
 af xt (qf 34 (y.add (a.1.toNat*1)) A) B λ_ h8=>
 (av.ok [] h8)/\
 J () h8))
 (λI=>
 aP b k λa3=>
 bi p (a3.add (k.toNat*1)) λN=>
 aP b a.1 λa5=>
 bi p (a5.add (a.1.toNat*1)) λL=>
 aP b a.1 λK=>
 af xt (qf 34 (K.add (a.1.toNat*1)) N) p λ_ h3=>
 (av.ok [] h3)/\
 aP b k λM=>
 af xt (qf 34 (M.add (k.toNat*1)) L) h3 λ_ G=>
 (av.ok [] G)/\
 I () G)))
 (R a.1 D)) ((0:Int),(0:Int)) h
theorem OZ(b:aO)(c:Sl)(a:Int)(d:@HO R h b c a):ab xt 202 #[b,c,a] h R:=au ac func202 (aj.tn (aj.tn (.two (aj.tn (.inn (.loop [(7,aW),(12,aW)] [(7,11),(12,82)] (aj.tn (aj.tn (.two (.inn (aj.tn (aj.tn (aj.tn (.two (.join [] [(21,35)] .n) (.two (.join [] [(35,53)] .n) (.two (aj.tn (.inn (.loop [(55,aW)] [(10,11),(55,79)] .n))) .n))))))) .n)))))) .n))) d
noncomputable def MZ(a:aO):Prop:=
 Br (qY a)
 (ae xt 65 #[] jP h λc b=>
 R c b)
 (R a h)
theorem TL(a:aO)(b:@MZ R h a):ab xt 203 #[a] h R:=au ac func203 .n b
noncomputable def Kk(a:Sl):Prop:=
 Br ((a.len:Int)==0)
 (R (xi xo 0) h)
 (aP a (0:Int) λb=>
 bi h (b.add ((0:Int).toNat*1)) λx2=>
 R (xi xo (x2.len:Int)) h)
theorem Rx(a:Sl)(b:@Kk R h a):ab xt 204 #[a] h R:=au ac func204 .n b
noncomputable def Na(c:Int)(d:Int):Prop:=
 aJ (σ:=bR) (λa i b=>
 Br (a.2.1==0)
 (R (xi xp a.2.2) b)
 (bg (σ:=Int) (λk g=>
 (0<=(1:Int))/\
 bg (σ:=Int) (λj h3=>
 (0<=(1:Int))/\
 i (j,q9 a.2.1 (2^min (1:Int).toNat (ql xp)),k) h3)
 (λf=>
 Br ((qc xp ((qF (ql xp) a.1&&&(qF (ql xp) (128:Int))).toNat:Nat)) !=0)
 (f (qc xp ((qF (ql xp) (qc xp (a.1*2^min (1:Int).toNat (ql xp)))^^^(qF (ql xp) (27:Int))).toNat:Nat)) g)
 (f (qc xp (a.1*2^min (1:Int).toNat (ql xp))) g)))
 (λe=>
 Br ((qc xp ((qF (ql xp) a.2.1&&&(qF (ql xp) (1:Int))).toNat:Nat))==1)
 (e (qc xp ((qF (ql xp) a.2.2^^^(qF (ql xp) a.1)).toNat:Nat)) b)
 (e a.2.2 b)))) (c,d,(0:Int)) h
theorem TM(a:Int)(b:Int)(c:@Na R h a b):ab xt 205 #[(xi xp a),(xi xp b)] h R:=au ac func205 (aj.tn (.scope 0 [(0,(.sc (.int .u8))),(1,(.sc (.int .u8))),(5,(.sc (.int .u8)))] [(0,2),(4,26)] [.n] [(aj.tn (.two (.join [(5,(.sc (.int .u8)))] [(5,6),(10,16)] .n) (aj.tn (aj.tn (.two (.join [(0,(.sc (.int .u8)))] [(0,1),(21,24)] .n) .n)))))] [])) c
noncomputable def Dv(a:aO):Prop:=
 Br (qY a)
 (ae xt 65 #[] jP h λc b=>
 R c b)
 (R a h)
theorem Lm(a:aO)(b:@Dv R h a):ab xt 206 #[a] h R:=au ac func206 .n b
noncomputable def Nb(b:aO)(c:Int)(d:Sl)(a:Sl):Prop:=
 ae xt 250 #[b,(xi xp c),d] aI h λi f=>
 ae xt 253 #[i,a] (.many [ct,lK]) f λe g=>
 R (.tuple #[e.1,e.2]) g
theorem TN(b:aO)(c:Int)(d:Sl)(a:Sl)(e:@Nb R h b c d a):ab xt 207 #[b,(xi xp c),d,a] h R:=au ac func207 .n e
noncomputable def lN(c:Sl)(a:cG):Prop:=
 aJ (σ:=Int) (λb g d=>
 Br (b<(c.len:Int))
 (aP c b λi=>
 gq .u8 d (i.add (b.toNat*1)) λx3=>
 iG C a.1 (a.2.1.toList++[(xi xp x3)]++a.2.2.toList) bK d λf e=>
 Br f
 (R b e)
 (g (qc xo (b+1)) e))
 (R (xi xo (-1:Int)) d)) (0:Int) h
theorem ro(b:Sl)(a:cG)(c:@lN R h b a):ab xt 208 #[b,(.func (.func a.1) a.2.1 a.2.2)] h R:=au ac func208 (aj.tn (.two (aj.tn (.inn (.loop [(8,aW)] [(4,6),(8,19)] .n))) .n)) c
noncomputable def HQ(a:Int):Prop:=
 R (xm (a !=0)) h
theorem Pa(a:Int)(b:@HQ R h a):ab xt 209 #[(xi xp a)] h R:=au ac func209 .n b
noncomputable def AD(b:aO):Prop:=
 Br (qY b)
 (R (xj eH 0 0) h)
 (∃e,(b=dB e)/\
 bi h (e.add 2) λx2=>
 aJ (σ:=Sl×Int) (λa g c=>
 Br (a.2<(x2.len:Int))
 (aP x2 a.2 λa4=>
 bi c (a4.add (a.2.toNat*1)) λf=>
 ae xt 146 #[f] aI c λi k=>
 aA xt (qp 85 1 #[(0,i)]) aI k λj h3=>
 aA xt (qu #[85,85] 85 #[a.1,j]) aI h3 λd l=>
 g ((⟨d.ptr,d.len,d.cap⟩:Sl),qc xo (a.2+1)) l)
 (R a.1 c)) ((⟨eH,0,0⟩:Sl),(0:Int)) h)
theorem HR(a:aO)(b:@AD R h a):ab xt 210 #[a] h R:=au ac func210 (aj.tn (aj.tn (aj.tn (.two (aj.tn (.inn (.loop [(3,ct),(13,aW)] [(3,4),(5,6),(13,23)] .n))) .n)))) b
noncomputable def Qh(c:Sl):Prop:=
 aJ (σ:=Int×Int) (λb g d=>
 Br (b.2<(c.len:Int))
 (aP c b.2 λi=>
 gq .u8 d (i.add (b.2.toNat*1)) λx3=>
 aJ (σ:=Int×Int) (λa f e=>
 Br (a.2<8)
 ((0<=(1:Int))/\
 Br ((qc xq ((qF (ql xq) a.1&&&(qF (ql xq) (1:Int))).toNat:Nat))==1)
 (f (qc xq ((qF (ql xq) (q9 a.1 (2^min (1:Int).toNat (ql xq)))^^^(qF (ql xq) (3988292384:Int))).toNat:Nat),qc xo (a.2+1)) e)
 (f (q9 a.1 (2^min (1:Int).toNat (ql xq)),qc xo (a.2+1)) e))
 (g (a.1,qc xo (b.2+1)) e)) (qc xq ((qF (ql xq) b.1^^^(qF (ql xq) (qc xq x3))).toNat:Nat),(0:Int)) d)
 (R (xi xq (qc xq ((qF (ql xq) (4294967295:Int)^^^(qF (ql xq) b.1)).toNat:Nat))) d)) ((4294967295:Int),(0:Int)) h
theorem VI(a:Sl)(b:@Qh R h a):ab xt 213 #[a] h R:=au ac func213 (aj.tn (aj.tn (.two (aj.tn (.inn (.loop [(3,(.sc (.int .u32))),(9,aW)] [(3,4),(5,7),(9,29)] (aj.tn (aj.tn (.two (.inn (aj.tn (aj.tn (aj.tn (.inn (.loop [(3,(.sc (.int .u32))),(17,aW)] [(3,4),(6,7),(17,28)] .n)))))) .n)))))) .n))) b
noncomputable def ic(c:Sl)(a:cG):Prop:=
 aJ (σ:=Int) (λb g d=>
 Br (b<(c.len:Int))
 (aP c b λi=>
 ∃x3:Int×Sl,an d (i.add (b.toNat*2)) 0 x3/\
 iG C a.1 (a.2.1.toList++[(xn #[x3.1,x3.2])]++a.2.2.toList) bK d λf e=>
 Br f
 (R b e)
 (g (qc xo (b+1)) e))
 (R (xi xo (-1:Int)) d)) (0:Int) h
theorem lO(b:Sl)(a:cG)(c:@ic R h b a):ab xt 215 #[b,(.func (.func a.1) a.2.1 a.2.2)] h R:=au ac func215 (aj.tn (.two (aj.tn (.inn (.loop [(8,aW)] [(4,6),(8,19)] .n))) .n)) c
noncomputable def Kl(b:Int)(e:Sl):Prop:=
 ae xt 263 #[b,e] bK h λM u=>
 Br (!M)
 (R (.tuple #[(xj eH 0 0),(xj eH 0 0),(xj eH 0 0),(xi xo 1)]) u)
 (bg (σ:=aO) (λp h8=>
 ae xt 264 #[p] iV h8 λ_ P=>
 aJ (σ:=Sl×Int) (λa F d=>
 Br (a.2<(e.len:Int))
 (aP e a.2 λD=>
 ∃j:Sl×Sl,an d (D.add (a.2.toNat*2)) 0 j/\
 aQ xt (qP 275 eR (.tuple #[])) d λi y=>
 af xt (qf 275 i j) y λ_ n=>
 ∃o:Sl×Sl,an n i 0 o/\
 ae xt 265 #[p,o] (.one (.agg [.slc,.slc])) n λr x=>
 aQ xt (qP 275 eR (.tuple #[])) x λf s=>
 af xt (qf 275 f r) s λ_ c=>
 bi c f λA=>
 Br ((A.len:Int)>0)
 (∃l:Sl×Sl,an c f 0 l/\
 aA xt (qp 273 1 #[(0,l)]) aI c λv E=>
 aA xt (qu #[273,273] 273 #[a.1,v]) aI E λg B=>
 F ((⟨g.ptr,g.len,g.cap⟩:Sl),qc xo (a.2+1)) B)
 (bi c (f.add 1) λq=>
 ae xt 266 #[q] bK c λw k=>
 Br (!w)
 (R (.tuple #[(xj eH 0 0),(xj eH 0 0),(xj eH 0 0),(xi xo 10)]) k)
 (F ((⟨a.1.ptr,a.1.len,a.1.cap⟩:Sl),qc xo (a.2+1)) k)))
 (∃m,(p=dB m)/\
 bi d (m.add 1) λt=>
 ∃a25,(p=dB a25)/\
 bi d (a25.add 2) λz=>
 R (.tuple #[t,z,a.1,(xi xo 0)]) d)) ((⟨eH,0,0⟩:Sl),(0:Int)) P)
 (λH=>
 (aA xt (qG 282 b b) aI u λQ I=>
 (av.ok [] I)/\
 aA xt (qG 85 b b) aI I λv3 h3=>
 (av.ok [] h3)/\
 aQ xt (qO 326 (xn #[e,Q,v3])) h3 λa4 J=>
 (av.ok [] J)/\
 H (dB a4) J)/\(aA xt (qG 85 b b) aI u λv5 K=>
 (av.ok [] K)/\
 aA xt (qG 282 b b) aI K λO L=>
 (av.ok [] L)/\
 aQ xt (qO 326 (xn #[e,O,v5])) L λN G=>
 (av.ok [] G)/\
 H (dB N) G)))
theorem Ry(b:Int)(a:Sl)(c:@Kl R h b a):ab xt 216 #[b,a] h R:=au ac func216 (aj.tn (aj.tn (.two (.join [(8,Db)] [(8,9),(16,23)] .n) (aj.tn (.two (aj.tn (.inn (.loop [(6,ct),(27,aW)] [(4,8),(10,12),(27,47)] .n))) .n))))) c
noncomputable def pC(u:aO)(a:Sl):Prop:=
 aQ xt (qO 276 u) h λn v=>
 jp v n λx2=>
 ∃a3,(x2=dB a3)/\
 bi v (a3.add 5) λN=>
 aJ (σ:=Sl×Int) (λd Q A=>
 Br (d.2<(N.len:Int))
 (aP N d.2 λP=>
 ∃L:Sl×Sl,an A (P.add (d.2.toNat*2)) 0 L/\
 aQ xt (qP 275 eR (.tuple #[])) A λM h3=>
 af xt (qf 275 M L) h3 λ_ K=>
 bi K M λO=>
 aA xt (qp 51 1 #[(0,O)]) aI K λr T=>
 aA xt (qu #[51,51] 51 #[d.1,r]) aI T λe U=>
 Q ((⟨e.ptr,e.len,e.cap⟩:Sl),qc xo (d.2+1)) U)
 (aJ (σ:=Sl×Int) (λb J m=>
 Br (b.2<(a.len:Int))
 (aP a b.2 λo=>
 rT m (o.add (b.2.toNat*1)) λG=>
 Br G
 (aA xt (qp 22 1 #[(0,b.2)]) aI m λz h8=>
 aA xt (qp 51 1 #[(0,z)]) aI h8 λy S=>
 aA xt (qu #[51,51] 51 #[b.1,y]) aI S λf D=>
 J ((⟨f.ptr,f.len,f.cap⟩:Sl),qc xo (b.2+1)) D)
 (J ((⟨b.1.ptr,b.1.len,b.1.cap⟩:Sl),qc xo (b.2+1)) m))
 (ae xt 267 #[(xi xo (a.len:Int)),b.1] (.many [(.agg [.slc,.slc,.slc]),lK]) m λw B=>
 aQ xt (qP 279 eR (.tuple #[])) B λc E=>
 af xt (qf 279 c w.1) E λ_ j=>
 bi j c λF=>
 ae xt 268 #[F,(.func (.func 269) #[] #[n])] aI j λx s=>
 af xt (qf 277 c x) s λ_ l=>
 bi l (c.add 2) λp=>
 ae xt 270 #[p,(.func (.func 271) #[] #[n])] aI l λH I=>
 af xt (qf 22 (c.add 2) H) I λ_ g=>
 jp g n λt=>
 ∃i:Sl×Sl×Sl,an g c 0 i/\
 ∃k,(t=dB k)/\
 af xt (qf 279 (k.add 6) i) g λ_ q=>
 R (.tuple #[]) q)) ((⟨d.1.ptr,d.1.len,d.1.cap⟩:Sl),(0:Int)) A)) ((⟨eH,0,0⟩:Sl),(0:Int)) v
theorem Bn(b:aO)(a:Sl)(c:@pC R h b a):ab xt 217 #[b,a] h R:=au ac func217 (aj.tn (aj.tn (.two (aj.tn (.inn (.loop [(4,ct),(16,aW)] [(4,5),(6,7),(16,26)] .n))) (.two (aj.tn (.inn (.loop [(4,ct),(28,aW)] [(4,5),(7,9),(28,40)] .n))) .n)))) c
noncomputable def pD(a:aO):Prop:=
 ∃a1,(a=dB a1)/\
 bi h ((a1.add 6).add 1) λx2=>
 bg (σ:=Unit) (λ_ U=>
 ∃T,(a=dB T)/\
 bi U ((T.add 6).add 1) λL=>
 aJ (σ:=Int) (λj K2 d=>
 Br (j<(L.len:Int))
 (aP L j λb3=>
 be d (b3.add (j.toNat*1)) λb=>
 bg (σ:=Unit) (λ_ B=>
 ∃br,(a=dB br)/\
 bi B (br.add 9) λb6=>
 aP b6 b λc5=>
 bi B (c5.add (b.toNat*1)) λc4=>
 aP c4 j λb1=>
 af xt (qf 5 (b1.add (j.toNat*1)) (xi xp 1)) B λ_ c1=>
 K2 (qc xo (j+1)) c1)
 (λK3=>
 ∃g,(a=dB g)/\
 bi d (g.add 9) λi=>
 ∃a25,(a=dB a25)/\
 bi d (a25.add 10) λe=>
 ∃u,(a=dB u)/\
 be d ((u.add 1).add 2) λf=>
 (aA xt (qG 34 (xi xo (x2.len:Int)) (xi xo (x2.len:Int))) aI d λN z=>
 (av.ok [((u.add 1).add 2,f),(a25.add 10,e),(g.add 9,i)] z)/\
 aP i b λbl=>
 (aA xt (qG 34 f f) aI z λcn ar=>
 (av.ok [(a25.add 10,e),(g.add 9,i)] ar)/\
 af xt (qf 34 (bl.add (b.toNat*1)) N) ar λ_ b0=>
 (av.ok [] b0)/\
 aP e b λcp=>
 af xt (qf 34 (cp.add (b.toNat*1)) cn) b0 λ_ ax=>
 (av.ok [] ax)/\
 K3 () ax)/\(af xt (qf 34 (bl.add (b.toNat*1)) N) z λ_ a2=>
 (av.ok [] a2)/\
 aA xt (qG 34 f f) aI a2 λcl P=>
 (av.ok [] P)/\
 aP e b λb9=>
 af xt (qf 34 (b9.add (b.toNat*1)) cl) P λ_ O=>
 (av.ok [] O)/\
 K3 () O))/\(aA xt (qG 34 f f) aI d λcq a0=>
 (av.ok [(a25.add 10,e),(g.add 9,i)] a0)/\
 aA xt (qG 34 (xi xo (x2.len:Int)) (xi xo (x2.len:Int))) aI a0 λcc ad=>
 (av.ok [(a25.add 10,e),(g.add 9,i)] ad)/\
 aP i b λcr=>
 af xt (qf 34 (cr.add (b.toNat*1)) cc) ad λ_ bk=>
 (av.ok [] bk)/\
 aP e b λb7=>
 af xt (qf 34 (b7.add (b.toNat*1)) cq) bk λ_ G=>
 (av.ok [] G)/\
 K3 () G)))
 (∃a45,(a=dB a45)/\
 bi d (a45.add 6) λay=>
 aJ (σ:=Int) (λp K4 x=>
 Br (p<(ay.len:Int))
 (aP ay p λcd=>
 ∃bb:Int×Int,an x (cd.add (p.toNat*2)) 0 bb/\
 aQ xt (qP 332 eR (.tuple #[])) x λa50 c6=>
 af xt (qf 332 a50 bb) c6 λ_ n=>
 bg (σ:=fz) (λA w=>
 bg (σ:=Sl×Sl) (λo ap=>
 bi ap A λV=>
 aJ (σ:=Int) (λk K7 c=>
 Br (k<(V.len:Int))
 (aP V k λa66=>
 be c (a66.add (k.toNat*1)) λah=>
 be c (a50.add 1) λcs=>
 Br (ah !=cs)
 (ae xt 272 #[a,(xi xp 1),ah,o.1,o.2] iV c λ_ cf=>
 K7 (qc xo (k+1)) cf)
 (K7 (qc xo (k+1)) c))
 (∃a70,(a=dB a70)/\
 bi c (a70.add 9) λb4=>
 be c (a50.add 1) λa6=>
 ∃Z,(a=dB Z)/\
 bi c (Z.add 10) λc0=>
 be c (a50.add 1) λy=>
 aP b4 a6 λa76=>
 af xt (qf 34 (a76.add (a6.toNat*1)) o.1) c λ_ H=>
 (av.ok [(a50.add 1,y)] H)/\
 aP c0 y λa77=>
 af xt (qf 34 (a77.add (y.toNat*1)) o.2) H λ_ a7=>
 (av.ok [] a7)/\
 K4 (qc xo (p+1)) a7)) (0:Int) ap)
 (λK6=>
 bi w (A.add 1) λv=>
 (aA xt (qG 34 (xi xo (x2.len:Int)) (xi xo (x2.len:Int))) aI w λt I=>
 (av.ok [(A.add 1,v)] I)/\
 ae xt 146 #[v] aI I λE X=>
 (av.ok [] X)/\
 K6 ((⟨t.ptr,t.len,t.cap⟩:Sl),(⟨E.ptr,E.len,E.cap⟩:Sl)) X)/\(ae xt 146 #[v] aI w λs am=>
 (av.ok [] am)/\
 aA xt (qG 34 (xi xo (x2.len:Int)) (xi xo (x2.len:Int))) aI am λD W=>
 (av.ok [] W)/\
 K6 ((⟨D.ptr,D.len,D.cap⟩:Sl),(⟨s.ptr,s.len,s.cap⟩:Sl)) W)))
 (λK5=>
 ∃a51,(a=dB a51)/\
 bi n (a51.add 5) λM=>
 be n a50 λl=>
 aP M l λF=>
 ∃q:Sl×Sl,an n (F.add (l.toNat*2)) 0 q/\
 aQ xt (qP 275 eR (.tuple #[])) n λY J=>
 (av.ok [(F.add (l.toNat*2),q.1),((F.add (l.toNat*2)).add 1,q.2),(a50,l),(a51.add 5,M)] J)/\
 af xt (qf 275 Y q) J λ_ bd=>
 (av.ok [] bd)/\
 K5 Y bd))
 (R (.tuple #[]) x)) (0:Int) d)) (0:Int) U)
 (λK1=>
 ∃a3,(a=dB a3)/\
 bi h (a3.add 4) λr=>
 ∃a5,(a=dB a5)/\
 bi h (a5.add 4) λm=>
 (aA xt (qG 85 (xi xo (r.len:Int)) (xi xo (r.len:Int))) aI h λv7 h1=>
 (av.ok [(a5.add 4,m),(a3.add 4,r)] h1)/\
 ∃a8,(a=dB a8)/\
 (aA xt (qG 85 (xi xo (m.len:Int)) (xi xo (m.len:Int))) aI h1 λv9 h2=>
 (av.ok [(a5.add 4,m),(a3.add 4,r)] h2)/\
 af xt (qf 85 (a8.add 9) v7) h2 λ_ h3=>
 (av.ok [] h3)/\
 ∃a9,(a=dB a9)/\
 af xt (qf 85 (a9.add 10) v9) h3 λ_ h4=>
 (av.ok [] h4)/\
 K1 () h4)/\(af xt (qf 85 (a8.add 9) v7) h1 λ_ h5=>
 (av.ok [] h5)/\
 aA xt (qG 85 (xi xo (m.len:Int)) (xi xo (m.len:Int))) aI h5 λb5 h6=>
 (av.ok [] h6)/\
 ∃a4,(a=dB a4)/\
 af xt (qf 85 (a4.add 10) b5) h6 λ_ h7=>
 (av.ok [] h7)/\
 K1 () h7))/\(aA xt (qG 85 (xi xo (m.len:Int)) (xi xo (m.len:Int))) aI h λb2 h8=>
 (av.ok [(a5.add 4,m),(a3.add 4,r)] h8)/\
 aA xt (qG 85 (xi xo (r.len:Int)) (xi xo (r.len:Int))) aI h8 λc2 h9=>
 (av.ok [(a5.add 4,m),(a3.add 4,r)] h9)/\
 ∃K,(a=dB K)/\
 af xt (qf 85 (K.add 9) c2) h9 λ_ bq=>
 (av.ok [] bq)/\
 ∃Q,(a=dB Q)/\
 af xt (qf 85 (Q.add 10) b2) bq λ_ S=>
 (av.ok [] S)/\
 K1 () S))
theorem Bo(a:aO)(b:@pD R h a):ab xt 218 #[a] h R:=au ac func218 (aj.tn (.two (.join [] [(18,36)] .n) (.two (aj.tn (.inn (.loop [(42,aW)] [(3,5),(42,77)] (aj.tn (aj.tn (.two (.inn (aj.tn (.two (.join [] [(47,67)] .n) .n))) .n)))))) (aj.tn (.inn (.loop [(83,aW)] [(6,10),(11,12),(83,134)] (aj.tn (aj.tn (.two (.inn (aj.tn (.two (.join [(7,(.sc .adr))] [(7,8),(87,95)] .n) (.two (.join [(8,ct),(9,ct)] [(8,10),(95,100)] .n) (.two (aj.tn (.inn (.loop [(103,aW)] [(11,12),(103,117)] .n))) .n))))) .n))))))))) b
end Go.Qw
