/- Lemmas for the proof of the law; no condition. -/
import Derived.Test.YtdibhfbogjngkaaGreatDoorPlA
import Derived.Test.YtdibhfbogjngkaaGreatDoorProg
set_option linter.unusedVariables false
open Go.Proofs.Tryz renaming prog -> xm
open Go.Value renaming agg -> xh, bool -> xg, int -> xb, pointer -> xd, slice -> xc, string -> xf
open Go.IntKind renaming bits -> qk, i64 -> xi, u32 -> xk, u64 -> xl, u8 -> xj, wrap -> qc
open List renaming replicate -> qg, toArray -> yP
open Go.Instr renaming alloc -> qO, box -> qN, build -> vL, buildSlice -> qq, makeSlice -> qG, storeAt -> qf
open Go.Builtin renaming append_ -> qu, copy_ -> w5
open Option renaming isNone -> za
open Int renaming fdiv -> q9, tdiv -> yb, tmod -> wg
open BitVec renaming ofInt -> qF
open Go.Proofs.Tryz
set_option maxRecDepth 1000000
open Option renaming some -> dB, none -> eH
open Bool renaming true -> eR, false -> eS
open Go renaming Value -> eX, Addr -> hU
namespace Go.Qw
open Go Go.Vc Go.Proofs
instance:Coe Int eX:=⟨λx=>xb xi x⟩
instance:Coe Sl eX:=⟨λs=>xc s.ptr s.len s.cap⟩
instance:Coe ByteArray eX:=⟨.string⟩
instance:Coe (Option hU) eX:=⟨.pointer⟩
instance:Coe hU eX:=⟨λa=>xd (dB a)⟩
instance:Coe Bool eX:=⟨.bool⟩
instance:Coe (Int×Int×Int) (List eX):=⟨λx=>[x.1,x.2.1,x.2.2]⟩
instance:Coe (Int×Int×Int) eX:=⟨λx=>xh (yP x)⟩
instance:Coe (Int×Int×Int×Int×Int×Int×Sl×Sl) (List eX):=⟨λx=>[x.1,x.2.1,x.2.2.1,x.2.2.2.1,x.2.2.2.2.1,x.2.2.2.2.2.1,x.2.2.2.2.2.2.1,x.2.2.2.2.2.2.2]⟩
instance:Coe (Int×Int×Int×Int×Int×Int×Sl×Sl) eX:=⟨λx=>xh (yP x)⟩
instance:Coe (ByteArray×Int×Int×Sl) (List eX):=⟨λx=>[x.1,x.2.1,x.2.2.1,x.2.2.2]⟩
instance:Coe (ByteArray×Int×Int×Sl) eX:=⟨λx=>xh (yP x)⟩
instance:Coe (Int×Sl) (List eX):=⟨λx=>[x.1,x.2]⟩
instance:Coe (Int×Sl) eX:=⟨λx=>xh (yP x)⟩
instance:Coe (Int×ByteArray×Sl×Int×Int×Int×Int×Sl×Sl) (List eX):=⟨λx=>[x.1,x.2.1,x.2.2.1,x.2.2.2.1,x.2.2.2.2.1,x.2.2.2.2.2.1,(xb xk x.2.2.2.2.2.2.1),x.2.2.2.2.2.2.2.1,x.2.2.2.2.2.2.2.2]⟩
instance:Coe (Int×ByteArray×Sl×Int×Int×Int×Int×Sl×Sl) eX:=⟨λx=>xh (yP x)⟩
instance:Coe (Int×Int×Int×Int×Int×Int×Int×Sl) (List eX):=⟨λx=>[x.1,x.2.1,x.2.2.1,x.2.2.2.1,x.2.2.2.2.1,x.2.2.2.2.2.1,(xb xk x.2.2.2.2.2.2.1),x.2.2.2.2.2.2.2]⟩
instance:Coe (Int×Int×Int×Int×Int×Int×Int×Sl) eX:=⟨λx=>xh (yP x)⟩
instance:Coe (Sl×Sl) (List eX):=⟨λx=>[x.1,x.2]⟩
instance:Coe (Sl×Sl) eX:=⟨λx=>xh (yP x)⟩
instance:Coe (Sl×Sl×Sl) (List eX):=⟨λx=>[x.1,x.2.1,x.2.2]⟩
instance:Coe (Sl×Sl×Sl) eX:=⟨λx=>xh (yP x)⟩
instance:Coe (Int×Int) (List eX):=⟨λx=>[x.1,x.2]⟩
instance:Coe (Int×Int) eX:=⟨λx=>xh (yP x)⟩
abbrev aZ(h:Heap)(a:hU)(k:Int->Prop):Prop:=∃x,cellOf h a=dB (xb xi x)/\k x
abbrev gj(i:IntKind)(h:Heap)(a:hU)(k:Int->Prop):Prop:=∃x:Int,cellOf h a=dB (.int i x)/\k x
abbrev bh(h:Heap)(a:hU)(k:Sl->Prop):Prop:=∃x:Sl,cellOf h a=dB (x:eX)/\k x
abbrev Ju(h:Heap)(a:hU)(k:ByteArray->Prop):Prop:=∃x:ByteArray,cellOf h a=dB (xf x)/\k x
abbrev rN(h:Heap)(a:hU)(k:Bool->Prop):Prop:=∃x:Bool,cellOf h a=dB (xg x)/\k x
abbrev kL(h:Heap)(a:hU)(k:aQ->Prop):Prop:=∃x:aQ,cellOf h a=dB (.pointer x)/\k x
abbrev aO(s:Sl)(i:Int)(k:hU->Prop):Prop:=∃a,(s.ptr=dB a/\0<=i/\i<((s.len:Nat):Int))/\k a
abbrev bS:=Int×Int×Int
abbrev iA:=ByteArray×Int×Int×Sl
abbrev dz:=Int×Int×Int×Int×Int×Int×Sl×Sl
abbrev fh:=Int×Int×Int×Int×Int×Int×Int×Sl
abbrev Tu5:=Int×Int×Int×Bool×Bool
abbrev KA:Rt:=.one (.agg [(.int .i64),(.int .i64),(.int .i64),(.int .i64),(.int .i64),(.int .i64),.slc,.slc])
abbrev aI:Rt:=.one (.sc .slc)
abbrev bB:Rt:=.one (.sc (.int .i64))
abbrev kM:Rt:=.one (.sc .ptr)
abbrev ci:Rt:=.one (.sc .bool)
abbrev jm:Rt:=.many []
abbrev cx:Ty:=.sc .slc
abbrev aU:Ty:=.sc (.int .i64)
abbrev CN:Ty:=.sc .ptr
abbrev kN:Ty:=.sc .bool
abbrev tyT:Ty:=.sc .str
variable {R:Ki} {h:Heap}
def aak:ByteArray:=⟨#[0]⟩
def aal:ByteArray:=⟨#[]⟩
def Ef:ByteArray:=⟨#[105,116]⟩
abbrev aR:TI:=⟨.fn,(.sc .fn),1,8,[.nilFunc]⟩
abbrev ti1:TI:=⟨.int .i64,(.sc (.int .i64)),1,8,[(xb xi 0)]⟩
abbrev ti2:TI:=⟨.int .u8,(.sc (.int .u8)),1,1,[(xb xj 0)]⟩
abbrev ti3:TI:=⟨.str,(.sc .str),1,16,[(.string ⟨#[]⟩)]⟩
abbrev ti4:TI:=⟨.int .u64,(.sc (.int .u64)),1,8,[(xb xl 0)]⟩
abbrev ti5:TI:=⟨.int .i32,(.sc (.int .i32)),1,4,[(.int .i32 0)]⟩
abbrev ti6:TI:=⟨.other,(.sc .any),1,0,[(.tuple #[(xd eH),(xb xi 0)])]⟩
abbrev ti7:TI:=⟨.other,(.sc .any),1,0,[(.tuple #[(xb xi 0),(xb xi 0)])]⟩
abbrev ti8:TI:=⟨.other,(.sc .any),1,0,[(.tuple #[(xc eH 0 0),(xb xi 0)])]⟩
abbrev ti9:TI:=⟨.other,(.sc .any),1,0,[(.tuple #[(xc eH 0 0),(.bool .false)])]⟩
abbrev XU:TI:=⟨.struct [(0,3),(1,34)],(.agg [(.int .i64),.slc]),2,32,[(xb xi 0),(xc eH 0 0)]⟩
abbrev ahp:TI:=⟨.struct [(0,2),(1,3),(2,4),(3,6)],(.agg [(.int .i64),(.int .i64),.bool,(.int .u8)]),4,24,[(xb xi 0),(xb xi 0),(.bool .false),(xb xj 0)]⟩
abbrev ahq:TI:=⟨.struct [(0,9),(1,12)],(.agg [.str,(.int .u64)]),2,24,[(xf ⟨#[]⟩),(xb xl 0)]⟩
abbrev ahr:TI:=⟨.struct [(0,17)],(.agg [.ptr]),1,8,[(xd eH)]⟩
abbrev ahs:TI:=⟨.struct [(0,3),(1,3),(2,3)],(.agg [(.int .i64),(.int .i64),(.int .i64)]),3,24,[(xb xi 0),(xb xi 0),(xb xi 0)]⟩
abbrev aht:TI:=⟨.struct [(0,3),(1,3),(2,24),(5,3),(6,22),(7,42)],(.agg [(.int .i64),(.int .i64),(.int .i64),(.int .i64),(.int .i64),(.int .i64),.slc,.slc]),8,96,[(xb xi 0),(xb xi 0),(xb xi 0),(xb xi 0),(xb xi 0),(xb xi 0),(xc eH 0 0),(xc eH 0 0)]⟩
abbrev ahu:TI:=⟨.struct [(0,3),(1,3),(2,46)],(.agg [(.int .i64),(.int .i64),(.int .u32)]),3,24,[(xb xi 0),(xb xi 0),(xb xk 0)]⟩
abbrev ahv:TI:=⟨.struct [(0,44),(8,31),(9,3),(10,82)],(.arr .any),74,624,[(xb xi 0),(xb xi 0),(xb xi 0),(xb xi 0),(xb xi 0),(xb xi 0),(xc eH 0 0),(xc eH 0 0),(xd eH),(xb xi 0)]++qg 64 (xd eH)⟩
abbrev ahw:TI:=⟨.struct [(0,4),(1,4),(2,3),(3,3)],(.agg [.bool,.bool,(.int .i64),(.int .i64)]),4,24,[(.bool .false),(.bool .false),(xb xi 0),(xb xi 0)]⟩
abbrev ahx:TI:=⟨.struct [(0,9),(1,3),(2,3),(3,22)],(.agg [.str,(.int .i64),(.int .i64),.slc]),4,56,[(xf ⟨#[]⟩),(xb xi 0),(xb xi 0),(xc eH 0 0)]⟩
abbrev ahy:TI:=⟨.struct [(0,27),(1,44),(9,22),(10,3),(11,3),(12,3)],(.agg [.ptr,(.int .i64),(.int .i64),(.int .i64),(.int .i64),(.int .i64),(.int .i64),.slc,.slc,.slc,(.int .i64),(.int .i64),(.int .i64)]),13,152,[(xd eH),(xb xi 0),(xb xi 0),(xb xi 0),(xb xi 0),(xb xi 0),(xb xi 0),(xc eH 0 0),(xc eH 0 0),(xc eH 0 0),(xb xi 0),(xb xi 0),(xb xi 0)]⟩
abbrev aeQ:TI:=⟨.struct [(0,3),(1,9),(2,34),(3,3),(4,3),(5,3),(6,46),(7,22),(8,22)],(.agg [(.int .i64),.str,.slc,(.int .i64),(.int .i64),(.int .i64),(.int .u32),.slc,.slc]),9,128,[(xb xi 0),(xf ⟨#[]⟩),(xc eH 0 0),(xb xi 0),(xb xi 0),(xb xi 0),(xb xk 0),(xc eH 0 0),(xc eH 0 0)]⟩
abbrev aeR:TI:=⟨.struct [(0,31),(1,3),(2,85),(3,3),(4,85),(5,4),(6,4)],(.agg [.ptr,(.int .i64),.slc,(.int .i64),.slc,.bool,.bool]),7,80,[(xd eH),(xb xi 0),(xc eH 0 0),(xb xi 0),(xc eH 0 0),(.bool .false),(.bool .false)]⟩
abbrev aeS:TI:=⟨.struct [(0,3),(1,3),(2,3),(3,24),(6,46),(7,34)],(.agg [(.int .i64),(.int .i64),(.int .i64),(.int .i64),(.int .i64),(.int .i64),(.int .u32),.slc]),8,80,[(xb xi 0),(xb xi 0),(xb xi 0),(xb xi 0),(xb xi 0),(xb xi 0),(xb xk 0),(xc eH 0 0)]⟩
abbrev aeT:TI:=⟨.struct [(0,3),(1,3),(2,46),(3,165),(4,51),(5,22)],(.agg [(.int .i64),(.int .i64),(.int .u32),.ptr,.slc,.slc]),6,80,[(xb xi 0),(xb xi 0),(xb xk 0),(xd eH),(xc eH 0 0),(xc eH 0 0)]⟩
abbrev aeU:TI:=⟨.struct [(0,192),(255,194)],(.arr .any),511,2304,qg 255 (xb xj 0)++qg 256 (xb xi 0)⟩
abbrev aeV:TI:=⟨.struct [(0,119),(1,3),(2,85)],(.agg [.ptr,(.int .i64),.slc]),3,40,[(xd eH),(xb xi 0),(xc eH 0 0)]⟩
abbrev aeW:TI:=⟨.struct [(0,24),(3,46),(4,85)],(.agg [(.int .i64),(.int .i64),(.int .i64),(.int .u32),.slc]),5,56,[(xb xi 0),(xb xi 0),(xb xi 0),(xb xk 0),(xc eH 0 0)]⟩
abbrev aeX:TI:=⟨.struct [(0,3),(1,239)],(.agg [(.int .i64),(.flt .f64)]),2,16,[(xb xi 0),(.float Go.FloatKind.f64 0)]⟩
abbrev aeY:TI:=⟨.struct [(0,22),(1,34)],(.agg [.slc,.slc]),2,48,[(xc eH 0 0),(xc eH 0 0)]⟩
abbrev aeZ:TI:=⟨.struct [(0,277),(1,22),(2,22)],(.agg [.slc,.slc,.slc]),3,72,[(xc eH 0 0),(xc eH 0 0),(xc eH 0 0)]⟩
abbrev afa:TI:=⟨.struct [(0,119),(1,24),(4,85),(5,273),(6,279),(9,85),(10,85)],(.agg [.ptr,(.int .i64),(.int .i64),(.int .i64),.slc,.slc,.slc,.slc,.slc,.slc,.slc]),11,200,[(xd eH),(xb xi 0),(xb xi 0),(xb xi 0),(xc eH 0 0),(xc eH 0 0),(xc eH 0 0),(xc eH 0 0),(xc eH 0 0),(xc eH 0 0),(xc eH 0 0)]⟩
abbrev afb:TI:=⟨.struct [(0,235),(1,235),(2,3),(3,3),(4,4)],(.agg [(.cpx .f64),(.cpx .f64),(.int .i64),(.int .i64),.bool]),5,56,[(.complex Go.FloatKind.f64 0 0),(.complex Go.FloatKind.f64 0 0),(xb xi 0),(xb xi 0),(.bool .false)]⟩
abbrev afc:TI:=⟨.struct [(0,273),(1,282),(2,85)],(.agg [.slc,.slc,.slc]),3,72,[(xc eH 0 0),(xc eH 0 0),(xc eH 0 0)]⟩
abbrev afd:TI:=⟨.struct [(0,3),(1,3)],(.agg [(.int .i64),(.int .i64)]),2,16,[(xb xi 0),(xb xi 0)]⟩
abbrev afe:TI:=⟨.array 256 4,(.arr .bool),256,256,qg 256 (.bool .false)⟩
abbrev aff:TI:=⟨.struct [(0,311)],(.agg [(.int .u64)]),1,8,[(xb xl 0)]⟩
abbrev afg:TI:=⟨.struct [(0,51),(1,282),(2,282)],(.agg [.slc,.slc,.slc]),3,72,[(xc eH 0 0),(xc eH 0 0),(xc eH 0 0)]⟩
abbrev afh:TI:=⟨.struct [(0,5),(1,5)],(.agg [(.int .u8),(.int .u8)]),2,2,[(xb xj 0),(xb xj 0)]⟩
abbrev afi:TI:=⟨.struct [(0,17),(1,17),(2,17),(3,9)],(.agg [.ptr,.ptr,.ptr,.str]),4,40,[(xd eH),(xd eH),(xd eH),(xf ⟨#[]⟩)]⟩
abbrev afj:TI:=⟨.struct [(0,391)],(.agg []),0,0,[]⟩
abbrev afk:TI:=⟨.struct [(0,12),(1,12),(2,46),(3,394),(4,5),(5,5),(6,395),(7,396),(8,252),(9,397),(10,398)],(.agg [(.int .u64),(.int .u64),(.int .u32),(.int .u8),(.int .u8),(.int .u8),(.int .u8),.fn,.ptr,(.int .i32),(.int .i32)]),11,48,[(xb xl 0),(xb xl 0),(xb xk 0),(xb xj 0),(xb xj 0),(xb xj 0),(xb xj 0),.nilFunc,(xd eH),(.int .i32 0),(.int .i32 0)]⟩
noncomputable def tbl:kA:=[⟨.other,(.sc .any),1,0,[(.tuple #[])]⟩,aR,ti1,ti1,⟨.bool,(.sc .bool),1,1,[(.bool .false)]⟩,ti2,ti2,ahp,ahp,ti3,ti3,ti3,ti4,ahq,ahq,⟨.ptr 390,(.sc .ptr),1,8,[(xd eH)]⟩,⟨.ptr 393,(.sc .ptr),1,8,[(xd eH)]⟩,⟨.ptr 400,(.sc .ptr),1,8,[(xd eH)]⟩,ahr,ahr,⟨.other,(.sc .any),1,16,[.nilIface]⟩,ti5,⟨.slice 3,(.sc .slc),1,24,[(xc eH 0 0)]⟩,ahs,ahs,⟨.other,(.sc .any),1,0,[(.tuple #[(.agg #[(xb xi 0),(xb xi 0),(xb xi 0)]),(xb xi 0),(xc eH 0 0)])]⟩,aR,⟨.ptr 84,(.sc .ptr),1,8,[(xd eH)]⟩,ti1,ti6,aR,⟨.ptr 92,(.sc .ptr),1,8,[(xd eH)]⟩,aR,aR,⟨.slice 5,(.sc .slc),1,24,[(xc eH 0 0)]⟩,aR,aR,⟨.slice 9,(.sc .slc),1,24,[(xc eH 0 0)]⟩,aR,aR,ti7,aR,⟨.slice 94,(.sc .slc),1,24,[(xc eH 0 0)]⟩,aht,aht,aR,⟨.int .u32,(.sc (.int .u32)),1,4,[(xb xk 0)]⟩,ahu,ahu,⟨.slice 48,(.sc .slc),1,24,[(xc eH 0 0)]⟩,aR,⟨.slice 22,(.sc .slc),1,24,[(xc eH 0 0)]⟩,aR,aR,aR,aR,aR,⟨.other,(.sc .any),1,0,[(.tuple #[(xc eH 0 0),(.bool .false),(xb xi 0)])]⟩,aR,aR,aR,aR,⟨.other,(.sc .any),1,0,[(.tuple #[(.bool .false),(xb xi 0)])]⟩,aR,aR,aR,aR,aR,aR,ti8,aR,aR,aR,aR,⟨.ptr 156,(.sc .ptr),1,8,[(xd eH)]⟩,aR,aR,aR,aR,ti9,aR,aR,⟨.array 64 74,(.arr .ptr),64,512,qg 64 (xd eH)⟩,ahv,ahv,⟨.slice 34,(.sc .slc),1,24,[(xc eH 0 0)]⟩,aR,aR,aR,⟨.slice 101,(.sc .slc),1,24,[(xc eH 0 0)]⟩,aR,ahw,ahw,ahx,ahx,aR,aR,ti9,aR,aR,XU,XU,aR,aR,aR,aR,aR,⟨.ptr 109,(.sc .ptr),1,8,[(xd eH)]⟩,ahy,ahy,aR,aR,aR,aR,⟨.slice 117,(.sc .slc),1,24,[(xc eH 0 0)]⟩,aR,XU,XU,aR,⟨.ptr 197,(.sc .ptr),1,8,[(xd eH)]⟩,aR,aR,aR,ti8,aR,⟨.ptr 200,(.sc .ptr),1,8,[(xd eH)]⟩,aR,aR,aR,⟨.slice 85,(.sc .slc),1,24,[(xc eH 0 0)]⟩,aR,aR,⟨.slice 135,(.sc .slc),1,24,[(xc eH 0 0)]⟩,aR,aeQ,aeQ,aR,⟨.other,(.sc .any),1,0,[(.tuple #[(xb xi 0),(xc eH 0 0),(.bool .false)])]⟩,aR,aR,aR,aR,aR,aR,aR,aR,aR,aR,aR,aR,ti9,aR,aR,aR,aR,aeR,aeR,aR,aR,aR,aR,aR,⟨.other,(.sc .any),1,0,[(.tuple #[(xb xi 0),(.bool .false)])]⟩,aR,aR,⟨.ptr 234,(.sc .ptr),1,8,[(xd eH)]⟩,ti6,aR,aR,aeS,aeS,aR,aR,aR,aR,aR,aR,aR,aR,aR,aR,aR,⟨.ptr 187,(.sc .ptr),1,8,[(xd eH)]⟩,ti6,aR,aR,aeT,aeT,aR,⟨.slice 170,(.sc .slc),1,24,[(xc eH 0 0)]⟩,aR,aR,⟨.array 255 5,(.arr (.int .u8)),255,255,qg 255 (xb xj 0)⟩,aR,⟨.array 256 3,(.arr (.int .i64)),256,2048,qg 256 (xb xi 0)⟩,aR,aeU,aeU,aR,aeV,aeV,aR,aR,aR,aR,aR,aR,aR,aR,aR,aR,aR,aR,aR,aR,aR,aR,aR,aR,aR,ti8,aR,aR,aR,aR,aR,aR,aR,aR,ti4,aR,aR,aR,aeW,aeW,⟨.cpx,(.sc (.cpx .f64)),1,16,[(.complex Go.FloatKind.f64 0 0)]⟩,aR,⟨.slice 242,(.sc .slc),1,24,[(xc eH 0 0)]⟩,⟨.array 64 4,(.arr .bool),64,64,qg 64 (.bool .false)⟩,⟨.flt,(.sc (.flt .f64)),1,8,[(.float Go.FloatKind.f64 0)]⟩,aR,aeX,aeX,aR,aR,aR,aR,aR,aR,aR,aR,aR,⟨.ptr 5,(.sc .ptr),1,8,[(xd eH)]⟩,aR,⟨.other,(.sc .any),1,0,[(.tuple #[(.agg #[(xb xi 0),(xb xi 0),(xb xi 0),(xb xi 0),(xb xi 0),(xb xi 0),(xb xk 0),(xc eH 0 0)]),(.bool .false)])]⟩,aR,aR,aR,aR,aR,aR,aR,aR,aR,aR,aR,aR,aR,aR,aR,aR,aR,aR,⟨.slice 275,(.sc .slc),1,24,[(xc eH 0 0)]⟩,aeY,aeY,⟨.ptr 281,(.sc .ptr),1,8,[(xd eH)]⟩,⟨.slice 332,(.sc .slc),1,24,[(xc eH 0 0)]⟩,aeZ,aeZ,afa,afa,⟨.slice 4,(.sc .slc),1,24,[(xc eH 0 0)]⟩,⟨.other,(.sc .any),1,0,[(.tuple #[(xc eH 0 0),(xc eH 0 0),(xc eH 0 0),(xb xi 0)])]⟩,aR,aR,⟨.other,(.sc .any),1,0,[(.tuple #[(xc eH 0 0),(xc eH 0 0)])]⟩,aR,aR,aR,⟨.ptr 344,(.sc .ptr),1,8,[(xd eH)]⟩,aR,aR,aR,aR,aR,⟨.ptr 299,(.sc .ptr),1,8,[(xd eH)]⟩,aR,afb,afb,aR,aR,aR,ti1,ti7,aR,aR,aR,aR,aR,aR,ti4,aR,aR,aR,aR,aR,aR,aR,aR,aR,aR,aR,aR,⟨.ptr 326,(.sc .ptr),1,8,[(xd eH)]⟩,afc,afc,aR,⟨.other,(.sc .any),1,0,[(.tuple #[(.agg #[(xc eH 0 0),(xc eH 0 0),(xc eH 0 0)]),(.bool .false)])]⟩,aR,aR,afd,afd,aR,aR,aR,aR,afe,afe,⟨.other,(.sc .any),1,0,[(.tuple #[(.agg (qg 256 (.bool .false)).toArray),(.bool .false)])]⟩,aR,aR,⟨.ptr 338,(.sc .ptr),1,8,[(xd eH)]⟩,aff,aff,aR,aR,aR,aR,aR,aR,ti4,aR,aR,aR,⟨.ptr 3,(.sc .ptr),1,8,[(xd eH)]⟩,aR,aR,aR,aR,aR,aR,aR,aR,⟨.ptr 366,(.sc .ptr),1,8,[(xd eH)]⟩,afg,afg,aR,⟨.other,(.sc .any),1,0,[(.tuple #[(.agg #[(xb xi 0),(xb xi 0)]),(.bool .false)])]⟩,aR,aR,⟨.other,(.sc .any),1,0,[(.tuple #[(.int .i32 0),(xb xi 0)])]⟩,aR,aR,aR,aR,⟨.ptr 351,(.sc .ptr),1,8,[(xd eH)]⟩,ti7,aR,aR,aR,aR,aR,aR,⟨.array 256 5,(.arr (.int .u8)),256,256,qg 256 (xb xj 0)⟩,afh,afh,⟨.array 16 386,(.arr (.int .u8)),32,32,qg 32 (xb xj 0)⟩,aR,afi,afi,⟨.array 0 16,(.arr .ptr),0,0,[]⟩,afj,afj,ti2,ti2,aR,ti5,ti5,afk,afk,⟨.other,(.sc .any),1,8,[(xd eH)]⟩]
noncomputable def C:Ctx:={P:=xm,T:=tbl,tup:=[(0,[]),(25,[(.agg [(.int .i64),(.int .i64),(.int .i64)]),(.sc (.int .i64)),(.sc .slc)]),(29,[(.sc .ptr),(.sc (.int .i64))]),(40,[(.sc (.int .i64)),(.sc (.int .i64))]),(57,[(.sc .slc),(.sc .bool),(.sc (.int .i64))]),(62,[(.sc .bool),(.sc (.int .i64))]),(69,[(.sc .slc),(.sc (.int .i64))]),(79,[(.sc .slc),(.sc .bool)]),(97,[(.sc .slc),(.sc .bool)]),(123,[(.sc .slc),(.sc (.int .i64))]),(137,[(.sc (.int .i64)),(.sc .slc),(.sc .bool)]),(150,[(.sc .slc),(.sc .bool)]),(162,[(.sc (.int .i64)),(.sc .bool)]),(166,[(.sc .ptr),(.sc (.int .i64))]),(183,[(.sc .ptr),(.sc (.int .i64))]),(220,[(.sc .slc),(.sc (.int .i64))]),(254,[(.agg [(.int .i64),(.int .i64),(.int .i64),(.int .i64),(.int .i64),(.int .i64),(.int .u32),.slc]),(.sc .bool)]),(283,[(.sc .slc),(.sc .slc),(.sc .slc),(.sc (.int .i64))]),(286,[(.sc .slc),(.sc .slc)]),(304,[(.sc (.int .i64)),(.sc (.int .i64))]),(328,[(.agg [.slc,.slc,.slc]),(.sc .bool)]),(339,[(.arr .bool),(.sc .bool)]),(368,[(.agg [(.int .i64),(.int .i64)]),(.sc .bool)]),(371,[(.sc (.int .i32)),(.sc (.int .i64))]),(377,[(.sc (.int .i64)),(.sc (.int .i64))])],fns:=[eS,eS]++qg 328 eR++qg 22 eS++[eR]}
theorem aio:(List.range C.T.length).map (kA.seen C.P)=C.T.map kA.told:=l0
theorem afY:C.P.follows .mixedOrders=eR:=l0
theorem aip:(C.P.funcs.toList.map λf=>!(f.name== "runtime.NumGoroutine")&&f.body.isSome)=C.fns:=l0
theorem ac:C.Ok:={tbl:=aio,mixed:=afY,fns:=aip}
noncomputable def lI(a3:Sl)(bq:Int)(a0:Int)(a6:Int):Prop:=
 ae xm 7 #[a3] (.many [(.agg [(.int .i64),(.int .i64),(.int .i64)]),aU,cx]) h λz h1=>
 aP xm (qO 24 eR (.tuple #[])) h1 λa h2=>
 af xm (qf 24 a z.1) h2 λ_ h3=>
 bg (σ:=aQ×Int) (λe n=>
 bg (σ:=Unit) (λ_ a1=>
 ae xm 12 #[a6,(xb xi 3)] bB a1 λH bd=>
 ae xm 15 #[e.1,H,(xb xi 64)] (.many [aU,aU]) bd λf b9=>
 ae xm 16 #[e.1] KA b9 λcl S=>
 aP xm (qO 44 eR (.tuple #[])) S λp ap=>
 af xm (qf 44 p cl) ap λ_ K=>
 ∃F:dz,an K p 0 F/\
 ae xm 17 #[F] aI K λa7 O=>
 aO a7 (0:Int) λcp=>
 ∃i:bS,an O (cp.add ((0:Int).toNat*3)) 0 [i.1,i.2.1,(xb xk i.2.2)]/\
 aP xm (qO 48 eR (.tuple #[])) O λa28 W=>
 af xm (qf 48 a28 (xh #[i.1,i.2.1,(xb xk i.2.2)])) W λ_ x=>
 aZ x a28 λbr=>
 aZ x (a28.add 1) λa4=>
 ae xm 18 #[e.1,br,a4] aI x λr cd=>
 aJ (σ:=Sl×Int) (λd K4 s=>
 Br (d.2<(r.len:Int))
 (aO r d.2 λar=>
 bh s (ar.add (d.2.toNat*1)) λV=>
 aA xm (qu #[22,22] 22 #[d.1,V]) aI s λy cf=>
 K4 ((⟨y.ptr,y.len,y.cap⟩:Sl),qc xi (d.2+1)) cf)
 (aJ (σ:=Int) (λw K5 b=>
 aZ b a λT=>
 Br (decide (w<(qc xi ((qc xi (T+z.2.1))+f.1))))
 (ae xm 19 #[d.1,w] ci b λbx B=>
 Br (!bx)
 (R eS B)
 (K5 (qc xi (w+1)) B))
 (bg (σ:=Unit) (λ_ N=>
 bg (σ:=Unit) (λ_ ad=>
 ae xm 14 #[] ci ad λbk cc=>
 R bk cc)
 (λK7=>
 bg (σ:=Bool) (λah t=>
 Br ah
 (aZ t a λa8=>
 ae xm 22 #[r] aI t λl b3=>
 aJ (σ:=Int) (λc K9 q=>
 Br (c<(l.len:Int))
 (aO l c λa50=>
 af xm (qf 22 (a50.add (c.toNat*1)) (xc eH 0 0)) q λ_ P=>
 aO r c λa51=>
 bh P (a51.add (c.toNat*1)) λA=>
 aJ (σ:=Int) (λo I j=>
 Br (o<(A.len:Int))
 (aO A o λay=>
 aZ j (ay.add (o.toNat*1)) λL=>
 Br (L !=(qc xi ((qc xi ((qc xi (a8+z.2.1))+f.1))-1)))
 (aO l c λa5=>
 bh j (a5.add (c.toNat*1)) λcn=>
 aA xm (qq 22 1 #[(0,L)]) aI j λa9 cs=>
 aA xm (qu #[22,22] 22 #[cn,a9]) aI cs λb2 X=>
 aO l c λbb=>
 af xm (qf 22 (bb.add (c.toNat*1)) b2) X λ_ Y=>
 I (qc xi (o+1)) Y)
 (I (qc xi (o+1)) j))
 (K9 (qc xi (c+1)) j)) (0:Int) P)
 (∃J:bS,an q (p.add 2) 0 J/\
 gj .u32 q (a28.add 2) λU=>
 ae xm 23 #[J,(xb xk U),l,H] (.many [cx,kN,aU]) q λG v=>
 Br (!G.2.1) (R eS v) (Br (G.2.2 !=0)
 (R eS v)
 (K7 () v)))) (0:Int) b3)
 (K7 () t))
 (λK8=>
 Br (f.1>0) (K8 (f.2==0) N) (K8 eS N))))
 (λK6=>
 aZ b a λk=>
 Br ((d.1.len:Int) !=(qc xi ((qc xi (k+z.2.1))+f.1))) ((av.ok [(a,k)] b)/\
 (av.ok [(a,k)] b)/\
 R eS b) (∃E:bS,an b (p.add 2) 0 E/\
 gj .u32 b (a28.add 2) λQ=>
 ∃m:bS,an b a 0 m/\
 ae xm 20 #[E,(xb xk Q),d.1] bB b λcq M=>
 (av.ok [(a,m.1),(a.add 1,m.2.1),(a.add 2,m.2.2),(a,k)] M)/\
 ae xm 21 #[m] bB M λb0 g=>
 (av.ok [(a,k)] g)/\
 Br (cq !=b0) (R eS g) (Br (f.2 !=0) (Br (f.2 !=12) (R eS g) (Br (f.1 !=64)
 (R eS g)
 (K6 () g))) (K6 () g)))))) (0:Int) s)) ((⟨eH,0,0⟩:Sl),(0:Int)) cd)
 (λK2=>
 bg (σ:=Bool) (λc2 u=>
 Br c2
 (Br (!(za e.1)) (ae xm 13 #[e.1] aI u λcr D=>
 Br ((cr.len:Int)==0) (ae xm 14 #[] ci D λb4 b1=>
 R b4 b1) (R eS D)) (R eS u))
 (K2 () u))
 (λZ=>
 Br (e.2 !=0) (Z eR n) (Br (za e.1) (Z eR n) (aZ n a λc1=>
 aZ n (a.add 2) λam=>
 ae xm 12 #[bq,(qc xi (c1*am))] bB n λb6 b7=>
 ae xm 11 #[(qc xi (1+b6)),a0] aI b7 λb5 c0=>
 ae xm 10 #[e.1,Ef,b5] bB c0 λbl ax=>
 Z (bl !=0) ax)))))
 (λK1=>
 ∃x3:bS,an h3 a 0 x3/\
 (ae xm 9 #[] kM h3 λr4 h4=>
 (av.ok [(a,x3.1),(a.add 1,x3.2.1),(a.add 2,x3.2.2)] h4)/\
 aA xm (qq 22 3 #[(0,(xb xi 150)),(1,(xb xi 150)),(2,(xb xi 150))]) aI h4 λv5 h5=>
 (av.ok [(a,x3.1),(a.add 1,x3.2.1),(a.add 2,x3.2.2)] h5)/\
 ae xm 8 #[x3,z.2.1,r4,v5] (.many [CN,aU]) h5 λr6 h6=>
 (av.ok [] h6)/\
 K1 (r6.1,r6.2) h6)/\(aA xm (qq 22 3 #[(0,(xb xi 150)),(1,(xb xi 150)),(2,(xb xi 150))]) aI h3 λv7 h7=>
 (av.ok [(a,x3.1),(a.add 1,x3.2.1),(a.add 2,x3.2.2)] h7)/\
 ae xm 9 #[] kM h7 λr8 h8=>
 (av.ok [(a,x3.1),(a.add 1,x3.2.1),(a.add 2,x3.2.2)] h8)/\
 ae xm 8 #[x3,z.2.1,r8,v7] (.many [CN,aU]) h8 λr9 h9=>
 (av.ok [] h9)/\
 K1 (r9.1,r9.2) h9))
theorem pU(c:Sl)(b:Int)(a:Int)(d:Int)(e:@lI R h c b a d):ab xm 3 #[c,b,a,d] h R:=az ac func3 (ak.tn (ak.tn (.two (.join [(12,CN),(13,aU)] [(12,14),(36,44)] .n) (.two (.join [] [(8,9),(44,76)] (.two (.join [(64,kN)] [(44,65)] .n) .n)) (ak.tn (ak.tn (ak.tn (ak.tn (ak.tn (ak.tn (.two (ak.tn (.inn (.loop [(19,cx),(98,aU)] [(19,21),(98,108)] .n))) (.two (ak.tn (.inn (.loop [(21,aU)] [(8,9),(21,22),(108,122)] .n))) (.two (.join [] [(8,9),(122,154)] .n) (.two (.join [] [(8,9),(22,25),(26,30),(154,218)] (.two (.join [(159,kN)] [(154,160)] .n) (.two (ak.tn (ak.tn (.two (ak.tn (.inn (.loop [(171,aU)] [(24,25),(26,27),(171,201)] (ak.tn (ak.tn (.two (.inn (ak.tn (ak.tn (ak.tn (.inn (.loop [(182,aU)] [(26,27),(182,200)] .n)))))) .n)))))) .n))) .n))) .n)))))))))))))) e
noncomputable def nN(b:Sl):Prop:=
 aP xm (qO 24 eR (.tuple #[])) h λu D=>
 ae xm 38 #[b,(xb xi 0)] bB D λx A=>
 ae xm 38 #[b,(xb xi 1)] bB A λw h3=>
 ae xm 38 #[b,(xb xi 2)] bB h3 λy G=>
 ae xm 37 #[x,w,y] (.one (.agg [(.int .i64),(.int .i64),(.int .i64)])) G λz I=>
 aP xm (qO 24 eR (.tuple #[])) I λd v=>
 af xm (qf 24 d z) v λ_ E=>
 aJ (σ:=Sl×Int) (λj F h8=>
 ae xm 38 #[b,(xb xi 4)] bB h8 λH J=>
 ae xm 12 #[H,(xb xi 4)] bB J λB g=>
 Br (j.2<(qc xi (2+B)))
 (ae xm 38 #[b,(qc xi (5+j.2))] bB g λs o=>
 ae xm 12 #[s,(xb xi 50)] bB o λp t=>
 aA xm (qq 22 1 #[(0,(qc xi (8+p)))]) aI t λq l=>
 aA xm (qu #[22,22] 22 #[j.1,q]) aI l λe r=>
 F ((⟨e.ptr,e.len,e.cap⟩:Sl),qc xi (j.2+1)) r)
 (∃a:bS,an g d 0 a/\
 ae xm 38 #[b,(xb xi 3)] bB g λn k=>
 (av.ok [(d,a.1),(d.add 1,a.2.1),(d.add 2,a.2.2)] k)/\
 ae xm 12 #[n,(xb xi 7)] bB k λm i=>
 (av.ok [(d,a.1),(d.add 1,a.2.1),(d.add 2,a.2.2)] i)/\
 af xm (qf 24 u a) i λ_ f=>
 (av.ok [] f)/\
 ∃c:bS,an f u 0 c/\
 R (.tuple #[c,m,j.1]) f)) ((⟨eH,0,0⟩:Sl),(0:Int)) E
theorem uW(a:Sl)(b:@nN R h a):ab xm 7 #[a] h R:=az ac func7 (ak.tn (ak.tn (ak.tn (ak.tn (.two (ak.tn (.inn (.loop [(7,cx),(8,aU)] [(7,9),(16,35)] .n))) .n))))) b
noncomputable def CO(y:bS)(a:Int)(c:aQ)(b:Sl):Prop:=
 aP xm (qN 24 y) h λk S=>
 ae xm 39 #[b] (.many [cx,kN]) S λl E=>
 bg (σ:=Unit) (λ_ L=>
 bg (σ:=aQ) (λd T=>
 aJ (σ:=Int) (λi U h8=>
 Br (i<(l.1.len:Int))
 (aO l.1 i λz=>
 aZ h8 (z.add (i.toNat*1)) λm=>
 aO b m λr=>
 aZ h8 (r.add (m.toNat*1)) λn=>
 ∃o,(d=dB o)/\
 ∃u:dz,an h8 o 0 u/\
 ae xm 42 #[u] aI h8 λA I=>
 (av.ok [(r.add (m.toNat*1),n)] I)/\
 Br (n<(A.len:Int))
 (R (.tuple #[(xd eH),(xb xi 7)]) I)
 (U (qc xi (i+1)) I))
 (aJ (σ:=Int) (λj Q f=>
 Br (j<(l.1.len:Int))
 (aO l.1 j λF=>
 aZ f (F.add (j.toNat*1)) λe=>
 aO b e λa22=>
 aZ f (a22.add (e.toNat*1)) λG=>
 ∃t,(d=dB t)/\
 ae xm 43 #[G,c] kM f λH p=>
 (av.ok [] p)/\
 (0<=e/\e<((64:Nat):Int))/\
 af xm (qf 74 ((t.add 10).add (e.toNat*1)) H) p λ_ x=>
 (av.ok [] x)/\
 Q (qc xi (j+1)) x)
 (∃s,(d=dB s)/\
 ∃w:dz,an f s 0 w/\
 ae xm 45 #[w,l.1] aI f λD B=>
 ae xm 44 #[(.func (.func 35) #[d] #[]),D] bB B λv q=>
 Br (v !=0)
 (R (.tuple #[(xd eH),v]) q)
 (R (.tuple #[d,(xb xi 0)]) q))) (0:Int) h8)) (0:Int) T)
 (λO=>
 ∃g:bS,an L k 0 g/\
 ae xm 41 #[c] bB L λN M=>
 (av.ok [(k,g.1),(k.add 1,g.2.1),(k.add 2,g.2.2)] M)/\
 ∃K:eX,(aL xm (vL 84 #[(0,(xh #[(xb xi 1),(xb xi 0),g.1,g.2.1,g.2.2,a,l.1,(xc eH 0 0)])),(1,c),(2,N)]) K)/\
 aP xm (qN 84 K) M λa9 J=>
 (av.ok [(k,g.1),(k.add 1,g.2.1),(k.add 2,g.2.2)] J)/\
 O (dB a9) J))
 (λV=>
 Br (!l.2) (R (.tuple #[(xd eH),(xb xi 1)]) E) (∃x3:bS,an E k 0 x3/\
 ae xm 40 #[x3] ci E λP h3=>
 Br (!P) (R (.tuple #[(xd eH),(xb xi 1)]) h3) (Br (a<0) (R (.tuple #[(xd eH),(xb xi 1)]) h3) (Br (a>16) (R (.tuple #[(xd eH),(xb xi 1)]) h3) (Br (za c)
 (R (.tuple #[(xd eH),(xb xi 1)]) h3)
 (V () h3))))))
theorem KB(d:bS)(b:Int)(c:aQ)(a:Sl)(e:@CO R h d b c a):ab xm 8 #[d,b,c,a] h R:=az ac func8 (ak.tn (ak.tn (.two (.join [] [(8,10),(23,42)] .n) (.two (.join [(12,CN)] [(12,13),(42,51)] .n) (.two (ak.tn (.inn (.loop [(53,aU)] [(8,10),(14,15),(53,69)] .n))) (.two (ak.tn (.inn (.loop [(71,aU)] [(16,17),(71,87)] .n))) .n)))))) e
noncomputable def Jv:Prop:=
 aP xm (qN 92 (xh #[eS,eS,(xb xi 0),(xb xi 0)])) h λa b=>
 R a b
theorem Qy(a:@Jv R h):ab xm 9 #[] h R:=az ac func9 .n a
noncomputable def uA(a:aQ)(e:ByteArray)(k:Sl):Prop:=
 ae xm 46 #[a,e,k] bB h λr1 Z=>
 Br (r1 !=0)
 (R r1 Z)
 (∃a2,(a=dB a2)/\
 aZ Z (a2.add 1) λx3=>
 aP xm (qO 94 eR (.tuple #[])) Z λa4 h2=>
 af xm (qf 94 a4 (xh #[e,x3,(xb xi (k.len:Int)),(xc eH 0 0)])) h2 λ_ h3=>
 bg (σ:=Sl×Bool) (λu h6=>
 Br (!u.2)
 (R (xb xi 8) h6)
 (af xm (qf 22 (a4.add 3) u.1) h6 λ_ h7=>
 ∃G:iA,an h7 a4 0 G/\
 ae xm 49 #[a,G,k] (.many [cx,kN]) h7 λy h8=>
 aP xm (qO 89 eR (.tuple #[])) h8 λj h9=>
 af xm (qf 89 j y.1) h9 λ_ g=>
 Br (!y.2)
 (R (xb xi 8) g)
 (bg (σ:=hU×Sl) (λf N=>
 ∃w:dz,an N f.1 0 w/\
 ae xm 42 #[w] aI N λad Y=>
 aP xm (qO 3 eR (.tuple #[])) Y λr U=>
 af xm (qf 3 r (xb xi (ad.len:Int))) U λ_ X=>
 ae xm 52 #[a,f.2,(.func (.func 51) #[] #[r,j])] ci X λam F=>
 Br (!am)
 (R (xb xi 7) F)
 (ae xm 53 #[a,f.2,(.func (.func 51) #[] #[r,j])] bB F λA l=>
 Br (A !=0)
 (R A l)
 (bh l j λS=>
 ae xm 44 #[(.func (.func 35) #[a] #[]),S] bB l λL n=>
 Br (L !=0)
 (R L n)
 (∃H:dz,an n f.1 0 H/\
 ae xm 54 #[a,H,f.2] bB n λW Q=>
 R W Q))))
 (λT=>
 ∃c,(a=dB c)/\
 ∃b:dz,an g c 0 b/\
 ∃d:iA,an g a4 0 d/\
 (ae xm 50 #[b,d] KA g λK m=>
 (av.ok [] m)/\
 (ae xm 25 #[a] aI m λo P=>
 (av.ok [] P)/\
 aP xm (qO 44 eR (.tuple #[])) P λs z=>
 (av.ok [] z)/\
 af xm (qf 44 s K) z λ_ E=>
 (av.ok [] E)/\
 T (s,(⟨o.ptr,o.len,o.cap⟩:Sl)) E)/\(aP xm (qO 44 eR (.tuple #[])) m λa22 O=>
 (av.ok [] O)/\
 ae xm 25 #[a] aI O λq I=>
 (av.ok [] I)/\
 af xm (qf 44 a22 K) I λ_ D=>
 (av.ok [] D)/\
 T (a22,(⟨q.ptr,q.len,q.cap⟩:Sl)) D))/\(aP xm (qO 44 eR (.tuple #[])) g λJ t=>
 (av.ok [(a4,d.1),(a4.add 1,d.2.1),(a4.add 2,d.2.2.1),(a4.add 3,d.2.2.2),(c,b.1),(c.add 1,b.2.1),(c.add 2,b.2.2.1),(c.add 3,b.2.2.2.1),(c.add 4,b.2.2.2.2.1),(c.add 5,b.2.2.2.2.2.1),(c.add 6,b.2.2.2.2.2.2.1),(c.add 7,b.2.2.2.2.2.2.2)] t)/\
 ae xm 50 #[b,d] KA t λah B=>
 (av.ok [] B)/\
 ae xm 25 #[a] aI B λp v=>
 (av.ok [] v)/\
 af xm (qf 44 J ah) v λ_ x=>
 (av.ok [] x)/\
 T (J,(⟨p.ptr,p.len,p.cap⟩:Sl)) x)))))
 (λK1=>
 ∃a5,(a=dB a5)/\
 ∃M:bS,an h3 (a5.add 2) 0 M/\
 aZ h3 (a4.add 1) λx7=>
 ∃a8,(a=dB a8)/\
 ∃x9:bS,an h3 (a8.add 2) 0 x9/\
 ae xm 48 #[x9,(xb xi (k.len:Int))] bB h3 λV h4=>
 (av.ok [(a4.add 1,x7),(a5.add 2,M.1),((a5.add 2).add 1,M.2.1),((a5.add 2).add 2,M.2.2)] h4)/\
 ae xm 47 #[M,x7,V] (.many [cx,kN]) h4 λi h5=>
 (av.ok [] h5)/\
 K1 ((⟨i.1.ptr,i.1.len,i.1.cap⟩:Sl),i.2) h5))
theorem FG(c:aQ)(a:ByteArray)(b:Sl)(d:@uA R h c a b):ab xm 10 #[c,a,b] h R:=az ac func10 (ak.tn (ak.tn (ak.tn (.two (.join [(9,cx),(10,kN)] [(9,11),(34,53)] .n) (ak.tn (ak.tn (ak.tn (ak.tn (.two (.join [(12,(.sc .adr)),(13,cx)] [(12,14),(66,74)] .n) .n))))))))) d
noncomputable def oZ(c:Int)(b:Int):Prop:=
 aJ (σ:=Sl×Int) (λa e d=>
 Br (a.2<c)
 (((7:Int)≠0)/\
 (0<=(wg a.2 7))/\
 aA xm (qq 34 1 #[(0,(xb xj (qc xj (qc xi ((q9 b (2^min (wg a.2 7).toNat (qk xi)))+(qc xi (a.2*(qc xi ((qF (qk xi) b|||(qF (qk xi) (1:Int))).toNat:Nat)))))))))]) aI d λg f=>
 aA xm (qu #[34,34] 34 #[a.1,g]) aI f λv3 h3=>
 e ((⟨v3.ptr,v3.len,v3.cap⟩:Sl),qc xi (a.2+1)) h3)
 (R a.1 d)) ((⟨eH,0,0⟩:Sl),(0:Int)) h
theorem AO(a:Int)(b:Int)(c:@oZ R h a b):ab xm 11 #[a,b] h R:=az ac func11 (ak.tn (ak.tn (.two (ak.tn (.inn (.loop [(5,cx),(6,aU)] [(5,25)] .n))) .n))) c
noncomputable def nO(b:Int)(a:Int):Prop:=
 (a≠0)/\
 bg (σ:=Int) (λe d=>
 R e d)
 (λc=>
 Br ((wg b a)<0)
 (c (qc xi ((wg b a)+a)) h)
 (c (wg b a) h))
theorem uX(a:Int)(b:Int)(c:@nO R h a b):ab xm 12 #[a,b] h R:=az ac func12 (ak.tn (ak.tn (.two (.join [(0,aU)] [(0,1),(8,13)] .n) .n))) c
noncomputable def tk(c:aQ):Prop:=
 ae xm 55 #[c] ci h λl f=>
 Br l
 (R (xc eH 0 0) f)
 (∃i,(c=dB i)/\
 bh f (i.add 7) λx3=>
 aJ (σ:=Sl×Int) (λb q e=>
 Br (b.2<(x3.len:Int))
 (aO x3 b.2 λa5=>
 ∃j:iA,an e (a5.add (b.2.toNat*4)) 0 j/\
 aP xm (qO 94 eR (.tuple #[])) e λg h3=>
 af xm (qf 94 g j) h3 λ_ k=>
 Ju k g λp=>
 ae xm 56 #[p] (.one tyT) k λn r=>
 aA xm (qq 37 1 #[(0,n)]) aI r λd m=>
 aA xm (qu #[37,37] 37 #[b.1,d]) aI m λa o=>
 q ((⟨a.ptr,a.len,a.cap⟩:Sl),qc xi (b.2+1)) o)
 (R b.1 e)) ((⟨eH,0,0⟩:Sl),(0:Int)) f)
theorem Eg(a:aQ)(b:@tk R h a):ab xm 13 #[a] h R:=az ac func13 (ak.tn (ak.tn (ak.tn (.two (ak.tn (.inn (.loop [(3,cx),(14,aU)] [(3,4),(5,6),(14,25)] .n))) .n)))) b
noncomputable def nP:Prop:=
 ae xm 9 #[] kM h λe j=>
 aA xm (qq 22 1 #[(0,(xb xi 5))]) aI j λi g=>
 ae xm 8 #[(xh #[(xb xi 1),(xb xi 1),(xb xi 1)]),(xb xi 0),e,i] (.many [CN,aU]) g λb h3=>
 ae xm 15 #[b.1,(xb xi 0),(xb xi 0)] (.many [aU,aU]) h3 λc d=>
 ae xm 15 #[b.1,(xb xi 1),(xb xi 0)] (.many [aU,aU]) d λf a=>
 Br (b.2==0) (Br (c.2==0) (Br (c.1==0) (R (xg (f.2==1)) a) (R eS a)) (R eS a)) (R eS a)
theorem uY(a:@nP R h):ab xm 14 #[] h R:=az ac func14 .n a
noncomputable def um(b:aQ)(c:Int)(a:Int):Prop:=
 bg (σ:=Unit) (λ_ N=>
 ae xm 16 #[b] KA N λf h3=>
 ae xm 25 #[b] aI h3 λM S=>
 aP xm (qN 109 (xh #[b,f.1,f.2.1,f.2.2.1,f.2.2.2.1,f.2.2.2.2.1,f.2.2.2.2.2.1,f.2.2.2.2.2.2.1,f.2.2.2.2.2.2.2,M,c,a,(xb xi 0)])) S λa5 s=>
 bg (σ:=Unit) (λ_ h8=>
 ae xm 59 #[a5] bB h8 λm F=>
 Br (m !=0)
 (R (.tuple #[(xb xi 0),m]) F)
 (∃n:hU,(dB a5=dB n)/\
 bh F ((n.add 1).add 7) λl=>
 aJ (σ:=Int) (λe Q d=>
 Br (e<(l.len:Int))
 (aO l e λA=>
 ∃q:iA,an d (A.add (e.toNat*4)) 0 q/\
 aP xm (qO 94 eR (.tuple #[])) d λi x=>
 af xm (qf 94 i q) x λ_ u=>
 bh u (i.add 3) λB=>
 aJ (σ:=Int) (λk O g=>
 Br (k<(B.len:Int))
 (∃r:iA,an g i 0 r/\
 ae xm 60 #[a5,r,k] bB g λt j=>
 Br (t !=0)
 (∃p:hU,(dB a5=dB p)/\
 aZ j (p.add 12) λD=>
 R (.tuple #[D,t]) j)
 (O (qc xi (k+1)) j))
 (Q (qc xi (e+1)) g)) (0:Int) u)
 (∃o:hU,(dB a5=dB o)/\
 aZ d (o.add 12) λE=>
 R (.tuple #[E,(xb xi 0)]) d)) (0:Int) F))
 (λL=>
 bg (σ:=Bool) (λJ w=>
 Br J
 (R (.tuple #[(xb xi 0),(xb xi 1)]) w)
 (∃a9:hU,(dB a5=dB a9)/\
 bh w (a9.add 9) λz=>
 ae xm 58 #[(xb xi (z.len:Int)),c] bB w λy I=>
 Br (y>4096)
 (R (.tuple #[(xb xi 0),(xb xi 13)]) I)
 (L () I)))
 (λv=>
 Br (c<0) (v eR s) (∃G:hU,(dB a5=dB G)/\
 bh s (G.add 9) λP=>
 Br (c>=(P.len:Int)) (v eR s) (Br (a<0) (v eR s) (v (decide (a>64)) s))))))
 (λT=>
 Br (za b) (R (.tuple #[(xb xi 0),(xb xi 14)]) h) (ae xm 57 #[b] ci h λK H=>
 Br K
 (R (.tuple #[(xb xi 0),(xb xi 14)]) H)
 (T () H)))
theorem By(c:aQ)(b:Int)(a:Int)(d:@um R h c b a):ab xm 15 #[c,b,a] h R:=az ac func15 (ak.tn (.two (.join [] [(6,8),(14,20)] .n) (ak.tn (.two (.join [] [(6,8),(29,58)] (.inn (.two (.join [(29,kN)] [(29,49)] .n) .n))) (ak.tn (.two (ak.tn (.inn (.loop [(69,aU)] [(6,8),(11,14),(69,92)] (ak.tn (ak.tn (.two (.inn (ak.tn (ak.tn (.inn (.loop [(76,aU)] [(6,8),(12,14),(76,91)] .n))))) .n)))))) .n)))))) d
noncomputable def oe(c:aQ):Prop:=
 aP xm (qO 44 eR (.tuple #[])) h λd e=>
 Br (za c)
 (af xm (qf 44 d (xh #[(xb xi 0),(xb xi 0),(xb xi 0),(xb xi 0),(xb xi 0),(xb xi 0),(xc eH 0 0),(xc eH 0 0)])) e λ_ i=>
 ∃a:dz,an i d 0 a/\
 R a i)
 (∃a3,(c=dB a3)/\
 ∃g:dz,an e a3 0 g/\
 ae xm 61 #[g] KA e λj h3=>
 af xm (qf 44 d j) h3 λ_ f=>
 ∃b:dz,an f d 0 b/\
 R b f)
theorem xX(a:aQ)(b:@oe R h a):ab xm 16 #[a] h R:=az ac func16 .n b
noncomputable def nj(j:dz):Prop:=
 aP xm (qN 44 j) h λt o=>
 bh o (t.add 7) λx2=>
 aJ (σ:=Sl×Int) (λc v l=>
 Br (c.2<(x2.len:Int))
 (aO x2 c.2 λa4=>
 ∃r:iA,an l (a4.add (c.2.toNat*4)) 0 r/\
 aP xm (qO 94 eR (.tuple #[])) l λd h3=>
 af xm (qf 94 d r) h3 λ_ q=>
 bh q (d.add 3) λs=>
 aJ (σ:=Sl×Int) (λa u f=>
 Br (a.2<(s.len:Int))
 (aO s a.2 λa9=>
 aZ f (a9.add (a.2.toNat*1)) λk=>
 aZ f (d.add 1) λb=>
 aZ f (d.add 1) λm=>
 ae xm 62 #[m,a.2,k] (.one (.sc (.int .u32))) f λi n=>
 (av.ok [(d.add 1,b)] n)/\
 aA xm (qq 49 1 #[(0,(xh #[b,a.2,(xb xk i)]))]) aI n λg p=>
 (av.ok [(d.add 1,b)] p)/\
 aA xm (qu #[49,49] 49 #[a.1,g]) aI p λe h8=>
 (av.ok [(d.add 1,b)] h8)/\
 u ((⟨e.ptr,e.len,e.cap⟩:Sl),qc xi (a.2+1)) h8)
 (v ((⟨a.1.ptr,a.1.len,a.1.cap⟩:Sl),qc xi (c.2+1)) f)) ((⟨c.1.ptr,c.1.len,c.1.cap⟩:Sl),(0:Int)) q)
 (R c.1 l)) ((⟨eH,0,0⟩:Sl),(0:Int)) o
theorem un(a:dz)(b:@nj R h a):ab xm 17 #[a] h R:=az ac func17 (ak.tn (ak.tn (.two (ak.tn (.inn (.loop [(3,cx),(11,aU)] [(3,4),(5,8),(11,37)] (ak.tn (ak.tn (.two (.inn (ak.tn (ak.tn (.inn (.loop [(3,cx),(18,aU)] [(3,4),(6,8),(18,36)] .n))))) .n)))))) .n))) b
noncomputable def rO(e:aQ)(a:Int)(b:Int):Prop:=
 ae xm 25 #[e] aI h λt A=>
 aJ (σ:=Sl×Int) (λg B o=>
 Br (g.2<(t.len:Int))
 (aO t g.2 λa3=>
 aZ o (a3.add (g.2.toNat*1)) λy=>
 aA xm (qq 22 1 #[(0,y)]) aI o λv5 h3=>
 ∃s,(e=dB s)/\
 ∃w:dz,an h3 s 0 w/\
 ae xm 63 #[(.func (.func 35) #[e] #[]),v5,w,a,b] aI h3 λv D=>
 aJ (σ:=Sl×Int) (λf z p=>
 Br (f.2<(v.len:Int))
 (aO v f.2 λm=>
 ∃j:Int×Sl,an p (m.add (f.2.toNat*2)) 0 j/\
 aP xm (qO 117 eR (.tuple #[])) p λi x=>
 af xm (qf 117 i j) x λ_ u=>
 aZ u i λn=>
 aA xm (qq 22 1 #[(0,n)]) aI u λk h8=>
 aA xm (qu #[22,22] 22 #[f.1,k]) aI h8 λc E=>
 z ((⟨c.ptr,c.len,c.cap⟩:Sl),qc xi (f.2+1)) E)
 (aA xm (qq 51 1 #[(0,f.1)]) aI p λq r=>
 aA xm (qu #[51,51] 51 #[g.1,q]) aI r λd l=>
 B ((⟨d.ptr,d.len,d.cap⟩:Sl),qc xi (g.2+1)) l)) ((⟨eH,0,0⟩:Sl),(0:Int)) D)
 (R g.1 o)) ((⟨eH,0,0⟩:Sl),(0:Int)) A
theorem CP(c:aQ)(a:Int)(b:Int)(d:@rO R h c a b):ab xm 18 #[c,a,b] h R:=az ac func18 (ak.tn (ak.tn (.two (ak.tn (.inn (.loop [(7,cx),(16,aU)] [(7,8),(9,11),(12,13),(16,47)] (ak.tn (ak.tn (.two (.inn (ak.tn (ak.tn (.two (ak.tn (.inn (.loop [(10,cx),(32,aU)] [(10,11),(12,13),(32,42)] .n))) .n)))) .n)))))) .n))) d
noncomputable def lV(a:Sl)(d:Int):Prop:=
 aJ (σ:=Int) (λc e b=>
 Br (c<(a.len:Int))
 (aO a c λf=>
 aZ b (f.add (c.toNat*1)) λx3=>
 Br (x3==d)
 (R eR b)
 (e (qc xi (c+1)) b))
 (R eS b)) (0:Int) h
theorem rG(a:Sl)(b:Int)(c:@lV R h a b):ab xm 19 #[a,b] h R:=az ac func19 (ak.tn (.two (ak.tn (.inn (.loop [(8,aU)] [(4,6),(8,18)] .n))) .n)) c
noncomputable def EY(d:bS)(a:Int)(b:Sl):Prop:=
 aP xm (qN 24 d) h λc g=>
 ∃x2:bS,an g c 0 x2/\
 ae xm 65 #[] kM g λi f=>
 (av.ok [(c,x2.1),(c.add 1,x2.2.1),(c.add 2,x2.2.2)] f)/\
 ae xm 66 #[x2,(xb xk a),b] aI f λk h3=>
 (av.ok [] h3)/\
 ae xm 64 #[i,k] bB h3 λj e=>
 (av.ok [] e)/\
 R j e
theorem LN(c:bS)(a:Int)(b:Sl)(d:@EY R h c a b):ab xm 20 #[c,(xb xk a),b] h R:=az ac func20 .n d
noncomputable def LO(c:bS):Prop:=
 aP xm (qN 24 c) h λb d=>
 ∃x2:bS,an d b 0 x2/\
 ae xm 40 #[x2] ci d λe a=>
 Br (!e)
 (R (xb xi 0) a)
 (aZ a b λf=>
 aZ a (b.add 1) λg=>
 R (qc xi (f+g)) a)
theorem SJ(a:bS)(b:@LO R h a):ab xm 21 #[a] h R:=az ac func21 .n b
noncomputable def lW(b:Sl):Prop:=
 aJ (σ:=Sl×Int) (λa e c=>
 Br (a.2<(b.len:Int))
 (aO b a.2 λg=>
 bh c (g.add (a.2.toNat*1)) λx3=>
 ae xm 67 #[x3] aI c λj i=>
 aA xm (qq 51 1 #[(0,j)]) aI i λv5 h3=>
 aA xm (qu #[51,51] 51 #[a.1,v5]) aI h3 λd f=>
 e ((⟨d.ptr,d.len,d.cap⟩:Sl),qc xi (a.2+1)) f)
 (R a.1 c)) ((⟨eH,0,0⟩:Sl),(0:Int)) h
theorem rH(a:Sl)(b:@lW R h a):ab xm 22 #[a] h R:=az ac func22 (ak.tn (ak.tn (.two (ak.tn (.inn (.loop [(3,cx),(8,aU)] [(3,4),(5,6),(8,18)] .n))) .n))) b
noncomputable def EZ(m:bS)(c:Int)(a:Sl)(r:Int):Prop:=
 aP xm (qN 24 m) h λk y=>
 ∃x2:bS,an y k 0 x2/\
 ae xm 40 #[x2] ci y λD x=>
 Br (!D)
 (R (.tuple #[(xc eH 0 0),eS,(xb xi 1)]) x)
 (ae xm 68 #[(xb xi (a.len:Int)),r] (.many [cx,aU]) x λl h3=>
 Br (l.2 !=0)
 (R (.tuple #[(xc eH 0 0),eS,l.2]) h3)
 (∃A:bS,an h3 k 0 A/\
 ae xm 21 #[A] bB h3 λu H=>
 ae xm 65 #[] kM H λB I=>
 ae xm 69 #[B,u] kM I λz v=>
 ∃w:bS,an v k 0 w/\
 ae xm 70 #[w] aI v λg F=>
 aJ (σ:=Int) (λb G h8=>
 Br (b<(g.len:Int))
 (aO g b λn=>
 bh h8 (n.add (b.toNat*1)) λp=>
 ae xm 71 #[z,p] ci h8 λ_ J=>
 G (qc xi (b+1)) J)
 (∃f:bS,an h8 k 0 f/\
 ae xm 72 #[f,(xb xk c),a] aI h8 λo t=>
 aJ (σ:=Int) (λd E e=>
 Br (d<(l.1.len:Int))
 (aO l.1 d λs=>
 bh e (s.add (d.toNat*1)) λi=>
 ae xm 73 #[z,o,i,u] ci e λq j=>
 Br (!q)
 (R (.tuple #[i,eR,(xb xi 0)]) j)
 (E (qc xi (d+1)) j))
 (R (.tuple #[(xc eH 0 0),eS,(xb xi 0)]) e)) (0:Int) t)) (0:Int) F))
theorem LP(c:bS)(b:Int)(a:Sl)(d:Int)(e:@EZ R h c b a d):ab xm 23 #[c,(xb xk b),a,d] h R:=az ac func23 (ak.tn (ak.tn (ak.tn (ak.tn (ak.tn (ak.tn (.two (ak.tn (.inn (.loop [(40,aU)] [(15,16),(40,48)] .n))) (ak.tn (.two (ak.tn (.inn (.loop [(54,aU)] [(8,11),(18,19),(54,66)] .n))) .n))))))))) e
noncomputable def tm(a:aQ):Prop:=
 Br (za a)
 (R (xc eH 0 0) h)
 (∃b,(a=dB b)/\
 bh h (b.add 6) λx2=>
 ae xm 80 #[(.func (.func 35) #[a] #[]),x2] aI h λc d=>
 R c d)
theorem Eh(a:aQ)(b:@tm R h a):ab xm 25 #[a] h R:=az ac func25 .n b
noncomputable def rP(b:aQ)(a:Int):Prop:=
 bg (σ:=Unit) (λ_ d=>
 ∃c,(b=dB c)/\
 (0<=a/\a<((64:Nat):Int))/\
 kL d ((c.add 10).add (a.toNat*1)) λx3=>
 R x3 d)
 (λe=>
 Br (za b) (R (xd eH) h) (Br (a<0) (R (xd eH) h) (Br (a>=64)
 (R (xd eH) h)
 (e () h))))
theorem CQ(b:aQ)(a:Int)(c:@rP R h b a):ab xm 35 #[b,a] h R:=az ac func35 (ak.tn (.two (.join [] [(4,15)] .n) .n)) c
noncomputable def og(c:Int)(b:Int)(d:Int):Prop:=
 aP xm (qO 24 eR (.tuple #[])) h λe m=>
 ae xm 12 #[c,(xb xi 6)] bB m λk j=>
 ae xm 12 #[b,(xb xi 3)] bB j λg h3=>
 ae xm 12 #[d,(xb xi 9)] bB h3 λl i=>
 af xm (qf 24 e (xh #[(qc xi (1+k)),(qc xi (1+g)),(qc xi (1+l))])) i λ_ f=>
 ∃a:bS,an f e 0 a/\
 R a f
theorem xY(a:Int)(b:Int)(c:Int)(d:@og R h a b c):ab xm 37 #[a,b,c] h R:=az ac func37 .n d
noncomputable def pV(b:Sl)(a:Int):Prop:=
 Br (a<(b.len:Int))
 (aO b a λc=>
 aZ h (c.add (a.toNat*1)) λx2=>
 R x2 h)
 (R (xb xi 0) h)
theorem Cf(b:Sl)(a:Int)(c:@pV R h b a):ab xm 38 #[b,a] h R:=az ac func38 .n c
noncomputable def CR(a:Sl):Prop:=
 aJ (σ:=Sl×Int) (λb e c=>
 Br (b.2<(a.len:Int))
 (aO a b.2 λi=>
 aZ c (i.add (b.2.toNat*1)) λx3=>
 bg (σ:=Unit) (λ_ f=>
 Br (x3>0)
 (aA xm (qq 22 1 #[(0,b.2)]) aI f λv5 h3=>
 aA xm (qu #[22,22] 22 #[b.1,v5]) aI h3 λd g=>
 e ((⟨d.ptr,d.len,d.cap⟩:Sl),qc xi (b.2+1)) g)
 (e ((⟨b.1.ptr,b.1.len,b.1.cap⟩:Sl),qc xi (b.2+1)) f))
 (λj=>
 Br (x3<0) (R (.tuple #[(xc eH 0 0),eS]) c) (Br (x3>512)
 (R (.tuple #[(xc eH 0 0),eS]) c)
 (j () c))))
 (Br ((a.len:Int)<=64) (R (.tuple #[b.1,(decide ((b.1.len:Int)>0))]) c) (R (.tuple #[b.1,eS]) c))) ((⟨eH,0,0⟩:Sl),(0:Int)) h
theorem KC(a:Sl)(b:@CR R h a):ab xm 39 #[a] h R:=az ac func39 (ak.tn (ak.tn (.two (ak.tn (.inn (.loop [(4,cx),(9,aU)] [(2,7),(9,27)] (ak.tn (ak.tn (.two (.inn (ak.tn (.two (.join [] [(2,4),(14,20)] .n) .n))) .n)))))) .n))) b
noncomputable def Pu(c:bS):Prop:=
 aP xm (qN 24 c) h λb a=>
 aZ a b λx2=>
 Br (x2>=1) (aZ a b λx3=>
 Br (x3<=16) (aZ a (b.add 1) λd=>
 Br (d>=1) (aZ a (b.add 1) λe=>
 Br (e<=4) (aZ a (b.add 2) λg=>
 Br (g>=1) (aZ a (b.add 2) λf=>
 R (decide (f<=24)) a) (R eS a)) (R eS a)) (R eS a)) (R eS a)) (R eS a)
theorem UW(a:bS)(b:@Pu R h a):ab xm 40 #[a] h R:=az ac func40 .n b
noncomputable def tq(a:aQ):Prop:=
 Br (za a)
 (R (xb xi 0) h)
 (∃b,(a=dB b)/\
 aZ h (b.add 3) λx2=>
 R x2 h)
theorem Ei(a:aQ)(b:@tq R h a):ab xm 41 #[a] h R:=az ac func41 .n b
noncomputable def GM(d:dz):Prop:=
 aP xm (qN 44 d) h λe j=>
 ∃x2:dz,an j e 0 x2/\
 ae xm 100 #[x2] aI j λb n=>
 ((48:Int)≠0)/\
 aJ (σ:=Sl×Int) (λa k h3=>
 Br (decide (a.2<(qc xi (yb (qc xi ((qc xi ((b.len:Int)+48))-1)) 48))))
 (aZ h3 e λo=>
 (0<=(qc xi (a.2*48))/\(qc xi (a.2*48))<=(if(qc xi ((qc xi (a.2+1))*48))<(b.len:Int)then qc xi ((qc xi (a.2+1))*48)else(b.len:Int))/\(if(qc xi ((qc xi (a.2+1))*48))<(b.len:Int)then qc xi ((qc xi (a.2+1))*48)else(b.len:Int))<=(b.cap:Int))/\
 ae xm 101 #[o,a.2,(qc xi (yb (qc xi ((qc xi ((b.len:Int)+48))-1)) 48)),(.slice (if b.cap=(qc xi (a.2*48)).toNat then b.ptr else b.ptr.map (·.add ((qc xi (a.2*48)).toNat*1))) ((if(qc xi ((qc xi (a.2+1))*48))<(b.len:Int)then qc xi ((qc xi (a.2+1))*48)else(b.len:Int)).toNat-(qc xi (a.2*48)).toNat) (b.cap-(qc xi (a.2*48)).toNat))] aI h3 λm f=>
 (av.ok [] f)/\
 aA xm (qq 85 1 #[(0,m)]) aI f λl g=>
 (av.ok [] g)/\
 aA xm (qu #[85,85] 85 #[a.1,l]) aI g λc i=>
 (av.ok [] i)/\
 k ((⟨c.ptr,c.len,c.cap⟩:Sl),qc xi (a.2+1)) i)
 (R a.1 h3)) ((⟨eH,0,0⟩:Sl),(0:Int)) n
theorem Ob(a:dz)(b:@GM R h a):ab xm 42 #[a] h R:=az ac func42 (ak.tn (ak.tn (ak.tn (ak.tn (.two (ak.tn (.inn (.loop [(5,cx),(16,aU)] [(5,8),(16,39)] .n))) .n))))) b
noncomputable def Jw(a:Int)(b:aQ):Prop:=
 bg (σ:=Unit) (λ_ f=>
 aP xm (qN 156 (xh #[b,a,(xc eH 0 0),(xb xi 0),(xc eH 0 0),eS,eS])) f λd e=>
 R d e)
 (λc=>
 Br (a<1) (R (xd eH) h) (Br (a>512) (R (xd eH) h) (Br (za b)
 (R (xd eH) h)
 (c () h))))
theorem Qz(a:Int)(b:aQ)(c:@Jw R h a b):ab xm 43 #[a,b] h R:=az ac func43 (ak.tn (.two (.join [] [(4,15)] .n) .n)) c
noncomputable def Pv(a:cU)(d:Sl):Prop:=
 aJ (σ:=Sl×Int) (λc u g=>
 Br (c.2<(d.len:Int))
 (aO d c.2 λs=>
 ∃x3:Int×Sl,an g (s.add (c.2.toNat*2)) 0 x3/\
 aP xm (qO 101 eR (.tuple #[])) g λa4 t=>
 af xm (qf 101 a4 x3) t λ_ h3=>
 bg (σ:=Unit) (λ_ m=>
 aZ m a4 λj=>
 aA xm (qq 22 1 #[(0,j)]) aI m λf h8=>
 aA xm (qu #[22,22] 22 #[c.1,f]) aI h8 λb y=>
 u ((⟨b.ptr,b.len,b.cap⟩:Sl),qc xi (c.2+1)) y)
 (λr=>
 bg (σ:=Int) (λl k=>
 Br (l !=0)
 (R l k)
 (r () k))
 (λv=>
 aZ h3 a4 λx=>
 bh h3 (a4.add 1) λn=>
 iM C a.1 (a.2.1.toList++[(xb xi x)]++a.2.2.toList) kM h3 λq o=>
 (av.ok [(a4.add 1,n)] o)/\
 ae xm 102 #[q,n] bB o λw p=>
 (av.ok [] p)/\
 v w p)))
 (ae xm 103 #[(.func (.func a.1) a.2.1 a.2.2),c.1] bB g λe i=>
 R e i)) ((⟨eH,0,0⟩:Sl),(0:Int)) h
theorem UX(a:cU)(b:Sl)(c:@Pv R h a b):ab xm 44 #[(.func (.func a.1) a.2.1 a.2.2),b] h R:=az ac func44 (ak.tn (ak.tn (.two (ak.tn (.inn (.loop [(5,cx),(11,aU)] [(4,6),(7,9),(11,31)] (ak.tn (ak.tn (.two (.inn (ak.tn (.two (.join [] [(4,5),(8,9),(15,25)] (.two (.join [(8,aU)] [(8,9),(15,22)] .n) .n)) .n))) .n)))))) .n))) c
noncomputable def Jx(e:dz)(a:Sl):Prop:=
 aP xm (qN 44 e) h λm j=>
 ∃x2:dz,an j m 0 x2/\
 ae xm 42 #[x2] aI j λi p=>
 aJ (σ:=Sl×Int) (λc r h3=>
 Br (c.2<(a.len:Int))
 (aO a c.2 λa5=>
 aZ h3 (a5.add (c.2.toNat*1)) λq=>
 aJ (σ:=Sl×Int) (λb o g=>
 Br (b.2<(i.len:Int))
 (aO i b.2 λk=>
 bh g (k.add (b.2.toNat*1)) λn=>
 aA xm (qq 89 1 #[(0,(xh #[q,n]))]) aI g λf s=>
 aA xm (qu #[89,89] 89 #[b.1,f]) aI s λd l=>
 o ((⟨d.ptr,d.len,d.cap⟩:Sl),qc xi (b.2+1)) l)
 (r ((⟨b.1.ptr,b.1.len,b.1.cap⟩:Sl),qc xi (c.2+1)) g)) ((⟨c.1.ptr,c.1.len,c.1.cap⟩:Sl),(0:Int)) h3)
 (R c.1 h3)) ((⟨eH,0,0⟩:Sl),(0:Int)) p
theorem QA(b:dz)(a:Sl)(c:@Jx R h b a):ab xm 45 #[b,a] h R:=az ac func45 (ak.tn (ak.tn (ak.tn (.two (ak.tn (.inn (.loop [(6,cx),(15,aU)] [(6,7),(8,9),(10,11),(15,33)] (ak.tn (ak.tn (.two (.inn (ak.tn (ak.tn (.inn (.loop [(6,cx),(21,aU)] [(6,7),(10,11),(21,32)] .n))))) .n)))))) .n)))) c
noncomputable def pc(a:aQ)(b:ByteArray)(k:Sl):Prop:=
 ae xm 55 #[a] ci h λr o=>
 Br r
 (R (xb xi 14) o)
 (ae xm 104 #[b] ci o λu n=>
 Br (!u)
 (R (xb xi 3) n)
 (ae xm 91 #[a,b] bB n λs h3=>
 Br (s>=0)
 (R (xb xi 4) h3)
 (bg (σ:=Bool) (λj q=>
 Br j
 (R (xb xi 6) q)
 (ae xm 25 #[a] aI q λg c=>
 Br ((g.len:Int)==0) (R (xb xi 7) c) (∃d,(a=dB d)/\
 aZ c (d.add 1) λi=>
 Br (i>16777215) (R (xb xi 7) c) (∃e,(a=dB e)/\
 aZ c e λf=>
 Br (f>=2147483647)
 (R (xb xi 7) c)
 (R (xb xi 0) c)))))
 (λp=>
 ∃a4,(a=dB a4)/\
 aZ h3 (a4.add 2) λv=>
 ∃l,(a=dB l)/\
 aZ h3 ((l.add 2).add 2) λw=>
 Br (decide ((k.len:Int)>(qc xi ((qc xi (v*w))*8)))) (p eR h3) (∃m,(a=dB m)/\
 bh h3 (m.add 7) λt=>
 p (decide ((t.len:Int)>=12)) h3)))))
theorem AP(c:aQ)(a:ByteArray)(b:Sl)(d:@pc R h c a b):ab xm 46 #[c,a,b] h R:=az ac func46 (ak.tn (.two (.inn (ak.tn (ak.tn (ak.tn (ak.tn (ak.tn (ak.tn (.two (.join [(19,kN)] [(19,46)] .n) .n)))))))) .n)) d
noncomputable def Fa(d:bS)(b:Int)(a:Int):Prop:=
 aP xm (qN 24 d) h λj m=>
 aJ (σ:=Sl×Int) (λc i e=>
 Br (c.2<a)
 (∃x3:bS,an e j 0 x3/\
 ae xm 105 #[x3,b,c.2] (.many [aU,kN]) e λg h3=>
 Br (!g.2)
 (R (.tuple #[(xc eH 0 0),eS]) h3)
 (aA xm (qq 22 1 #[(0,g.1)]) aI h3 λv5 k=>
 aA xm (qu #[22,22] 22 #[c.1,v5]) aI k λf l=>
 i ((⟨f.ptr,f.len,f.cap⟩:Sl),qc xi (c.2+1)) l))
 (R (.tuple #[c.1,eR]) e)) ((⟨eH,0,0⟩:Sl),(0:Int)) m
theorem LQ(c:bS)(a:Int)(b:Int)(d:@Fa R h c a b):ab xm 47 #[c,a,b] h R:=az ac func47 (ak.tn (ak.tn (.two (ak.tn (.inn (.loop [(8,cx),(13,aU)] [(6,12),(13,30)] .n))) .n))) d
noncomputable def Fb(b:bS)(a:Int):Prop:=
 aP xm (qN 24 b) h λd g=>
 bg (σ:=Unit) (λ_ h3=>
 ∃f:bS,an h3 d 0 f/\
 ae xm 106 #[f] bB h3 λe j=>
 (e≠0)/\
 R (qc xi ((qc xi (yb (qc xi (a-1)) e))+1)) j)
 (λi=>
 ∃x2:bS,an g d 0 x2/\
 ae xm 40 #[x2] ci g λk c=>
 Br (!k) (R (xb xi 0) c) (Br (a<=0)
 (R (xb xi 0) c)
 (i () c)))
theorem LR(b:bS)(a:Int)(c:@Fb R h b a):ab xm 48 #[b,a] h R:=az ac func48 (ak.tn (.two (.join [] [(4,12)] .n) .n)) c
end Go.Qw
namespace Go.Qw
open Go Go.Vc Go.Proofs
variable {R:Ki} {h:Heap}
noncomputable def pd(f:aQ)(S:iA)(U:Sl):Prop:=
 aP xm (qN 94 S) h λi h1=>
 ae xm 25 #[f] aI h1 λr2 X=>
 ∃a3,(f=dB a3)/\
 ∃V:bS,an X (a3.add 2) 0 V/\
 ae xm 107 #[V,U] aI X λW h3=>
 aJ (σ:=Sl×Int) (λe K1 m=>
 Br (e.2<(W.len:Int))
 (aO W e.2 λa7=>
 bh m (a7.add (e.2.toNat*1)) λx8=>
 aZ m (i.add 1) λx9=>
 bh m (i.add 3) λt=>
 aO t e.2 λI=>
 aZ m (I.add (e.2.toNat*1)) λT=>
 ae xm 62 #[x9,e.2,T] (.one (.sc (.int .u32))) m λk Q=>
 (av.ok [(i.add 3,t)] Q)/\
 ∃y,(f=dB y)/\
 ∃p:bS,an Q (y.add 2) 0 p/\
 ae xm 108 #[p,(xb xk k),x8] (.many [CN,aU]) Q λl G=>
 Br (l.2 !=0)
 (R (.tuple #[(xc eH 0 0),eS]) G)
 (aZ G (i.add 1) λL=>
 ae xm 109 #[L,e.2,r2] aI G λF M=>
 ∃r,(f=dB r)/\
 aZ M (r.add 2) λK=>
 ∃n,(f=dB n)/\
 aZ M (n.add 5) λP=>
 aJ (σ:=Sl×Int) (λb K2 h8=>
 Br (b.2<(qc xi (K+P)))
 (bg (σ:=hU) (λd A=>
 ∃c:fh,an A d 0 c/\
 ae xm 111 #[F,b.2] bB A λE x=>
 (av.ok [(d,c.1),(d.add 1,c.2.1),(d.add 2,c.2.2.1),(d.add 3,c.2.2.2.1),(d.add 4,c.2.2.2.2.1),(d.add 5,c.2.2.2.2.2.1),(d.add 6,(xb xk c.2.2.2.2.2.2.1)),(d.add 7,c.2.2.2.2.2.2.2)] x)/\
 ae xm 112 #[c] aI x λN v=>
 (av.ok [] v)/\
 aA xm (qq 89 1 #[(0,(xh #[E,N]))]) aI v λO o=>
 (av.ok [] o)/\
 aA xm (qu #[89,89] 89 #[b.1,O]) aI o λj u=>
 (av.ok [] u)/\
 K2 ((⟨j.ptr,j.len,j.cap⟩:Sl),qc xi (b.2+1)) u)
 (λY=>
 aZ h8 (i.add 1) λg=>
 ∃a25,(f=dB a25)/\
 ∃a:bS,an h8 (a25.add 2) 0 a/\
 (ae xm 110 #[l.1,b.2] aI h8 λH Z=>
 (av.ok [(a25.add 2,a.1),((a25.add 2).add 1,a.2.1),((a25.add 2).add 2,a.2.2),(i.add 1,g)] Z)/\
 aP xm (qO 170 eR (.tuple #[])) Z λa28 z=>
 (av.ok [(a25.add 2,a.1),((a25.add 2).add 1,a.2.1),((a25.add 2).add 2,a.2.2),(i.add 1,g)] z)/\
 af xm (qf 170 a28 (xh #[g,e.2,b.2,a.1,a.2.1,a.2.2,(xb xk k),H])) z λ_ s=>
 (av.ok [] s)/\
 Y a28 s)/\(aP xm (qO 170 eR (.tuple #[])) h8 λD B=>
 (av.ok [(a25.add 2,a.1),((a25.add 2).add 1,a.2.1),((a25.add 2).add 2,a.2.2),(i.add 1,g)] B)/\
 ae xm 110 #[l.1,b.2] aI B λJ q=>
 (av.ok [(a25.add 2,a.1),((a25.add 2).add 1,a.2.1),((a25.add 2).add 2,a.2.2),(i.add 1,g)] q)/\
 af xm (qf 170 D (xh #[g,e.2,b.2,a.1,a.2.1,a.2.2,(xb xk k),J])) q λ_ w=>
 (av.ok [] w)/\
 Y D w)))
 (K1 ((⟨b.1.ptr,b.1.len,b.1.cap⟩:Sl),qc xi (e.2+1)) h8)) ((⟨e.1.ptr,e.1.len,e.1.cap⟩:Sl),(0:Int)) M))
 (R (.tuple #[e.1,eR]) m)) ((⟨eH,0,0⟩:Sl),(0:Int)) h3
theorem AQ(c:aQ)(b:iA)(a:Sl)(d:@pd R h c b a):ab xm 49 #[c,b,a] h R:=az ac func49 (ak.tn (ak.tn (ak.tn (.two (ak.tn (.inn (.loop [(9,cx),(28,aU)] [(6,8),(9,18),(28,100)] (ak.tn (ak.tn (.two (.inn (ak.tn (ak.tn (ak.tn (ak.tn (ak.tn (ak.tn (.inn (.loop [(9,cx),(72,aU)] [(9,10),(16,18),(72,99)] (ak.tn (ak.tn (.two (.inn (ak.tn (.two (.join [(17,(.sc .adr))] [(17,18),(75,89)] .n) .n))) .n)))))))))))) .n)))))) .n)))) d
noncomputable def GN(i:dz)(m:iA):Prop:=
 aP xm (qN 44 i) h λr w=>
 aP xm (qN 94 m) w λt v=>
 aP xm (qO 44 eR (.tuple #[])) v λa3 h3=>
 ∃p:dz,an h3 r 0 p/\
 ae xm 61 #[p] KA h3 λu y=>
 aP xm (qO 44 eR (.tuple #[])) y λb z=>
 af xm (qf 44 b u) z λ_ o=>
 aZ o b λA=>
 af xm (qf 3 b (qc xi (A+1))) o λ_ q=>
 aZ q (b.add 1) λx=>
 af xm (qf 3 (b.add 1) (qc xi (x+1))) q λ_ h8=>
 bh h8 (b.add 7) λs=>
 ∃f:iA,an h8 t 0 f/\
 aA xm (qq 42 1 #[(0,f)]) aI h8 λk B=>
 aA xm (qu #[42,42] 42 #[s,k]) aI B λj n=>
 af xm (qf 42 (b.add 7) j) n λ_ e=>
 bh e (b.add 7) λl=>
 ae xm 113 #[l,(.func (.func 114) #[] #[])] jm e λ_ g=>
 ∃c:dz,an g b 0 c/\
 af xm (qf 44 a3 c) g λ_ d=>
 ∃a:dz,an d a3 0 a/\
 R a d
theorem Oc(b:dz)(a:iA)(c:@GN R h b a):ab xm 50 #[b,a] h R:=az ac func50 .n c
noncomputable def rQ(a:Int)(d:hU)(c:hU):Prop:=
 aZ h d λj=>
 bh h c λx2=>
 aJ (σ:=Int×Int) (λb g e=>
 Br (b.2<(x2.len:Int))
 (aO x2 b.2 λa4=>
 ∃i:Int×Sl,an e (a4.add (b.2.toNat*2)) 0 i/\
 aP xm (qO 101 eR (.tuple #[])) e λf k=>
 af xm (qf 101 f i) k λ_ h3=>
 aZ h3 f λl=>
 Br (l==a)
 (g (qc xi (b.1+1),qc xi (b.2+1)) h3)
 (g (b.1,qc xi (b.2+1)) h3))
 (R b.1 e)) (j,(0:Int)) h
theorem CS(a:Int)(b:hU)(c:hU)(d:@rQ R h a b c):ab xm 51 #[a,b,c] h R:=az ac func51 (ak.tn (ak.tn (.two (ak.tn (.inn (.loop [(5,aU),(11,aU)] [(5,6),(7,8),(11,22)] .n))) .n))) d
noncomputable def tu(c:aQ)(a:Sl)(b:cU):Prop:=
 aP xm (qN 27 c) h λe i=>
 aP xm (qN 102 (.func (.func b.1) b.2.1 b.2.2)) i λf g=>
 ae xm 116 #[a,(.func (.func 117) #[] #[e,f])] ci g λd h3=>
 R (xg (!d)) h3
theorem Ej(c:aQ)(a:Sl)(b:cU)(d:@tu R h c a b):ab xm 52 #[c,a,(.func (.func b.1) b.2.1 b.2.2)] h R:=az ac func52 .n d
noncomputable def rR(g:aQ)(a:Sl)(d:cU):Prop:=
 aJ (σ:=Int) (λi p f=>
 Br (i<(a.len:Int))
 (aO a i λn=>
 aZ f (n.add (i.toNat*1)) λx3=>
 bg (σ:=Int) (λe k=>
 Br (e !=0)
 (R e k)
 (p (qc xi (i+1)) k))
 (λm=>
 ∃a4,(g=dB a4)/\
 (0<=x3/\x3<((64:Nat):Int))/\
 kL f ((a4.add 10).add (x3.toNat*1)) λl=>
 ∃b,(g=dB b)/\
 ∃c:dz,an f b 0 c/\
 iM C d.1 (d.2.1.toList++[(xb xi x3)]++d.2.2.toList) bB f λq j=>
 (av.ok [(b,c.1),(b.add 1,c.2.1),(b.add 2,c.2.2.1),(b.add 3,c.2.2.2.1),(b.add 4,c.2.2.2.2.1),(b.add 5,c.2.2.2.2.2.1),(b.add 6,c.2.2.2.2.2.2.1),(b.add 7,c.2.2.2.2.2.2.2),((a4.add 10).add (x3.toNat*1),l)] j)/\
 ae xm 119 #[l,c,q] bB j λo h3=>
 (av.ok [] h3)/\
 m o h3))
 (R (xb xi 0) f)) (0:Int) h
theorem CT(c:aQ)(a:Sl)(b:cU)(d:@rR R h c a b):ab xm 53 #[c,a,(.func (.func b.1) b.2.1 b.2.2)] h R:=az ac func53 (ak.tn (.two (ak.tn (.inn (.loop [(12,aU)] [(6,7),(8,10),(12,34)] (ak.tn (ak.tn (.two (.inn (ak.tn (.two (.join [(9,aU)] [(9,10),(16,30)] .n) .n))) .n)))))) .n)) d
noncomputable def tv(b:aQ)(c:dz)(a:Sl):Prop:=
 aP xm (qN 44 c) h λd g=>
 ∃x2:dz,an g d 0 x2/\
 ae xm 45 #[x2,a] aI g λj n=>
 ae xm 44 #[(.func (.func 35) #[b] #[]),j] bB n λi h3=>
 Br (i !=0)
 (R i h3)
 (∃f:dz,an h3 d 0 f/\
 ae xm 61 #[f] KA h3 λl k=>
 ∃e,(b=dB e)/\
 af xm (qf 44 e l) k λ_ m=>
 R (xb xi 0) m)
theorem Ek(c:aQ)(b:dz)(a:Sl)(d:@tv R h c b a):ab xm 54 #[c,b,a] h R:=az ac func54 .n d
noncomputable def uB(a:aQ):Prop:=
 Br (za a) (R eR h) (ae xm 57 #[a] ci h λc b=>
 R c b)
theorem FH(a:aQ)(b:@uB R h a):ab xm 55 #[a] h R:=az ac func55 .n b
noncomputable def Bz(a:ByteArray):Prop:=
 ae xm 120 #[a] (.one tyT) h λc b=>
 R c b
theorem Jd(a:ByteArray)(b:@Bz R h a):ab xm 56 #[a] h R:=az ac func56 .n b
noncomputable def tw(a:aQ):Prop:=
 Br (!(za a)) (∃d,(a=dB d)/\
 kL h (d.add 8) λx2=>
 ae xm 121 #[x2] ci h λg b=>
 (av.ok [] b)/\
 Br (!g) ((av.ok [] b)/\
 R eR b) (∃a4,(a=dB a4)/\
 kL b (a4.add 8) λj=>
 ∃c,(a=dB c)/\
 aZ b (c.add 9) λf=>
 ae xm 41 #[j] bB b λi e=>
 (av.ok [(c.add 9,f)] e)/\
 R (xg (i !=f)) e)) ((av.ok [] h)/\
 (av.ok [] h)/\
 R eS h)
theorem El(a:aQ)(b:@tw R h a):ab xm 57 #[a] h R:=az ac func57 .n b
noncomputable def GO(a:Int)(b:Int):Prop:=
 ae xm 122 #[a,b] ci h λg e=>
 Br (!g)
 (R (xb xi 0) e)
 (aJ (σ:=Int×Int) (λc f d=>
 Br (decide (c.2<(if(qc xi (a-b))<b then qc xi (a-b)else b)))
 (((qc xi (c.2+1))≠0)/\
 Br (decide ((qc xi (yb (qc xi (c.1*(qc xi (a-c.2)))) (qc xi (c.2+1))))>4096))
 (R (xb xi 4097) d)
 (f (qc xi (yb (qc xi (c.1*(qc xi (a-c.2)))) (qc xi (c.2+1))),qc xi (c.2+1)) d))
 (R c.1 d)) ((1:Int),(0:Int)) e)
theorem Od(a:Int)(b:Int)(c:@GO R h a b):ab xm 58 #[a,b] h R:=az ac func58 (ak.tn (ak.tn (ak.tn (.two (ak.tn (.inn (.loop [(5,aU),(16,aU)] [(4,7),(16,30)] .n))) .n)))) c
noncomputable def oh(a:aQ):Prop:=
 ∃m,(a=dB m)/\
 bh h (m.add 9) λx2=>
 aJ (σ:=Int) (λe o f=>
 Br (e<(x2.len:Int))
 (aO x2 e λa4=>
 aZ f (a4.add (e.toNat*1)) λr=>
 ∃k,(a=dB k)/\
 kL f k λs=>
 ae xm 35 #[s,r] kM f λj n=>
 ∃a9,(a=dB a9)/\
 ∃d:dz,an n (a9.add 1) 0 d/\
 ae xm 123 #[j,d] aI n λc h3=>
 ae xm 96 #[j] aI h3 λg q=>
 ae xm 124 #[g,c,(.func (.func 99) #[] #[])] ci q λi p=>
 Br i
 (o (qc xi (e+1)) p)
 (ae xm 125 #[j,c] bB p λb l=>
 Br (b !=0)
 (R b l)
 (o (qc xi (e+1)) l)))
 (R (xb xi 0) f)) (0:Int) h
theorem xZ(a:aQ)(b:@oh R h a):ab xm 59 #[a] h R:=az ac func59 (ak.tn (.two (ak.tn (.inn (.loop [(13,aU)] [(2,3),(4,8),(13,40)] .n))) .n)) b
noncomputable def ol(a:aQ)(e:iA)(d:Int):Prop:=
 aP xm (qN 94 e) h λm j=>
 ∃x2:iA,an j m 0 x2/\
 ae xm 126 #[a,x2,d] (.many [CN,aU]) j λb i=>
 Br (b.2 !=0)
 (R b.2 i)
 (ae xm 127 #[a,b.1] bB i λf h3=>
 Br (f==14)
 (R f h3)
 (∃a5,(a=dB a5)/\
 kL h3 a5 λl=>
 ∃g,(b.1=dB g)/\
 bh h3 (g.add 5) λn=>
 ae xm 103 #[(.func (.func 35) #[l] #[]),n] bB h3 λk c=>
 (av.ok [(a5,l)] c)/\
 Br (k !=0)
 (R k c)
 (R f c)))
theorem ym(a:aQ)(b:iA)(c:Int)(d:@ol R h a b c):ab xm 60 #[a,b,c] h R:=az ac func60 .n d
noncomputable def LU(l:dz):Prop:=
 aP xm (qN 44 l) h λa z=>
 aP xm (qO 44 eR (.tuple #[])) z λr o=>
 bg (σ:=Unit) (λ_ s=>
 bh s (a.add 7) λA=>
 aJ (σ:=Int) (λc x h8=>
 Br (c<(A.len:Int))
 (bh h8 (a.add 7) λe=>
 bh h8 (a.add 7) λi=>
 aO i c λj=>
 bh h8 ((j.add (c.toNat*4)).add 3) λn=>
 ae xm 128 #[n] aI h8 λk v=>
 (av.ok [(a.add 7,i),(a.add 7,e)] v)/\
 aO e c λm=>
 af xm (qf 22 ((m.add (c.toNat*4)).add 3) k) v λ_ g=>
 (av.ok [] g)/\
 x (qc xi (c+1)) g)
 (∃f:dz,an h8 a 0 f/\
 af xm (qf 44 r f) h8 λ_ d=>
 ∃b:dz,an d r 0 b/\
 R b d)) (0:Int) s)
 (λB=>
 bh o (a.add 6) λx3=>
 bh o (a.add 7) λq=>
 ae xm 128 #[x3] aI o λy h3=>
 (av.ok [(a.add 7,q)] h3)/\
 ae xm 129 #[q] aI h3 λw t=>
 (av.ok [] t)/\
 af xm (qf 22 (a.add 6) y) t λ_ u=>
 (av.ok [] u)/\
 af xm (qf 42 (a.add 7) w) u λ_ p=>
 (av.ok [] p)/\
 B () p)
theorem SK(a:dz)(b:@LU R h a):ab xm 61 #[a] h R:=az ac func61 (ak.tn (.two (.join [] [(4,12)] .n) (.two (ak.tn (.inn (.loop [(15,aU)] [(3,4),(15,31)] .n))) .n))) b
noncomputable def Jy(b:Int)(c:Int)(a:Int):Prop:=
 R (xb xk (qc xk ((qc xk ((qc xk (128*(qc xk b)))+(qc xk (16*(qc xk c)))))+(qc xk a)))) h
theorem QB(b:Int)(c:Int)(a:Int)(d:@Jy R h b c a):ab xm 62 #[b,c,a] h R:=az ac func62 .n d
noncomputable def Fc(e:cU)(a:Sl)(t:dz)(c:Int)(f:Int):Prop:=
 aP xm (qN 44 t) h λi E=>
 aJ (σ:=Sl×Int) (λj G n=>
 Br (j.2<(a.len:Int))
 (aO a j.2 λa3=>
 aZ n (a3.add (j.2.toNat*1)) λB=>
 bg (σ:=Sl×Int×Int) (λo H=>
 aJ (σ:=Sl×Int) (λb x p=>
 Br (b.2<o.2.1)
 (aO o.1 b.2 λr=>
 ∃l:fh,an p (r.add (b.2.toNat*8)) 0 l/\
 aP xm (qO 170 eR (.tuple #[])) p λd F=>
 af xm (qf 170 d l) F λ_ h8=>
 aZ h8 d λu=>
 Br (u==c) (aZ h8 (d.add 1) λs=>
 Br (s==f)
 (aZ h8 (d.add 2) λq=>
 bh h8 (d.add 7) λw=>
 aA xm (qq 114 1 #[(0,(xh #[q,w]))]) aI h8 λv I=>
 aA xm (qu #[114,114] 114 #[b.1,v]) aI I λk y=>
 x ((⟨k.ptr,k.len,k.cap⟩:Sl),qc xi (b.2+1)) y)
 (x ((⟨b.1.ptr,b.1.len,b.1.cap⟩:Sl),qc xi (b.2+1)) h8)) (x ((⟨b.1.ptr,b.1.len,b.1.cap⟩:Sl),qc xi (b.2+1)) h8))
 (G ((⟨b.1.ptr,b.1.len,b.1.cap⟩:Sl),qc xi (j.2+1)) p)) ((⟨j.1.ptr,j.1.len,j.1.cap⟩:Sl),o.2.2) H)
 (λD=>
 ∃g:dz,an n i 0 g/\
 iM C e.1 (e.2.1.toList++[(xb xi B)]++e.2.2.toList) kM n λA h3=>
 (av.ok [(i,g.1),(i.add 1,g.2.1),(i.add 2,g.2.2.1),(i.add 3,g.2.2.2.1),(i.add 4,g.2.2.2.2.1),(i.add 5,g.2.2.2.2.2.1),(i.add 6,g.2.2.2.2.2.2.1),(i.add 7,g.2.2.2.2.2.2.2)] h3)/\
 ae xm 130 #[A,g] aI h3 λm z=>
 (av.ok [] z)/\
 D ((⟨m.ptr,m.len,m.cap⟩:Sl),(m.len:Int),(0:Int)) z))
 (R j.1 n)) ((⟨eH,0,0⟩:Sl),(0:Int)) E
theorem LV(d:cU)(c:Sl)(e:dz)(a:Int)(b:Int)(f:@Fc R h d c e a b):ab xm 63 #[(.func (.func d.1) d.2.1 d.2.2),c,e,a,b] h R:=az ac func63 (ak.tn (ak.tn (.two (ak.tn (.inn (.loop [(11,cx),(18,aU)] [(11,12),(13,14),(15,16),(18,52)] (ak.tn (ak.tn (.two (.inn (ak.tn (.two (.join [(26,cx),(27,aU),(28,aU)] [(22,29)] .n) (.inn (.loop [(11,cx),(28,aU)] [(11,12),(15,16),(28,51)] .n))))) .n)))))) .n))) f
noncomputable def LW(a:aQ)(b:Sl):Prop:=
 ae xm 131 #[a,b] aI h λd c=>
 R (xb xi (d.len:Int)) c
theorem SL(a:aQ)(b:Sl)(c:@LW R h a b):ab xm 64 #[a,b] h R:=az ac func64 .n c
noncomputable def SM:Prop:=
 ae xm 132 #[] (.one (.arr (.int .u8))) h λg k=>
 aP xm (qO 192 eR (.tuple #[])) k λa j=>
 af xm (qf 192 a (xh (g.map (Sc.enc (.int .u8))).toArray)) j λ_ h3=>
 ∃x3:List (Int),(x3.length=255/\an h3 a 0 (x3.map (Sc.enc (.int .u8))))/\
 ∃b:List (Int),(b.length=255/\an h3 a 0 (b.map (Sc.enc (.int .u8))))/\
 ae xm 133 #[(xh (b.map (Sc.enc (.int .u8))).toArray)] (.one (.arr (.int .i64))) h3 λi c=>
 (av.ok (mX a 0 (x3.map (Sc.enc (.int .u8))) []) c)/\
 ∃e:eX,(aL xm (vL 197 #[(0,(xh (x3.map (Sc.enc (.int .u8))).toArray)),(1,(xh (i.map (Sc.enc (.int .i64))).toArray))]) e)/\
 aP xm (qN 197 e) c λf d=>
 (av.ok (mX a 0 (x3.map (Sc.enc (.int .u8))) []) d)/\
 R f d
theorem XV(a:@SM R h):ab xm 65 #[] h R:=az ac func65 .n a
noncomputable def BA(e:bS)(c:Int)(a:Sl):Prop:=
 aP xm (qN 24 e) h λg j=>
 ∃x2:bS,an j g 0 x2/\
 ae xm 70 #[x2] aI j λf o=>
 aJ (σ:=Sl×Int) (λb k h3=>
 Br (b.2<(a.len:Int))
 (aO a b.2 λa5=>
 aZ h3 (a5.add (b.2.toNat*1)) λp=>
 ∃i:bS,an h3 g 0 i/\
 ae xm 134 #[i,(xb xk c),p] aI h3 λm l=>
 Br (!(za m.ptr))
 (aA xm (qq 85 1 #[(0,m)]) aI l λv9 q=>
 aA xm (qu #[85,85] 85 #[b.1,v9]) aI q λd n=>
 k ((⟨d.ptr,d.len,d.cap⟩:Sl),qc xi (b.2+1)) n)
 (k ((⟨b.1.ptr,b.1.len,b.1.cap⟩:Sl),qc xi (b.2+1)) l))
 (R b.1 h3)) ((⟨f.ptr,f.len,f.cap⟩:Sl),(0:Int)) o
theorem Je(c:bS)(a:Int)(b:Sl)(d:@BA R h c a b):ab xm 66 #[c,(xb xk a),b] h R:=az ac func66 (ak.tn (ak.tn (.two (ak.tn (.inn (.loop [(7,cx),(15,aU)] [(7,8),(9,11),(15,30)] .n))) .n))) d
noncomputable def mR(a:Sl):Prop:=
 aA xm (qG 22 (xb xi 0) (qc xi ((a.len:Int)+2))) aI h λd e=>
 aA xm (qu #[22,22] 22 #[d,a]) aI e λb c=>
 R b c
theorem tz(a:Sl)(b:@mR R h a):ab xm 67 #[a] h R:=az ac func67 .n b
noncomputable def LX(c:Int)(a:Int):Prop:=
 ae xm 122 #[c,a] ci h λq n=>
 Br (!q)
 (R (.tuple #[(xc eH 0 0),(xb xi 1)]) n)
 (ae xm 58 #[c,a] bB n λu m=>
 Br (u>4096)
 (R (.tuple #[(xc eH 0 0),(xb xi 13)]) m)
 (aA xm (qG 22 a a) aI m λv3 h3=>
 aJ (σ:=Int) (λd x o=>
 Br (d<(v3.len:Int))
 (aO v3 d λa5=>
 af xm (qf 3 (a5.add (d.toNat*1)) d) o λ_ y=>
 x (qc xi (d+1)) y)
 (ae xm 128 #[v3] aI o λr s=>
 aA xm (qq 51 1 #[(0,r)]) aI s λf w=>
 aJ (σ:=Sl) (λl t h8=>
 ae xm 135 #[v3,c] ci h8 λv p=>
 Br v
 (ae xm 128 #[v3] aI p λi k=>
 aA xm (qq 51 1 #[(0,i)]) aI k λg e=>
 aA xm (qu #[51,51] 51 #[l,g]) aI e λb j=>
 t (⟨b.ptr,b.len,b.cap⟩:Sl) j)
 (R (.tuple #[l,(xb xi 0)]) p)) (⟨f.ptr,f.len,f.cap⟩:Sl) w)) (0:Int) h3))
theorem SN(a:Int)(b:Int)(c:@LX R h a b):ab xm 68 #[a,b] h R:=az ac func68 (ak.tn (ak.tn (ak.tn (.two (ak.tn (.inn (.loop [(23,aU)] [(7,8),(23,31)] .n))) (ak.tn (.two (.inn (.loop [(8,cx)] [(8,9),(34,42)] .n)) .n)))))) c
noncomputable def LY(b:aQ)(a:Int):Prop:=
 bg (σ:=Unit) (λ_ d=>
 bg (σ:=aQ) (λj h3=>
 aP xm (qN 200 (xh #[j,a,(xc eH 0 0)])) h3 λa4 f=>
 R a4 f)
 (λc=>
 Br (za b)
 (ae xm 65 #[] kM d λi g=>
 c i g)
 (c b d)))
 (λe=>
 Br (a<0) (R (xd eH) h) (Br (a>64)
 (R (xd eH) h)
 (e () h)))
theorem SO(b:aQ)(a:Int)(c:@LY R h b a):ab xm 69 #[b,a] h R:=az ac func69 (ak.tn (.two (.join [] [(4,11)] .n) (.two (.join [(0,CN)] [(0,1),(11,14)] .n) .n))) c
noncomputable def LZ(i:bS):Prop:=
 aP xm (qN 24 i) h λb u=>
 ∃x2:bS,an u b 0 x2/\
 ae xm 40 #[x2] ci u λx s=>
 Br (!x)
 (R (xc eH 0 0) s)
 (ae xm 65 #[] kM s λz h3=>
 aZ h3 (b.add 1) λE=>
 aJ (σ:=Sl×Int) (λe B g=>
 Br (e.2<E)
 (bg (σ:=Sl) (λf v=>
 aZ v b λq=>
 aJ (σ:=Int) (λa D h8=>
 Br (a<q)
 (ae xm 137 #[z,(qc xi ((qc xi (e.2+1))*(qc xi (a+1))))] (.one (.sc (.int .u8))) h8 λj F=>
 aO f a λl=>
 af xm (qf 5 (l.add (a.toNat*1)) (xb xj j)) F λ_ o=>
 D (qc xi (a+1)) o)
 (aA xm (qq 85 1 #[(0,f)]) aI h8 λn k=>
 aA xm (qu #[85,85] 85 #[e.1,n]) aI k λd p=>
 B ((⟨d.ptr,d.len,d.cap⟩:Sl),qc xi (e.2+1)) p)) (0:Int) v)
 (λy=>
 ∃t:bS,an g b 0 t/\
 aZ g b λm=>
 ae xm 21 #[t] bB g λA w=>
 (av.ok [(b,m)] w)/\
 ae xm 136 #[A,(qc xi (m+e.2))] aI w λc r=>
 (av.ok [(b,m)] r)/\
 y (⟨c.ptr,c.len,c.cap⟩:Sl) r))
 (R e.1 g)) ((⟨eH,0,0⟩:Sl),(0:Int)) h3)
theorem SP(a:bS)(b:@LZ R h a):ab xm 70 #[a] h R:=az ac func70 (ak.tn (ak.tn (ak.tn (ak.tn (.two (ak.tn (.inn (.loop [(4,cx),(14,aU)] [(4,8),(14,45)] (ak.tn (ak.tn (.two (.inn (ak.tn (.two (.join [(6,cx)] [(6,7),(17,24)] .n) (.two (ak.tn (.inn (.loop [(26,aU)] [(7,8),(26,40)] .n))) .n)))) .n)))))) .n))))) b
noncomputable def BB(a:aQ)(f:Sl):Prop:=
 ae xm 138 #[a,f] (.many [cx,kN]) h λd k=>
 bg (σ:=Unit) (λ_ h3=>
 ∃a4,(a=dB a4)/\
 kL h3 a4 λg=>
 ∃c,(a=dB c)/\
 bh h3 (c.add 2) λo=>
 aA xm (qq 85 1 #[(0,d.1)]) aI h3 λp m=>
 (av.ok [(c.add 2,o),(a4,g)] m)/\
 aA xm (qu #[85,85] 85 #[o,p]) aI m λv9 n=>
 (av.ok [(a4,g)] n)/\
 ae xm 131 #[g,v9] aI n λe i=>
 (av.ok [] i)/\
 ∃b,(a=dB b)/\
 af xm (qf 85 (b.add 2) e) i λ_ l=>
 (av.ok [] l)/\
 R eR l)
 (λr=>
 Br (!d.2) (R eS k) (ae xm 139 #[d.1] bB k λq j=>
 Br (q<0)
 (R eS j)
 (r () j)))
theorem Jf(b:aQ)(a:Sl)(c:@BB R h b a):ab xm 71 #[b,a] h R:=az ac func71 (ak.tn (ak.tn (.two (.join [] [(4,5),(13,20)] .n) .n))) c
noncomputable def Fe(g:bS)(c:Int)(a:Sl):Prop:=
 aP xm (qN 24 g) h λs t=>
 aJ (σ:=Sl×Int) (λf v k=>
 Br (f.2<(a.len:Int))
 (aO a f.2 λa3=>
 bh k (a3.add (f.2.toNat*1)) λl=>
 aJ (σ:=Sl×Int) (λb m h3=>
 Br (b.2<(l.len:Int))
 (aO l b.2 λq=>
 aZ h3 (q.add (b.2.toNat*1)) λx=>
 ∃o:bS,an h3 s 0 o/\
 ae xm 134 #[o,(xb xk c),x] aI h3 λn p=>
 Br (!(za n.ptr))
 (aA xm (qq 85 1 #[(0,n)]) aI p λj w=>
 aA xm (qu #[85,85] 85 #[b.1,j]) aI w λe r=>
 m ((⟨e.ptr,e.len,e.cap⟩:Sl),qc xi (b.2+1)) r)
 (m ((⟨b.1.ptr,b.1.len,b.1.cap⟩:Sl),qc xi (b.2+1)) p))
 (aA xm (qq 129 1 #[(0,b.1)]) aI h3 λi u=>
 aA xm (qu #[129,129] 129 #[f.1,i]) aI u λd h8=>
 v ((⟨d.ptr,d.len,d.cap⟩:Sl),qc xi (f.2+1)) h8)) ((⟨eH,0,0⟩:Sl),(0:Int)) k)
 (R f.1 k)) ((⟨eH,0,0⟩:Sl),(0:Int)) t
theorem Ma(c:bS)(b:Int)(a:Sl)(d:@Fe R h c b a):ab xm 72 #[c,(xb xk b),a] h R:=az ac func72 (ak.tn (ak.tn (.two (ak.tn (.inn (.loop [(7,cx),(16,aU)] [(7,8),(9,11),(12,14),(16,42)] (ak.tn (ak.tn (.two (.inn (ak.tn (ak.tn (.two (ak.tn (.inn (.loop [(10,cx),(22,aU)] [(10,11),(12,14),(22,37)] .n))) .n)))) .n)))))) .n))) d
noncomputable def Ff(b:aQ)(e:Sl)(c:Sl)(a:Int):Prop:=
 ae xm 140 #[b] kM h λg t=>
 aJ (σ:=Int) (λd m j=>
 Br (d<(e.len:Int))
 (aO e d λa3=>
 bh j (a3.add (d.toNat*1)) λl=>
 ae xm 84 #[c,d] ci j λr h3=>
 Br r
 (m (qc xi (d+1)) h3)
 (aJ (σ:=Int) (λf q k=>
 Br (f<(l.len:Int))
 (aO l f λo=>
 bh k (o.add (f.toNat*1)) λv=>
 ae xm 141 #[g] bB k λs n=>
 Br (s==a)
 (R eR n)
 (ae xm 71 #[g,v] ci n λ_ p=>
 q (qc xi (f+1)) p))
 (m (qc xi (d+1)) k)) (0:Int) h3))
 (ae xm 141 #[g] bB j λi u=>
 R (xg (i==a)) u)) (0:Int) t
theorem Mb(a:aQ)(d:Sl)(c:Sl)(b:Int)(e:@Ff R h a d c b):ab xm 73 #[a,d,c,b] h R:=az ac func73 (ak.tn (ak.tn (.two (ak.tn (.inn (.loop [(18,aU)] [(8,9),(10,12),(13,14),(18,41)] (ak.tn (ak.tn (.two (.inn (ak.tn (ak.tn (ak.tn (.inn (.loop [(28,aU)] [(8,9),(13,14),(28,40)] .n)))))) .n)))))) .n))) e
noncomputable def Jz(a:Sl):Prop:=
 Br ((a.len:Int) !=64)
 (R (.tuple #[(xb xi 0),(xc eH 0 0),eS]) h)
 (aO a (3:Int) λc=>
 gj .u8 h (c.add ((3:Int).toNat*1)) λx2=>
 (0<=(4:Int)/\(4:Int)<=(59:Int)/\(59:Int)<=(a.cap:Int))/\
 ae xm 146 #[(.slice (if a.cap=(4:Int).toNat then a.ptr else a.ptr.map (·.add ((4:Int).toNat*1))) ((59:Int).toNat-(4:Int).toNat) (a.cap-(4:Int).toNat))] aI h λb d=>
 (av.ok [(c.add ((3:Int).toNat*1),(xb xj x2))] d)/\
 ae xm 147 #[(qc xi x2),b] aI d λg f=>
 ae xm 99 #[a,g] ci f λe h3=>
 Br (!e)
 (R (.tuple #[(xb xi 0),(xc eH 0 0),eS]) h3)
 (R (.tuple #[(qc xi x2),b,eR]) h3))
theorem QC(a:Sl)(b:@Jz R h a):ab xm 76 #[a] h R:=az ac func76 .n b
noncomputable def Mc(c:cU)(a:Sl):Prop:=
 aJ (σ:=Sl×Int) (λb d f=>
 Br (b.2<(a.len:Int))
 (aO a b.2 λk=>
 aZ f (k.add (b.2.toNat*1)) λx3=>
 iM C c.1 (c.2.1.toList++[(xb xi x3)]++c.2.2.toList) kM f λi g=>
 Br (!(za i)) (ae xm 149 #[i] ci g λl h3=>
 Br (!l)
 (aA xm (qq 22 1 #[(0,x3)]) aI h3 λn j=>
 aA xm (qu #[22,22] 22 #[b.1,n]) aI j λe m=>
 d ((⟨e.ptr,e.len,e.cap⟩:Sl),qc xi (b.2+1)) m)
 (d ((⟨b.1.ptr,b.1.len,b.1.cap⟩:Sl),qc xi (b.2+1)) h3)) (d ((⟨b.1.ptr,b.1.len,b.1.cap⟩:Sl),qc xi (b.2+1)) g))
 (R b.1 f)) ((⟨eH,0,0⟩:Sl),(0:Int)) h
theorem SQ(b:cU)(a:Sl)(c:@Mc R h b a):ab xm 80 #[(.func (.func b.1) b.2.1 b.2.2),a] h R:=az ac func80 (ak.tn (ak.tn (.two (ak.tn (.inn (.loop [(5,cx),(11,aU)] [(5,6),(7,9),(11,30)] .n))) .n))) c
noncomputable def mS(b:Sl)(a:Int):Prop:=
 ae xm 150 #[b,a] bB h λd c=>
 R (decide (d>=0)) c
theorem tC(b:Sl)(a:Int)(c:@mS R h b a):ab xm 84 #[b,a] h R:=az ac func84 .n c
noncomputable def tE(b:aQ)(a:ByteArray):Prop:=
 aP xm (qN 9 a) h λe d=>
 ∃c,(b=dB c)/\
 bh d (c.add 7) λx3=>
 ae xm 152 #[x3,(.func (.func 153) #[] #[e])] bB d λg f=>
 R g f
theorem Em(b:aQ)(a:ByteArray)(c:@tE R h b a):ab xm 91 #[b,a] h R:=az ac func91 .n c
noncomputable def CU(v:bS)(a:Int)(l:Sl):Prop:=
 aP xm (qN 24 v) h λd J=>
 bg (σ:=Unit) (λ_ L=>
 bg (σ:=Unit) (λ_ K=>
 ∃m:bS,an K d 0 m/\
 ae xm 160 #[m,(xb xk a),l] (.many [cx,aU]) K λi h8=>
 Br (i.2 !=0)
 (R (.tuple #[(xc eH 0 0),i.2]) h8)
 (aZ h8 d λG=>
 aJ (σ:=Sl×Int) (λc U H=>
 Br (c.2<G)
 (aZ H (d.add 2) λn=>
 aA xm (qG 34 n n) aI H λk t=>
 ∃p:bS,an t d 0 p/\
 ae xm 161 #[p,(xb xk a),c.2] aI t λr y=>
 aJ (σ:=Int) (λf T g=>
 Br (f<(r.len:Int))
 (aO r f λx=>
 aZ g (x.add (f.toNat*1)) λo=>
 aO i.1 o λu=>
 bh g (u.add (o.toNat*1)) λs=>
 aJ (σ:=Int) (λb S e=>
 Br (b<(s.len:Int))
 (aO s b λB=>
 gj .u8 e (B.add (b.toNat*1)) λD=>
 aO k b λA=>
 gj .u8 e (A.add (b.toNat*1)) λE=>
 aO k b λa28=>
 af xm (qf 5 (a28.add (b.toNat*1)) (xb xj (qc xj ((qF (qk xj) E^^^(qF (qk xj) D)).toNat:Nat)))) e λ_ z=>
 S (qc xi (b+1)) z)
 (T (qc xi (f+1)) e)) (0:Int) g)
 (aA xm (qu #[34,34] 34 #[c.1,k]) aI g λj F=>
 U ((⟨j.ptr,j.len,j.cap⟩:Sl),qc xi (c.2+1)) F)) (0:Int) y)
 (R (.tuple #[c.1,(xb xi 0)]) H)) ((⟨eH,0,0⟩:Sl),(0:Int)) h8))
 (λP=>
 ∃q:bS,an L d 0 q/\
 ae xm 159 #[l] aI L λN M=>
 (av.ok [(d,q.1),(d.add 1,q.2.1),(d.add 2,q.2.2)] M)/\
 ae xm 158 #[q,(xb xk a),N] ci M λV w=>
 (av.ok [] w)/\
 Br (!V)
 (R (.tuple #[(xc eH 0 0),(xb xi 9)]) w)
 (P () w)))
 (λW=>
 ∃x2:bS,an J d 0 x2/\
 ae xm 40 #[x2] ci J λO I=>
 Br (!O) (R (.tuple #[(xc eH 0 0),(xb xi 1)]) I) (ae xm 155 #[l,(.func (.func 156) #[] #[d])] ci I λQ h3=>
 Br Q
 (R (.tuple #[(xc eH 0 0),(xb xi 1)]) h3)
 (W () h3)))
theorem KD(b:bS)(a:Int)(c:Sl)(d:@CU R h b a c):ab xm 93 #[b,(xb xk a),c] h R:=az ac func93 (ak.tn (.two (.join [] [(6,8),(17,25)] .n) (.two (.join [] [(6,8),(25,31)] .n) (ak.tn (ak.tn (ak.tn (.two (ak.tn (.inn (.loop [(10,cx),(43,aU)] [(10,13),(14,17),(43,81)] (ak.tn (ak.tn (.two (.inn (ak.tn (ak.tn (.two (ak.tn (.inn (.loop [(54,aU)] [(14,17),(54,77)] (ak.tn (ak.tn (.two (.inn (ak.tn (ak.tn (.inn (.loop [(63,aU)] [(15,17),(63,76)] .n))))) .n)))))) .n)))) .n)))))) .n))))))) d
noncomputable def Md(q:dz):Prop:=
 aP xm (qN 44 q) h λc G=>
 bg (σ:=Unit) (λ_ E=>
 bg (σ:=Unit) (λ_ h8=>
 bh h8 (c.add 7) λg=>
 aJ (σ:=Int) (λa Q D=>
 Br (a<(g.len:Int))
 (aO g a λr=>
 ∃l:iA,an D (r.add (a.toNat*4)) 0 l/\
 aP xm (qO 94 eR (.tuple #[])) D λd A=>
 af xm (qf 94 d l) A λ_ f=>
 bg (σ:=Unit) (λ_ i=>
 bh i (c.add 7) λe=>
 (0<=a/\a<=(e.cap:Int))/\
 ae xm 165 #[(xc e.ptr a.toNat e.cap),(.func (.func 166) #[] #[d])] ci i λz j=>
 Br z
 (R eS j)
 (Q (qc xi (a+1)) j))
 (λF=>
 ∃k:dz,an f c 0 k/\
 ∃m:iA,an f d 0 m/\
 ae xm 164 #[k,m] ci f λt b=>
 (av.ok [] b)/\
 Br (!t) (R eS b) (Br (a>0) (bh b (c.add 7) λy=>
 aO y (qc xi (a-1)) λv=>
 Ju b (v.add ((qc xi (a-1)).toNat*4)) λw=>
 Ju b d λp=>
 Br (!(Op.bytesLess w.toList p.toList))
 (R eS b)
 (F () b)) (F () b))))
 (R eR D)) (0:Int) h8)
 (λM=>
 bh E (c.add 6) λB=>
 ae xm 163 #[B,(xb xi 63)] ci E λo n=>
 Br (!o) (R eS n) (bh n (c.add 7) λs=>
 Br ((s.len:Int)>12)
 (R eS n)
 (M () n))))
 (λS=>
 aZ G c λx2=>
 ae xm 162 #[x2,(xb xi 1),(xb xi 2147483647)] ci G λK u=>
 Br (!K) (R eS u) (aZ u (c.add 1) λL=>
 ae xm 162 #[L,(xb xi 0),(xb xi 16777216)] ci u λN h3=>
 Br (!N) (R eS h3) (∃H:bS,an h3 (c.add 2) 0 H/\
 ae xm 40 #[H] ci h3 λJ x=>
 Br (!J) (R eS x) (aZ x (c.add 5) λP=>
 ae xm 162 #[P,(xb xi 0),(xb xi 16)] ci x λO I=>
 Br (!O)
 (R eS I)
 (S () I)))))
theorem SS(a:dz)(b:@Md R h a):ab xm 95 #[a] h R:=az ac func95 (ak.tn (.two (.join [] [(2,3),(5,27)] .n) (.two (.join [] [(2,3),(27,37)] .n) (.two (ak.tn (.inn (.loop [(40,aU)] [(2,5),(40,72)] (ak.tn (ak.tn (.two (.inn (ak.tn (.two (.join [] [(2,3),(45,65)] .n) .n))) .n)))))) .n)))) b
noncomputable def uC(a:aQ):Prop:=
 Br (za a)
 (R (xc eH 0 0) h)
 (∃b,(a=dB b)/\
 bh h (b.add 2) λx2=>
 ae xm 167 #[x2] aI h λc d=>
 R c d)
theorem FI(a:aQ)(b:@uC R h a):ab xm 96 #[a] h R:=az ac func96 .n b
noncomputable def Fg(b:Sl)(a:Sl):Prop:=
 aA xm (convert 34 9 b) (.one tyT) h λe f=>
 aA xm (convert 34 9 a) (.one tyT) f λd c=>
 R (xg (e.toList==d.toList)) c
theorem Me(a:Sl)(b:Sl)(c:@Fg R h a b):ab xm 99 #[a,b] h R:=az ac func99 .n c
noncomputable def JA(ad:dz):Prop:=
 aP xm (qN 44 ad) h λe h1=>
 ∃x2:dz,an h1 e 0 x2/\
 ae xm 95 #[x2] ci h1 λr3 G=>
 Br (!r3)
 (R (xc eH 0 0) G)
 (bg (σ:=Sl) (λs8 s=>
 aZ s (e.add 2) λx9=>
 aZ s ((e.add 2).add 1) λI=>
 aZ s ((e.add 2).add 2) λay=>
 aZ s (e.add 5) λM=>
 bh s (e.add 6) λO=>
 aA xm (qq 34 5 #[(0,(xb xj (qc xj x9))),(1,(xb xj (qc xj I))),(2,(xb xj (qc xj ay))),(3,(xb xj (qc xj M))),(4,(xb xj (qc xj (O.len:Int))))]) aI s λH h6=>
 aA xm (qu #[34,34] 34 #[s8,H]) aI h6 λi h7=>
 bh h7 (e.add 6) λy=>
 aJ (σ:=Sl×Int) (λd K2 h8=>
 Br (d.2<(y.len:Int))
 (aO y d.2 λax=>
 aZ h8 (ax.add (d.2.toNat*1)) λQ=>
 aA xm (qq 34 1 #[(0,(xb xj (qc xj Q)))]) aI h8 λX h9=>
 aA xm (qu #[34,34] 34 #[d.1,X]) aI h9 λo S=>
 K2 ((⟨o.ptr,o.len,o.cap⟩:Sl),qc xi (d.2+1)) S)
 (bh h8 (e.add 7) λL=>
 aA xm (qq 34 1 #[(0,(xb xj (qc xj (L.len:Int))))]) aI h8 λar ah=>
 aA xm (qu #[34,34] 34 #[d.1,ar]) aI ah λj F=>
 bh F (e.add 7) λD=>
 aJ (σ:=Sl×Int) (λc K3 m=>
 Br (c.2<(D.len:Int))
 (aO D c.2 λT=>
 ∃A:iA,an m (T.add (c.2.toNat*4)) 0 A/\
 aP xm (qO 94 eR (.tuple #[])) m λa V=>
 af xm (qf 94 a A) V λ_ l=>
 bg (σ:=Sl) (λK q=>
 bg (σ:=Sl) (λk E=>
 bh E (a.add 3) λt=>
 aJ (σ:=Sl×Int) (λb K6 r=>
 Br (b.2<(t.len:Int))
 (aO t b.2 λP=>
 aZ r (P.add (b.2.toNat*1)) λY=>
 aA xm (qq 34 1 #[(0,(xb xj (qc xj Y)))]) aI r λv45 J=>
 aA xm (qu #[34,34] 34 #[b.1,v45]) aI J λv46 ap=>
 K6 ((⟨v46.ptr,v46.len,v46.cap⟩:Sl),qc xi (b.2+1)) ap)
 (K3 ((⟨b.1.ptr,b.1.len,b.1.cap⟩:Sl),qc xi (c.2+1)) r)) ((⟨k.ptr,k.len,k.cap⟩:Sl),(0:Int)) E)
 (λK5=>
 aZ q (a.add 1) λam=>
 aZ q (a.add 2) λv=>
 ae xm 169 #[K,am,(xb xi 3)] aI q λU u=>
 (av.ok [(a.add 2,v)] u)/\
 ae xm 169 #[U,v,(xb xi 2)] aI u λg w=>
 (av.ok [] w)/\
 K5 (⟨g.ptr,g.len,g.cap⟩:Sl) w))
 (λK4=>
 Ju l a λf=>
 Ju l a λn=>
 aA xm (qq 34 1 #[(0,(xb xj (qc xj (f.size:Int))))]) aI l λW B=>
 (av.ok [(a,n),(a,f)] B)/\
 aA xm (qu #[34,34] 34 #[c.1,W]) aI B λN x=>
 (av.ok [(a,n),(a,f)] x)/\
 aA xm (qu #[34,9] 34 #[N,n]) aI x λp z=>
 (av.ok [(a,f)] z)/\
 K4 (⟨p.ptr,p.len,p.cap⟩:Sl) z))
 (R c.1 m)) ((⟨j.ptr,j.len,j.cap⟩:Sl),(0:Int)) F)) ((⟨i.ptr,i.len,i.cap⟩:Sl),(0:Int)) h7)
 (λK1=>
 aZ G e λx4=>
 aZ G (e.add 1) λx5=>
 ae xm 169 #[(xc eH 0 0),x4,(xb xi 4)] aI G λr6 h3=>
 (av.ok [(e.add 1,x5)] h3)/\
 ae xm 169 #[r6,x5,(xb xi 4)] aI h3 λZ h4=>
 (av.ok [] h4)/\
 K1 (⟨Z.ptr,Z.len,Z.cap⟩:Sl) h4))
theorem QD(a:dz)(b:@JA R h a):ab xm 100 #[a] h R:=az ac func100 (ak.tn (ak.tn (.two (.join [(3,cx)] [(3,4),(13,19)] .n) (ak.tn (.two (ak.tn (.inn (.loop [(3,cx),(44,aU)] [(3,4),(5,6),(44,54)] .n))) (ak.tn (.two (ak.tn (.inn (.loop [(3,cx),(64,aU)] [(3,4),(7,8),(9,10),(64,99)] (ak.tn (ak.tn (.two (.inn (ak.tn (.two (.join [(3,cx)] [(3,4),(68,78)] .n) (.two (.join [(3,cx)] [(3,4),(78,85)] .n) (ak.tn (.inn (.loop [(3,cx),(88,aU)] [(3,4),(9,10),(88,98)] .n))))))) .n)))))) .n))))))) b
noncomputable def Mf(a:Int)(b:Int)(c:Int)(d:Sl):Prop:=
 (0<=(24:Int))/\
 (0<=(16:Int))/\
 (0<=(8:Int))/\
 aA xm (qq 34 7 #[(0,(xb xj (qc xj (q9 a (2^min (24:Int).toNat (qk xi)))))),(1,(xb xj (qc xj (q9 a (2^min (16:Int).toNat (qk xi)))))),(2,(xb xj (qc xj (q9 a (2^min (8:Int).toNat (qk xi)))))),(3,(xb xj (qc xj a))),(4,(xb xj (qc xj b))),(5,(xb xj (qc xj c))),(6,(xb xj (qc xj (d.len:Int))))]) aI h λi j=>
 aA xm (qu #[34,34] 34 #[i,d]) aI j λg f=>
 ae xm 147 #[(xb xi 2),g] aI f λe h3=>
 R e h3
theorem SU(c:Int)(a:Int)(b:Int)(d:Sl)(e:@Mf R h c a b d):ab xm 101 #[c,a,b,d] h R:=az ac func101 .n e
noncomputable def mq(a:aQ)(i:Sl):Prop:=
 bg (σ:=Unit) (λ_ h3=>
 bg (σ:=Unit) (λ_ h8=>
 ∃f,(a=dB f)/\
 aZ h8 (f.add 3) λo=>
 ∃e,(a=dB e)/\
 af xm (qf 3 (e.add 3) (qc xi (o+1))) h8 λ_ D=>
 ∃a22,(a=dB a22)/\
 kL D a22 λq=>
 ae xm 170 #[q] ci D λp j=>
 Br (!p)
 (R (xb xi 14) j)
 (ae xm 171 #[a] bB j λs l=>
 R s l))
 (λG=>
 ∃b,(a=dB b)/\
 bh h3 (b.add 2) λc=>
 ae xm 146 #[i] aI h3 λk A=>
 (av.ok [(b.add 2,c)] A)/\
 aA xm (qq 85 1 #[(0,k)]) aI A λn B=>
 (av.ok [(b.add 2,c)] B)/\
 aA xm (qu #[85,85] 85 #[c,n]) aI B λr v=>
 (av.ok [] v)/\
 ∃g,(a=dB g)/\
 af xm (qf 85 (g.add 2) r) v λ_ z=>
 (av.ok [] z)/\
 G () z))
 (λH=>
 Br ((i.len:Int) !=64)
 (R (xb xi 1) h)
 (bg (σ:=Bool) (λF d=>
 Br F
 (R (xb xi 5) d)
 (∃a4,(a=dB a4)/\
 bh d (a4.add 2) λI=>
 ∃t,(a=dB t)/\
 aZ d (t.add 1) λJ=>
 Br ((I.len:Int)>=J)
 (R (xb xi 7) d)
 (∃u,(a=dB u)/\
 kL d u λE=>
 ae xm 121 #[E] ci d λm y=>
 Br (!m)
 (R (xb xi 14) y)
 (H () y))))
 (λx=>
 Br (za a) (x eR h) (∃w,(a=dB w)/\
 rN h (w.add 6) λx2=>
 x x2 h))))
theorem om(a:aQ)(b:Sl)(c:@mq R h a b):ab xm 102 #[a,b] h R:=az ac func102 (ak.tn (.two (.join [] [(4,36)] (.inn (ak.tn (ak.tn (.two (.join [(9,kN)] [(9,18)] .n) .n))))) (.two (.join [] [(36,47)] .n) .n))) c
noncomputable def Mg(b:cU)(a:Sl):Prop:=
 ae xm 128 #[a] aI h λf o=>
 ae xm 148 #[f] jm o λ_ l=>
 ae xm 172 #[f] aI l λe h3=>
 aJ (σ:=Int) (λc j d=>
 Br (c<(e.len:Int))
 (aO e c λa5=>
 aZ d (a5.add (c.toNat*1)) λk=>
 iM C b.1 (b.2.1.toList++[(xb xi k)]++b.2.2.toList) kM d λm n=>
 ae xm 173 #[m] bB n λg i=>
 Br (g !=0)
 (R g i)
 (j (qc xi (c+1)) i))
 (R (xb xi 0) d)) (0:Int) h3
theorem SV(b:cU)(a:Sl)(c:@Mg R h b a):ab xm 103 #[(.func (.func b.1) b.2.1 b.2.2),a] h R:=az ac func103 (ak.tn (ak.tn (ak.tn (.two (ak.tn (.inn (.loop [(15,aU)] [(4,5),(6,8),(15,27)] .n))) .n)))) c
noncomputable def JB(e:ByteArray):Prop:=
 aA xm (convert 9 34 e) aI h λf g=>
 aJ (σ:=Int) (λc d a=>
 Br (c<(f.len:Int))
 (aO f c λa3=>
 gj .u8 a (a3.add (c.toNat*1)) λb=>
 Br (b<97) (Br (b<48) (Br (b !=45)
 (R eS a)
 (d (qc xi (c+1)) a)) (Br (b>57) (Br (b !=45)
 (R eS a)
 (d (qc xi (c+1)) a)) (d (qc xi (c+1)) a))) (Br (b>122) (Br (b<48) (Br (b !=45)
 (R eS a)
 (d (qc xi (c+1)) a)) (Br (b>57) (Br (b !=45)
 (R eS a)
 (d (qc xi (c+1)) a)) (d (qc xi (c+1)) a))) (d (qc xi (c+1)) a)))
 (Br ((e.size:Int)>=1) (R (decide ((e.size:Int)<=12)) a) (R eS a))) (0:Int) g
theorem QE(a:ByteArray)(b:@JB R h a):ab xm 104 #[a] h R:=az ac func104 (ak.tn (.two (ak.tn (.inn (.loop [(8,aU)] [(2,3),(4,5),(8,31)] .n))) .n)) b
noncomputable def JC(f:bS)(a:Int)(b:Int):Prop:=
 aP xm (qN 24 f) h λc l=>
 aJ (σ:=Int) (λd i g=>
 Br (d<16)
 (∃x3:bS,an g c 0 x3/\
 ae xm 62 #[a,b,d] (.one (.sc (.int .u32))) g λk h3=>
 (av.ok [(c,x3.1),(c.add 1,x3.2.1),(c.add 2,x3.2.2)] h3)/\
 ae xm 174 #[x3,(xb xk k)] ci h3 λj e=>
 (av.ok [] e)/\
 Br j
 (R (.tuple #[d,eR]) e)
 (i (qc xi (d+1)) e))
 (R (.tuple #[(xb xi 0),eS]) g)) (0:Int) l
theorem QF(c:bS)(a:Int)(b:Int)(d:@JC R h c a b):ab xm 105 #[c,a,b] h R:=az ac func105 (ak.tn (.two (ak.tn (.inn (.loop [(9,aU)] [(6,20)] .n))) .n)) d
noncomputable def yF(a:bS):Prop:=
 aP xm (qN 24 a) h λc b=>
 aZ b c λx2=>
 aZ b (c.add 2) λx3=>
 R (qc xi (x2*x3)) b
theorem CV(a:bS)(b:@yF R h a):ab xm 106 #[a] h R:=az ac func106 .n b
noncomputable def Fh(e:bS)(a:Sl):Prop:=
 aP xm (qN 24 e) h λf k=>
 ∃x2:bS,an k f 0 x2/\
 ae xm 48 #[x2,(xb xi (a.len:Int))] bB k λp q=>
 aJ (σ:=Sl×Int) (λb s h3=>
 Br (b.2<p)
 (∃n:bS,an h3 f 0 n/\
 ae xm 106 #[n] bB h3 λi t=>
 aA xm (qG 34 i i) aI t λj m=>
 ∃l:bS,an m f 0 l/\
 ae xm 106 #[l] bB m λd o=>
 (0<=(qc xi (b.2*d))/\(qc xi (b.2*d))<=(a.len:Int))/\
 aA xm (w5 #[34,34] 3 #[j,(.slice (if a.cap=(qc xi (b.2*d)).toNat then a.ptr else a.ptr.map (·.add ((qc xi (b.2*d)).toNat*1))) (a.len-(qc xi (b.2*d)).toNat) (a.cap-(qc xi (b.2*d)).toNat))]) bB o λ_ r=>
 aA xm (qq 85 1 #[(0,j)]) aI r λg h8=>
 aA xm (qu #[85,85] 85 #[b.1,g]) aI h8 λc u=>
 s ((⟨c.ptr,c.len,c.cap⟩:Sl),qc xi (b.2+1)) u)
 (R b.1 h3)) ((⟨eH,0,0⟩:Sl),(0:Int)) q
theorem Mh(a:bS)(b:Sl)(c:@Fh R h a b):ab xm 107 #[a,b] h R:=az ac func107 (ak.tn (ak.tn (.two (ak.tn (.inn (.loop [(5,cx),(12,aU)] [(5,8),(12,31)] .n))) .n))) c
noncomputable def GP(y:bS)(d:Int)(a:Sl):Prop:=
 aP xm (qN 24 y) h λc N=>
 bg (σ:=Unit) (λ_ h3=>
 ∃M:bS,an h3 c 0 M/\
 ae xm 174 #[M,(xb xk d)] ci h3 λX G=>
 Br (!X)
 (R (.tuple #[(xd eH),(xb xi 8)]) G)
 (aZ G (c.add 1) λQ=>
 aJ (σ:=Sl×Int) (λf T x=>
 Br (f.2<Q)
 (aZ x (c.add 2) λw=>
 aA xm (qG 34 w w) aI x λB O=>
 aA xm (qq 85 1 #[(0,B)]) aI O λD V=>
 aA xm (qu #[85,85] 85 #[f.1,D]) aI V λl h8=>
 T ((⟨l.ptr,l.len,l.cap⟩:Sl),qc xi (f.2+1)) h8)
 (aZ x c λz=>
 aJ (σ:=Sl×Int) (λb W p=>
 Br (b.2<z)
 (aZ p (c.add 2) λg=>
 aZ p (c.add 2) λn=>
 (0<=(qc xi (b.2*g))/\(qc xi (b.2*g))<=(qc xi ((qc xi (b.2+1))*n))/\(qc xi ((qc xi (b.2+1))*n))<=(a.cap:Int))/\
 aA xm (qq 85 1 #[(0,(.slice (if a.cap=(qc xi (b.2*g)).toNat then a.ptr else a.ptr.map (·.add ((qc xi (b.2*g)).toNat*1))) ((qc xi ((qc xi (b.2+1))*n)).toNat-(qc xi (b.2*g)).toNat) (a.cap-(qc xi (b.2*g)).toNat)))]) aI p λF K=>
 aA xm (qu #[85,85] 85 #[b.1,F]) aI K λo A=>
 W ((⟨o.ptr,o.len,o.cap⟩:Sl),qc xi (b.2+1)) A)
 (bg (σ:=Sl×Int) (λq m=>
 Br (q.2 !=0)
 (R (.tuple #[(xd eH),(xb xi 8)]) m)
 (∃j:bS,an m c 0 j/\
 aP xm (qN 234 (xh #[j.1,j.2.1,j.2.2,(xb xk d),q.1])) m λL E=>
 R (.tuple #[L,(xb xi 0)]) E))
 (λU=>
 ∃e:bS,an p c 0 e/\
 ∃i:bS,an p c 0 i/\
 ae xm 65 #[] kM p λI v=>
 (av.ok [(c,i.1),(c.add 1,i.2.1),(c.add 2,i.2.2),(c,e.1),(c.add 1,e.2.1),(c.add 2,e.2.2)] v)/\
 ae xm 176 #[i] aI v λH r=>
 (av.ok [(c,e.1),(c.add 1,e.2.1),(c.add 2,e.2.2)] r)/\
 ae xm 66 #[e,(xb xk d),H] aI r λJ s=>
 (av.ok [] s)/\
 ae xm 175 #[I,J,b.1] (.many [cx,aU]) s λk u=>
 (av.ok [] u)/\
 U ((⟨k.1.ptr,k.1.len,k.1.cap⟩:Sl),k.2) u))) ((⟨f.1.ptr,f.1.len,f.1.cap⟩:Sl),(0:Int)) x)) ((⟨eH,0,0⟩:Sl),(0:Int)) G))
 (λY=>
 ∃x2:bS,an N c 0 x2/\
 ae xm 40 #[x2] ci N λP t=>
 Br (!P) (R (.tuple #[(xd eH),(xb xi 1)]) t) (aZ t c λS=>
 aZ t (c.add 2) λZ=>
 Br ((a.len:Int) !=(qc xi (S*Z)))
 (R (.tuple #[(xd eH),(xb xi 1)]) t)
 (Y () t)))
theorem Oe(c:bS)(b:Int)(a:Sl)(d:@GP R h c b a):ab xm 108 #[c,(xb xk b),a] h R:=az ac func108 (ak.tn (.two (.join [] [(6,8),(12,25)] .n) (ak.tn (ak.tn (.two (ak.tn (.inn (.loop [(8,cx),(31,aU)] [(8,9),(31,40)] .n))) (.two (ak.tn (.inn (.loop [(8,cx),(42,aU)] [(8,10),(42,60)] .n))) (.two (.join [(10,cx),(11,aU)] [(10,12),(60,71)] .n) .n))))))) d
noncomputable def Fi(a:Int)(b:Int)(c:Sl):Prop:=
 bg (σ:=Unit) (λ_ J=>
 ((64:Int)≠0)/\
 ae xm 177 #[(wg (qc xi ((qc xi (8*a))+b)) 64)] (.one (.sc (.cpx .f64))) J λA G=>
 aP xm (qO 238 eR (.tuple #[])) G λa3 h3=>
 aJ (σ:=Sl×Int) (λe z l=>
 Br (e.2<(c.len:Int))
 (aO c e.2 λa5=>
 aZ l (a5.add (e.2.toNat*1)) λf=>
 bg (σ:=Bool) (λE D=>
 Br E
 ((0<=f/\f<((64:Nat):Int))/\
 af xm (qf 4 (a3.add (f.toNat*1)) eR) D λ_ F=>
 ae xm 177 #[f] (.one (.sc (.cpx .f64))) F λB K=>
 ae xm 178 #[(.complex .f64 B.1 B.2),(.complex .f64 A.1 A.2)] (.one (.sc (.flt .f64))) K λr h8=>
 aA xm (qq 237 1 #[(0,(xh #[f,(.float .f64 r)]))]) aI h8 λq M=>
 aA xm (qu #[237,237] 237 #[e.1,q]) aI M λi x=>
 z ((⟨i.ptr,i.len,i.cap⟩:Sl),qc xi (e.2+1)) x)
 (z ((⟨e.1.ptr,e.1.len,e.1.cap⟩:Sl),qc xi (e.2+1)) D))
 (λw=>
 Br (f>=0) (Br (f<64) ((0<=f/\f<((64:Nat):Int))/\
 rN l (a3.add (f.toNat*1)) λH=>
 w (!H) l) (w eS l)) (w eS l)))
 (ae xm 179 #[e.1,(.func (.func 180) #[] #[])] jm l λ_ p=>
 aJ (σ:=Sl×Int) (λd I j=>
 Br (d.2<(e.1.len:Int))
 (aO e.1 d.2 λs=>
 ∃g:Int×Nat,an j (s.add (d.2.toNat*2)) 0 [g.1,(.float .f64 g.2)]/\
 aP xm (qO 242 eR (.tuple #[])) j λn o=>
 af xm (qf 242 n (xh #[g.1,(.float .f64 g.2)])) o λ_ m=>
 aZ m n λv=>
 aA xm (qq 22 1 #[(0,v)]) aI m λu y=>
 aA xm (qu #[22,22] 22 #[d.1,u]) aI y λk t=>
 I ((⟨k.ptr,k.len,k.cap⟩:Sl),qc xi (d.2+1)) t)
 (R d.1 j)) ((⟨eH,0,0⟩:Sl),(0:Int)) p)) ((⟨eH,0,0⟩:Sl),(0:Int)) h3)
 (λL=>
 Br (a<0) (R (xc eH 0 0) h) (Br (a>16777215) (R (xc eH 0 0) h) (Br (b<0) (R (xc eH 0 0) h) (Br (b>=8)
 (R (xc eH 0 0) h)
 (L () h)))))
theorem Mi(a:Int)(b:Int)(c:Sl)(d:@Fi R h a b c):ab xm 109 #[a,b,c] h R:=az ac func109 (ak.tn (.two (.join [] [(6,7),(15,29)] .n) (ak.tn (ak.tn (ak.tn (.two (ak.tn (.inn (.loop [(8,cx),(37,aU)] [(8,9),(11,12),(37,65)] (ak.tn (ak.tn (.two (.inn (ak.tn (.two (.join [(52,kN)] [(41,53)] .n) .n))) .n)))))) (ak.tn (ak.tn (.two (ak.tn (.inn (.loop [(12,cx),(69,aU)] [(12,13),(14,15),(69,79)] .n))) .n))))))))) d
noncomputable def pf(c:aQ)(b:Int):Prop:=
 bg (σ:=Unit) (λ_ v=>
 ∃t,(c=dB t)/\
 aZ v (t.add 2) λx3=>
 aA xm (qG 34 x3 x3) aI v λv4 n=>
 ∃a5,(c=dB a5)/\
 ∃w:bS,an n a5 0 w/\
 ∃s,(c=dB s)/\
 gj .u32 n (s.add 3) λz=>
 ae xm 161 #[w,(xb xk z),b] aI n λu h3=>
 (av.ok [] h3)/\
 aJ (σ:=Int) (λd y g=>
 Br (d<(u.len:Int))
 (aO u d λm=>
 aZ g (m.add (d.toNat*1)) λi=>
 ∃e,(c=dB e)/\
 bh g (e.add 4) λk=>
 aO k i λl=>
 bh g (l.add (i.toNat*1)) λf=>
 aJ (σ:=Int) (λa A j=>
 Br (a<(f.len:Int))
 (aO f a λo=>
 gj .u8 j (o.add (a.toNat*1)) λp=>
 aO v4 a λr=>
 gj .u8 j (r.add (a.toNat*1)) λq=>
 aO v4 a λa22=>
 af xm (qf 5 (a22.add (a.toNat*1)) (xb xj (qc xj ((qF (qk xj) q^^^(qF (qk xj) p)).toNat:Nat)))) j λ_ x=>
 A (qc xi (a+1)) x)
 (y (qc xi (d+1)) j)) (0:Int) g)
 (R v4 g)) (0:Int) h3)
 (λB=>
 Br (za c) (R (xc eH 0 0) h) (Br (b<0) (R (xc eH 0 0) h) (Br (b>65535)
 (R (xc eH 0 0) h)
 (B () h))))
theorem AR(b:aQ)(a:Int)(c:@pf R h b a):ab xm 110 #[b,a] h R:=az ac func110 (ak.tn (.two (.join [] [(4,5),(10,20)] .n) (ak.tn (.two (ak.tn (.inn (.loop [(37,aU)] [(7,10),(37,63)] (ak.tn (ak.tn (.two (.inn (ak.tn (ak.tn (.inn (.loop [(49,aU)] [(8,10),(49,62)] .n))))) .n)))))) .n)))) c
noncomputable def Mj(a:Sl)(b:Int):Prop:=
 bg (σ:=Unit) (λ_ c=>
 ((a.len:Int)≠0)/\
 aO a (wg b (a.len:Int)) λe=>
 aZ c (e.add ((wg b (a.len:Int)).toNat*1)) λx3=>
 R x3 c)
 (λd=>
 Br ((a.len:Int)==0) (R (xb xi (-1:Int)) h) (Br (b<0)
 (R (xb xi (-1:Int)) h)
 (d () h)))
theorem SX(a:Sl)(b:Int)(c:@Mj R h a b):ab xm 111 #[a,b] h R:=az ac func111 (ak.tn (.two (.join [] [(4,12)] .n) .n)) c
noncomputable def GQ(j:fh):Prop:=
 aP xm (qN 170 j) h λa q=>
 ∃x2:fh,an q a 0 x2/\
 ae xm 184 #[x2] ci q λv k=>
 Br (!v)
 (R (xc eH 0 0) k)
 (aZ k a λw=>
 ae xm 185 #[(xc eH 0 0),w,(xb xi 3)] aI k λx h3=>
 aZ h3 (a.add 1) λA=>
 ae xm 185 #[x,A,(xb xi 1)] aI h3 λt s=>
 aZ s (a.add 2) λz=>
 ae xm 185 #[t,z,(xb xi 2)] aI s λy b=>
 aZ b (a.add 3) λg=>
 aZ b ((a.add 3).add 1) λp=>
 aZ b ((a.add 3).add 2) λo=>
 aA xm (qq 34 3 #[(0,(xb xj (qc xj g))),(1,(xb xj (qc xj p))),(2,(xb xj (qc xj o)))]) aI b λi u=>
 aA xm (qu #[34,34] 34 #[y,i]) aI u λc r=>
 gj .u32 r (a.add 6) λd=>
 ae xm 185 #[c,(qc xi d),(xb xi 4)] aI r λe h8=>
 bh h8 (a.add 7) λl=>
 aA xm (qu #[34,34] 34 #[e,l]) aI h8 λf B=>
 ae xm 147 #[(xb xi 1),f] aI B λm n=>
 R m n)
theorem Of(a:fh)(b:@GQ R h a):ab xm 112 #[a] h R:=az ac func112 .n b
noncomputable def iU(b:Sl)(a:cU):Prop:=
 ae xm 187 #[(xb xl (qc xl (b.len:Int)))] bB h λc e=>
 ae xm 186 #[b,(xb xi 0),(xb xi (b.len:Int)),c,(.func (.func a.1) a.2.1 a.2.2)] jm e λ_ d=>
 R (.tuple #[]) d
theorem mD(b:Sl)(a:cU)(c:@iU R h b a):ab xm 113 #[b,(.func (.func a.1) a.2.1 a.2.2)] h R:=az ac func113 .n c
noncomputable def CW(c:iA)(b:iA):Prop:=
 aP xm (qN 94 c) h λd i=>
 aP xm (qN 94 b) i λe a=>
 Ju a d λx3=>
 Ju a e λg=>
 ae xm 115 #[x3,g] bB a λf h3=>
 R f h3
theorem KE(a:iA)(b:iA)(c:@CW R h a b):ab xm 114 #[a,b] h R:=az ac func114 .n c
noncomputable def pW(b:ByteArray)(a:ByteArray):Prop:=
 ae xm 188 #[b] ci h λe f=>
 ae xm 188 #[a] ci f λd c=>
 Br e
 (Br d
 (R (xb xi 0) c)
 (R (xb xi (-1:Int)) c))
 (Br d
 (R (xb xi 1) c)
 (Br (Op.bytesLess b.toList a.toList)
 (R (xb xi (-1:Int)) c)
 (Br (!(Op.bytesLess b.toList a.toList||b.toList==a.toList))
 (R (xb xi 1) c)
 (R (xb xi 0) c))))
theorem Cg(a:ByteArray)(b:ByteArray)(c:@pW R h a b):ab xm 115 #[a,b] h R:=az ac func115 .n c
noncomputable def iE(b:Sl)(a:cU):Prop:=
 ae xm 189 #[b,(.func (.func a.1) a.2.1 a.2.2)] bB h λd c=>
 R (decide (d>=0)) c
theorem kp(b:Sl)(a:cU)(c:@iE R h b a):ab xm 116 #[b,(.func (.func a.1) a.2.1 a.2.2)] h R:=az ac func116 .n c
noncomputable def pX(b:Int)(a:hU)(d:hU):Prop:=
 kL h a λf=>
 ∃g,(f=dB g)/\
 (0<=b/\b<((64:Nat):Int))/\
 kL h ((g.add 10).add (b.toNat*1)) λx3=>
 kL h a λi=>
 ∃a5,(i=dB a5)/\
 ∃c:dz,an h a5 0 c/\
 ∃e:cU,cellOf h d=dB (.func (.func e.1) e.2.1 e.2.2)/\
 iM C e.1 (e.2.1.toList++[(xb xi b)]++e.2.2.toList) bB h λl k=>
 (av.ok [(a5,c.1),(a5.add 1,c.2.1),(a5.add 2,c.2.2.1),(a5.add 3,c.2.2.2.1),(a5.add 4,c.2.2.2.2.1),(a5.add 5,c.2.2.2.2.2.1),(a5.add 6,c.2.2.2.2.2.2.1),(a5.add 7,c.2.2.2.2.2.2.2),(a,i),((g.add 10).add (b.toNat*1),x3),(a,f)] k)/\
 ae xm 118 #[x3,c,l] ci k λm j=>
 (av.ok [(a,i),(a,f)] j)/\
 R (xg (!m)) j
theorem Ch(c:Int)(a:hU)(b:hU)(d:@pX R h c a b):ab xm 117 #[c,a,b] h R:=az ac func117 .n d
noncomputable def Ci(a:aQ)(c:dz)(b:Int):Prop:=
 aP xm (qN 44 c) h λk f=>
 bg (σ:=Unit) (λ_ h3=>
 ae xm 191 #[a] bB h3 λm q=>
 ae xm 190 #[a,m,b] ci q λn d=>
 Br n (R eR d) (∃g:dz,an d k 0 g/\
 ae xm 123 #[a,g] aI d λi j=>
 ae xm 190 #[a,(xb xi (i.len:Int)),b] ci j λr o=>
 R r o))
 (λp=>
 Br (za a) (R eS f) (ae xm 149 #[a] ci f λl e=>
 Br l
 (R eS e)
 (p () e)))
theorem Fj(a:aQ)(b:dz)(c:Int)(d:@Ci R h a b c):ab xm 118 #[a,b,c] h R:=az ac func118 (ak.tn (.two (.join [] [(6,13)] .n) .n)) d
noncomputable def Cj(a:aQ)(d:dz)(b:Int):Prop:=
 aP xm (qN 44 d) h λg l=>
 bg (σ:=Unit) (λ_ m=>
 ∃i:dz,an m g 0 i/\
 ae xm 123 #[a,i] aI m λe h8=>
 ae xm 125 #[a,e] bB h8 λc w=>
 R c w)
 (λu=>
 bg (σ:=Bool) (λr h3=>
 Br r
 (R (xb xi 5) h3)
 (∃j:dz,an h3 g 0 j/\
 ae xm 118 #[a,j,b] ci h3 λs n=>
 Br (!s)
 (R (xb xi 7) n)
 (ae xm 191 #[a] bB n λo v=>
 ae xm 190 #[a,o,b] ci v λp f=>
 Br p
 (R (xb xi 0) f)
 (u () f))))
 (λk=>
 Br (za a) (k eR l) (ae xm 149 #[a] ci l λq t=>
 k q t)))
theorem Fk(a:aQ)(b:dz)(c:Int)(d:@Cj R h a b c):ab xm 119 #[a,b,c] h R:=az ac func119 (ak.tn (.two (.join [] [(6,26)] (.inn (.two (.join [(7,kN)] [(7,14)] .n) .n))) .n)) d
noncomputable def lJ(a:ByteArray):Prop:=
 Br ((a.size:Int)==0)
 (R aal h)
 (aA xm (qG 34 (xb xi (a.size:Int)) (xb xi (a.size:Int))) aI h λb d=>
 aA xm (w5 #[34,9] 3 #[b,a]) bB d λ_ c=>
 aO b (0:Int) λa3=>
 aA xm (Builtin.unsafeString_ #[252,3] 9 #[(a3.add ((0:Int).toNat*1)),(xb xi (b.len:Int))]) (.one tyT) c λv4 h3=>
 R v4 h3)
theorem pY(a:ByteArray)(b:@lJ R h a):ab xm 120 #[a] h R:=az ac func120 .n b
noncomputable def zY(a:aQ):Prop:=
 Br (!(za a)) (∃b,(a=dB b)/\
 rN h b λx2=>
 R (xg (!x2)) h) (R eS h)
theorem GR(a:aQ)(b:@zY R h a):ab xm 121 #[a] h R:=az ac func121 .n b
noncomputable def GS(a:Int)(b:Int):Prop:=
 Br (a>=0) (Br (a<=64) (Br (b>=0) (R (decide (b<=a)) h) (R eS h)) (R eS h)) (R eS h)
theorem Og(a:Int)(b:Int)(c:@GS R h a b):ab xm 122 #[a,b] h R:=az ac func122 .n c
noncomputable def JD(b:aQ)(d:dz):Prop:=
 aP xm (qN 44 d) h λa c=>
 ∃x2:dz,an c a 0 x2/\
 ∃x3:dz,an c a 0 x3/\
 ae xm 42 #[x2] aI c λj f=>
 (av.ok [(a,x3.1),(a.add 1,x3.2.1),(a.add 2,x3.2.2.1),(a.add 3,x3.2.2.2.1),(a.add 4,x3.2.2.2.2.1),(a.add 5,x3.2.2.2.2.2.1),(a.add 6,x3.2.2.2.2.2.2.1),(a.add 7,x3.2.2.2.2.2.2.2)] f)/\
 ae xm 192 #[b,x3] aI f λg h3=>
 (av.ok [] h3)/\
 aA xm (qu #[85,85] 85 #[j,g]) aI h3 λi e=>
 (av.ok [] e)/\
 R i e
theorem QG(a:aQ)(b:dz)(c:@JD R h a b):ab xm 123 #[a,b] h R:=az ac func123 .n c
noncomputable def gX(b:Sl)(d:Sl)(a:cU):Prop:=
 Br ((b.len:Int) !=(d.len:Int))
 (R eS h)
 (aJ (σ:=Int) (λc i e=>
 Br (c<(b.len:Int))
 (aO b c λj=>
 bh e (j.add (c.toNat*1)) λx3=>
 aO d c λa4=>
 bh e (a4.add (c.toNat*1)) λf=>
 iM C a.1 (a.2.1.toList++[(xc x3.ptr x3.len x3.cap),(xc f.ptr f.len f.cap)]++a.2.2.toList) ci e λk g=>
 Br (!k)
 (R eS g)
 (i (qc xi (c+1)) g))
 (R eR e)) (0:Int) h)
theorem lr(c:Sl)(b:Sl)(a:cU)(d:@gX R h c b a):ab xm 124 #[c,b,(.func (.func a.1) a.2.1 a.2.2)] h R:=az ac func124 (ak.tn (ak.tn (.two (ak.tn (.inn (.loop [(17,aU)] [(6,10),(17,32)] .n))) .n))) d
noncomputable def ph(a:aQ)(b:Sl):Prop:=
 aJ (σ:=Int) (λk G c=>
 Br (k<(b.len:Int))
 (aO b k λB=>
 bh c (B.add (k.toNat*1)) λx3=>
 Br ((x3.len:Int) !=64)
 (R (xb xi 1) c)
 (G (qc xi (k+1)) c))
 (bg (σ:=Unit) (λ_ w=>
 ∃e,(a=dB e)/\
 kL w e λq=>
 ae xm 170 #[q] ci w λm y=>
 Br (!m)
 (ae xm 167 #[b] aI y λl z=>
 ∃f,(a=dB f)/\
 af xm (qf 85 (f.add 4) l) z λ_ E=>
 ∃i,(a=dB i)/\
 af xm (qf 4 (i.add 5) eR) E λ_ h8=>
 R (xb xi 14) h8)
 (ae xm 167 #[b] aI y λs I=>
 ∃j,(a=dB j)/\
 af xm (qf 85 (j.add 2) s) I λ_ t=>
 ∃d,(a=dB d)/\
 af xm (qf 3 (d.add 3) (xb xi 0)) t λ_ n=>
 ae xm 171 #[a] bB n λr u=>
 R r u))
 (λA=>
 bg (σ:=Bool) (λD g=>
 Br D
 (R (xb xi 5) g)
 (∃v,(a=dB v)/\
 aZ g (v.add 1) λF=>
 Br ((b.len:Int)>F)
 (R (xb xi 7) g)
 (∃a9,(a=dB a9)/\
 kL g a9 λp=>
 ae xm 121 #[p] ci g λo h3=>
 Br (!o)
 (R (xb xi 14) h3)
 (A () h3))))
 (λx=>
 Br (za a) (x eR c) (∃a4,(a=dB a4)/\
 rN c (a4.add 6) λH=>
 x H c))))) (0:Int) h
theorem AS(b:aQ)(a:Sl)(c:@ph R h b a):ab xm 125 #[b,a] h R:=az ac func125 (ak.tn (.two (ak.tn (.inn (.loop [(9,aU)] [(4,5),(6,7),(9,17)] .n))) (.two (.join [] [(4,5),(17,41)] (.inn (.two (.join [(17,kN)] [(17,26)] .n) .n))) .n))) c
noncomputable def pi(a:aQ)(O:iA)(b:Int):Prop:=
 aP xm (qN 94 O) h λe u=>
 bg (σ:=aQ) (λp l=>
 bg (σ:=Sl×Int) (λz E=>
 Br (z.2 !=0)
 (R (.tuple #[(xd eH),(xb xi 11)]) E)
 (bg (σ:=Unit) (λ_ k=>
 bg (σ:=Unit) (λ_ I=>
 R (.tuple #[p,(xb xi 0)]) I)
 (λY=>
 ∃v,(a=dB v)/\
 kL k v λG=>
 aZ k (e.add 1) λJ=>
 ae xm 18 #[G,J,b] aI k λN B=>
 (av.ok [] B)/\
 ∃q,(p=dB q)/\
 af xm (qf 51 (q.add 4) N) B λ_ m=>
 (av.ok [] m)/\
 Y () m))
 (λK3=>
 bg (σ:=Int) (λF A=>
 Br (F !=0)
 (R (.tuple #[(xd eH),(xb xi 11)]) A)
 (K3 () A))
 (λZ=>
 ∃t,(a=dB t)/\
 ∃x:bS,an E ((t.add 1).add 2) 0 x/\
 ∃s,(p=dB s)/\
 gj .u32 E (s.add 2) λP=>
 ae xm 108 #[x,(xb xk P),z.1] (.many [CN,aU]) E λo h8=>
 (av.ok [] h8)/\
 ∃D,(p=dB D)/\
 af xm (qf 165 (D.add 3) o.1) h8 λ_ T=>
 (av.ok [] T)/\
 Z o.2 T))))
 (λX=>
 ∃c,(a=dB c)/\
 ∃d:bS,an l ((c.add 1).add 2) 0 d/\
 ∃i,(p=dB i)/\
 gj .u32 l (i.add 2) λr=>
 ∃g,(a=dB g)/\
 kL l g λj=>
 ∃n,(a=dB n)/\
 bh l (n.add 9) λM=>
 ∃w,(a=dB w)/\
 ∃y:dz,an l (w.add 1) 0 y/\
 aZ l (e.add 1) λK=>
 ae xm 63 #[(.func (.func 35) #[j] #[]),M,y,K,b] aI l λL U=>
 (av.ok [(g,j),(i.add 2,(xb xk r)),((c.add 1).add 2,d.1),(((c.add 1).add 2).add 1,d.2.1),(((c.add 1).add 2).add 2,d.2.2)] U)/\
 ae xm 93 #[d,(xb xk r),L] (.many [cx,aU]) U λf Q=>
 (av.ok [(g,j)] Q)/\
 X ((⟨f.1.ptr,f.1.len,f.1.cap⟩:Sl),f.2) Q))
 (λK1=>
 aZ u (e.add 1) λx2=>
 aZ u (e.add 1) λx3=>
 bh u (e.add 3) λH=>
 aO H b λa5=>
 aZ u (a5.add (b.toNat*1)) λx6=>
 ae xm 62 #[x3,b,x6] (.one (.sc (.int .u32))) u λW S=>
 (av.ok [(e.add 3,H),(e.add 1,x2)] S)/\
 aP xm (qN 187 (xh #[x2,b,(xb xk W),(xd eH),(xc eH 0 0),(xc eH 0 0)])) S λV h3=>
 (av.ok [(e.add 3,H),(e.add 1,x2)] h3)/\
 K1 (dB V) h3)
theorem AT(a:aQ)(b:iA)(c:Int)(d:@pi R h a b c):ab xm 126 #[a,b,c] h R:=az ac func126 (ak.tn (.two (.join [(8,CN)] [(8,9),(11,25)] .n) (.two (.join [(9,cx),(10,aU)] [(9,11),(25,55)] .n) (ak.tn (.two (.join [] [(6,8),(10,11),(57,76)] (.two (.join [(10,aU)] [(10,11),(57,74)] .n) .n)) (.two (.join [] [(76,87)] .n) .n)))))) d
noncomputable def pj(a:aQ)(c:aQ):Prop:=
 aJ (σ:=Unit) (λ_ p i=>
 ∃n,(a=dB n)/\
 ∃x3:bS,an i ((n.add 1).add 2) 0 x3/\
 ∃a4,(c=dB a4)/\
 gj .u32 i (a4.add 2) λq=>
 ∃l,(c=dB l)/\
 bh i (l.add 4) λr=>
 ∃m,(a=dB m)/\
 aZ i (m.add 10) λo=>
 ae xm 23 #[x3,(xb xk q),r,o] (.many [cx,kN,aU]) i λb d=>
 (av.ok [] d)/\
 Br (b.2.2 !=0)
 (R b.2.2 d)
 (Br (!b.2.1)
 (R (xb xi 0) d)
 (∃g,(c=dB g)/\
 bh d (g.add 5) λk=>
 ∃f,(a=dB f)/\
 aZ d (f.add 11) λj=>
 Br ((k.len:Int)>=j)
 (R (xb xi 12) d)
 (ae xm 193 #[a,c,b.1] bB d λe h3=>
 Br (e !=0)
 (R e h3)
 (p () h3))))) () h
theorem AU(a:aQ)(b:aQ)(c:@pj R h a b):ab xm 127 #[a,b] h R:=az ac func127 (ak.tn (.inn (.loop [] [(4,56)] .n))) c
noncomputable def oq(a:Sl):Prop:=
 Br (za a.ptr)
 (R (xc eH 0 0) h)
 (aA xm (qq 22 0 #[]) aI h λd e=>
 aA xm (qu #[22,22] 22 #[d,a]) aI e λc b=>
 R c b)
theorem Aa(a:Sl)(b:@oq R h a):ab xm 128 #[a] h R:=az ac func128 .n b
noncomputable def jz(a:Sl):Prop:=
 Br (za a.ptr)
 (R (xc eH 0 0) h)
 (aA xm (qq 42 0 #[]) aI h λd e=>
 aA xm (qu #[42,42] 42 #[d,a]) aI e λc b=>
 R c b)
theorem nk(a:Sl)(b:@jz R h a):ab xm 129 #[a] h R:=az ac func129 .n b
noncomputable def CX(l:aQ)(k:dz):Prop:=
 aP xm (qN 44 k) h λu x=>
 ae xm 96 #[l] aI x λq w=>
 aJ (σ:=Sl×Int) (λa z h3=>
 Br ((qc xi (a.2+1))>=(q.len:Int))
 (ae xm 196 #[a.1,(.func (.func 197) #[] #[])] jm h3 λ_ A=>
 ae xm 198 #[a.1,(.func (.func 199) #[] #[])] aI A λv B=>
 R v B)
 (bg (σ:=Sl) (λc n=>
 z ((⟨c.ptr,c.len,c.cap⟩:Sl),qc xi (a.2+1)) n)
 (λm=>
 aO q (qc xi (a.2+1)) λs=>
 bh h3 (s.add ((qc xi (a.2+1)).toNat*1)) λD=>
 ae xm 194 #[D] (.many [(.agg [(.int .i64),(.int .i64),(.int .i64),(.int .i64),(.int .i64),(.int .i64),(.int .u32),.slc]),kN]) h3 λr t=>
 aP xm (qO 170 eR (.tuple #[])) t λa9 y=>
 af xm (qf 170 a9 r.1) y λ_ h8=>
 Br r.2 (∃d:dz,an h8 u 0 d/\
 ∃f:fh,an h8 a9 0 f/\
 ae xm 195 #[d,f] ci h8 λg p=>
 Br g
 (∃e:fh,an p a9 0 e/\
 aA xm (qq 189 1 #[(0,e)]) aI p λi o=>
 aA xm (qu #[189,189] 189 #[a.1,i]) aI o λb j=>
 m (⟨b.ptr,b.len,b.cap⟩:Sl) j)
 (m (⟨a.1.ptr,a.1.len,a.1.cap⟩:Sl) p)) (m (⟨a.1.ptr,a.1.len,a.1.cap⟩:Sl) h8)))) ((⟨eH,0,0⟩:Sl),(-1:Int)) w
theorem KF(a:aQ)(b:dz)(c:@CX R h a b):ab xm 130 #[a,b] h R:=az ac func130 (ak.tn (.scope 0 [(6,cx),(7,aU)] [(4,5),(6,10),(12,40)] [.n,.n,.n] [(ak.tn (ak.tn (.two (.join [(6,cx)] [(6,7),(8,10),(18,36)] .n) .n)))] [(1,[.n])])) c
noncomputable def GU(d:aQ)(b:Sl):Prop:=
 ae xm 200 #[b] ci h λi e=>
 Br (!i)
 (R (xc eH 0 0) e)
 (ae xm 201 #[b] aI e λa k=>
 ae xm 203 #[d] kM k λf h3=>
 ae xm 204 #[a] bB h3 λl g=>
 ae xm 202 #[f,a,l] bB g λc j=>
 (0<=c/\c<=(a.cap:Int))/\
 R (xc a.ptr c.toNat a.cap) j)
theorem Oh(a:aQ)(b:Sl)(c:@GU R h a b):ab xm 131 #[a,b] h R:=az ac func131 .n c
noncomputable def JE:Prop:=
 aP xm (qO 192 eR (.tuple #[])) h λc k=>
 aJ (σ:=Int×Int) (λb g e=>
 Br (b.2<255)
 ((0<=b.2/\b.2<((255:Nat):Int))/\
 af xm (qf 5 (c.add (b.2.toNat*1)) (xb xj b.1)) e λ_ h3=>
 ae xm 205 #[(xb xj b.1),(xb xj 3)] (.one (.sc (.int .u8))) h3 λi j=>
 g (i,qc xi (b.2+1)) j)
 (∃d:List (Int),(d.length=255/\an e c 0 (d.map (Sc.enc (.int .u8))))/\
 af xm (qf 192 c (xh (d.map (Sc.enc (.int .u8))).toArray)) e λ_ f=>
 ∃a:List (Int),(a.length=255/\an f c 0 (a.map (Sc.enc (.int .u8))))/\
 R (xh (a.map (Sc.enc (.int .u8))).toArray) f)) ((1:Int),(0:Int)) k
theorem QH(a:@JE R h):ab xm 132 #[] h R:=az ac func132 (ak.tn (ak.tn (.two (ak.tn (.inn (.loop [(1,(.sc (.int .u8))),(3,aU)] [(1,12)] .n))) .n))) a
noncomputable def Pw(e:List (Int)):Prop:=
 aP xm (qN 192 (xh (e.map (Sc.enc (.int .u8))).toArray)) h λk m=>
 aP xm (qO 194 eR (.tuple #[])) m λc i=>
 ∃x3:List (Int),(x3.length=255/\an i k 0 (x3.map (Sc.enc (.int .u8))))/\
 aJ (σ:=Int) (λb j h3=>
 Br (b<255)
 (∃d:Int,(0<=b/\b<((255:Nat):Int)/\((x3.map (Sc.enc (.int .u8))).toArray:Array eX)[b.toNat]?=dB (xb xj d))/\
 (0<=d/\d<((256:Nat):Int))/\
 af xm (qf 3 (c.add (d.toNat*1)) b) h3 λ_ l=>
 j (qc xi (b+1)) l)
 (∃f:List (Int),(f.length=256/\an h3 c 0 (f.map (Sc.enc (.int .i64))))/\
 af xm (qf 194 c (xh (f.map (Sc.enc (.int .i64))).toArray)) h3 λ_ g=>
 ∃a:List (Int),(a.length=256/\an g c 0 (a.map (Sc.enc (.int .i64))))/\
 R (xh (a.map (Sc.enc (.int .i64))).toArray) g)) (0:Int) i
theorem UY(a:List (Int))(b:@Pw R h a):ab xm 133 #[(xh (a.map (Sc.enc (.int .u8))).toArray)] h R:=az ac func133 (ak.tn (.two (ak.tn (.inn (.loop [(6,aU)] [(3,5),(6,14)] .n))) .n)) b
noncomputable def SY(f:bS)(b:Int)(a:Int):Prop:=
 aP xm (qN 24 f) h λg o=>
 bg (σ:=Unit) (λ_ h3=>
 ∃r:bS,an h3 g 0 r/\
 ae xm 21 #[r] bB h3 λl w=>
 aA xm (qG 34 l l) aI w λm q=>
 ∃p:bS,an q g 0 p/\
 ae xm 161 #[p,(xb xk b),a] aI q λn s=>
 aJ (σ:=Int) (λc u k=>
 Br (c<(n.len:Int))
 (aO n c λj=>
 aZ k (j.add (c.toNat*1)) λd=>
 aO m d λi=>
 af xm (qf 5 (i.add (d.toNat*1)) (xb xj 1)) k λ_ h8=>
 u (qc xi (c+1)) h8)
 (R m k)) (0:Int) s)
 (λv=>
 ∃x2:bS,an o g 0 x2/\
 ae xm 40 #[x2] ci o λt e=>
 Br (!t) (R (xc eH 0 0) e) (Br (a<0) (R (xc eH 0 0) e) (Br (a>65535)
 (R (xc eH 0 0) e)
 (v () e))))
theorem XW(c:bS)(a:Int)(b:Int)(d:@SY R h c a b):ab xm 134 #[c,(xb xk a),b] h R:=az ac func134 (ak.tn (.two (.join [] [(6,7),(10,21)] .n) (ak.tn (.two (ak.tn (.inn (.loop [(29,aU)] [(9,10),(29,37)] .n))) .n)))) d
noncomputable def JF(a:Sl)(f:Int):Prop:=
 aJ (σ:=Int) (λb n d=>
 Br (b>=0)
 (aO a b λl=>
 aZ d (l.add (b.toNat*1)) λx3=>
 Br (decide (x3<(qc xi ((qc xi (f-(a.len:Int)))+b))))
 (aO a b λa4=>
 aZ d (a4.add (b.toNat*1)) λp=>
 aO a b λg=>
 af xm (qf 3 (g.add (b.toNat*1)) (qc xi (p+1))) d λ_ m=>
 aJ (σ:=Int) (λc k h3=>
 Br (c<(a.len:Int))
 (aO a (qc xi (c-1)) λi=>
 aZ h3 (i.add ((qc xi (c-1)).toNat*1)) λj=>
 aO a c λe=>
 af xm (qf 3 (e.add (c.toNat*1)) (qc xi (j+1))) h3 λ_ o=>
 k (qc xi (c+1)) o)
 (R eR h3)) (qc xi (b+1)) m)
 (n (qc xi (b-1)) d))
 (R eS d)) (qc xi ((a.len:Int)-1)) h
theorem QI(b:Sl)(a:Int)(c:@JF R h b a):ab xm 135 #[b,a] h R:=az ac func135 (ak.tn (.two (ak.tn (.inn (.loop [(5,aU)] [(4,7),(10,48)] (ak.tn (.two (.inn (ak.tn (.two (ak.tn (.two (ak.tn (.inn (.loop [(6,aU)] [(6,7),(33,48)] .n))) .n)) .n))) .n))))) .n)) c
noncomputable def Mk(b:Int)(a:Int):Prop:=
 bg (σ:=Unit) (λ_ f=>
 aA xm (qG 34 b b) aI f λc e=>
 aO c a λa3=>
 af xm (qf 5 (a3.add (a.toNat*1)) (xb xj 1)) e λ_ h3=>
 R c h3)
 (λd=>
 Br (b<1) (R (xc eH 0 0) h) (Br (b>64) (R (xc eH 0 0) h) (Br (a<0) (R (xc eH 0 0) h) (Br (a>=b)
 (R (xc eH 0 0) h)
 (d () h)))))
theorem SZ(b:Int)(a:Int)(c:@Mk R h b a):ab xm 136 #[b,a] h R:=az ac func136 (ak.tn (.two (.join [] [(4,5),(6,21)] .n) .n)) c
noncomputable def CY(c:aQ)(a:Int):Prop:=
 ((255:Int)≠0)/\
 bg (σ:=Int) (λb g=>
 ae xm 206 #[c] kM g λi e=>
 ∃a3,(i=dB a3)/\
 (0<=b/\b<((255:Nat):Int))/\
 gj .u8 e (a3.add (b.toNat*1)) λf=>
 R (xb xj f) e)
 (λd=>
 Br ((wg a 255)<0)
 (d (qc xi ((wg a 255)+255)) h)
 (d (wg a 255) h))
theorem KG(b:aQ)(a:Int)(c:@CY R h b a):ab xm 137 #[b,a] h R:=az ac func137 (ak.tn (ak.tn (.two (.join [(1,aU)] [(1,2),(7,11)] .n) .n))) c
noncomputable def Ab(b:aQ)(f:Sl):Prop:=
 bg (σ:=Unit) (λ_ s=>
 ae xm 146 #[f] aI s λk p=>
 ∃a5,(b=dB a5)/\
 bh p (a5.add 2) λq=>
 aJ (σ:=Sl×Int) (λa o h3=>
 Br (a.2<(q.len:Int))
 (aO q a.2 λr=>
 bh h3 (r.add (a.2.toNat*1)) λn=>
 ae xm 139 #[n] bB h3 λe i=>
 aO a.1 e λl=>
 gj .u8 i (l.add (e.toNat*1)) λg=>
 Br (g !=0)
 (∃d,(b=dB d)/\
 kL i d λj=>
 ae xm 207 #[j,(xb xj g),n,a.1] (.many [cx,kN]) i λc u=>
 o ((⟨c.1.ptr,c.1.len,c.1.cap⟩:Sl),qc xi (a.2+1)) u)
 (o ((⟨a.1.ptr,a.1.len,a.1.cap⟩:Sl),qc xi (a.2+1)) i))
 (R (.tuple #[a.1,eR]) h3)) ((⟨k.ptr,k.len,k.cap⟩:Sl),(0:Int)) p)
 (λt=>
 Br (za b) (R (.tuple #[(xc eH 0 0),eS]) h) (∃m,(b=dB m)/\
 aZ h (m.add 1) λx2=>
 Br ((f.len:Int) !=x2)
 (R (.tuple #[(xc eH 0 0),eS]) h)
 (t () h)))
theorem GV(b:aQ)(a:Sl)(c:@Ab R h b a):ab xm 138 #[b,a] h R:=az ac func138 (ak.tn (.two (.join [] [(4,6),(10,21)] .n) (ak.tn (.two (ak.tn (.inn (.loop [(6,cx),(28,aU)] [(6,7),(8,10),(28,51)] .n))) .n)))) c
end Go.Qw
namespace Go.Qw
open Go Go.Vc Go.Proofs
variable {R:Ki} {h:Heap}
noncomputable def Ml(a:Sl):Prop:=
 ae xm 208 #[a,(.func (.func 209) #[] #[])] bB h λc b=>
 R c b
theorem Ta(a:Sl)(b:@Ml R h a):ab xm 139 #[a] h R:=az ac func139 .n b
noncomputable def uD(a:aQ):Prop:=
 Br (za a)
 (R (xd eH) h)
 (∃b,(a=dB b)/\
 kL h b λx2=>
 ∃a3,(a=dB a3)/\
 aZ h (a3.add 1) λc=>
 ae xm 210 #[a] aI h λg e=>
 (av.ok [(a3.add 1,c),(b,x2)] e)/\
 aP xm (qN 200 (xh #[x2,c,g])) e λf d=>
 (av.ok [(a3.add 1,c),(b,x2)] d)/\
 R f d)
theorem FJ(a:aQ)(b:@uD R h a):ab xm 140 #[a] h R:=az ac func140 .n b
noncomputable def Ac(a:aQ):Prop:=
 Br (za a)
 (R (xb xi 0) h)
 (∃b,(a=dB b)/\
 bh h (b.add 2) λx2=>
 R (xb xi (x2.len:Int)) h)
theorem GW(a:aQ)(b:@Ac R h a):ab xm 141 #[a] h R:=az ac func141 .n b
noncomputable def Fl(a:Sl):Prop:=
 Br (za a.ptr)
 (R (xc eH 0 0) h)
 (aA xm (qq 34 0 #[]) aI h λd e=>
 aA xm (qu #[34,34] 34 #[d,a]) aI e λc b=>
 R c b)
theorem Mm(a:Sl)(b:@Fl R h a):ab xm 146 #[a] h R:=az ac func146 .n b
noncomputable def Mn(a:Int)(b:Sl):Prop:=
 bg (σ:=Unit) (λ_ l=>
 aA xm (qG 34 (xb xi 64) (xb xi 64)) aI l λc k=>
 aA xm (qq 34 4 #[(0,(xb xj 87)),(1,(xb xj 115)),(2,(xb xj 1)),(3,(xb xj (qc xj a)))]) aI k λv3 h3=>
 aA xm (w5 #[34,34] 3 #[c,v3]) bB h3 λ_ n=>
 (0<=(4:Int)/\(4:Int)<=(c.len:Int))/\
 aA xm (w5 #[34,34] 3 #[(.slice (if c.cap=(4:Int).toNat then c.ptr else c.ptr.map (·.add ((4:Int).toNat*1))) (c.len-(4:Int).toNat) (c.cap-(4:Int).toNat)),b]) bB n λ_ o=>
 (0<=(59:Int)/\(59:Int)<=(c.cap:Int))/\
 ae xm 213 #[(xc c.ptr ((59:Int).toNat) c.cap)] (.one (.sc (.int .u32))) o λf i=>
 aJ (σ:=Int) (λd j e=>
 Br (d<4)
 ((0<=(qc xi (8*d)))/\
 aO c (qc xi (59+d)) λg=>
 af xm (qf 5 (g.add ((qc xi (59+d)).toNat*1)) (xb xj (qc xj (q9 f (2^min (qc xi (8*d)).toNat (qk xk)))))) e λ_ h8=>
 j (qc xi (d+1)) h8)
 (aO c (63:Int) λa9=>
 af xm (qf 5 (a9.add ((63:Int).toNat*1)) (xb xj 165)) e λ_ p=>
 R c p)) (0:Int) i)
 (λm=>
 Br (a<1) (R (xc eH 0 0) h) (Br (a>255) (R (xc eH 0 0) h) (Br ((b.len:Int)>55)
 (R (xc eH 0 0) h)
 (m () h))))
theorem Tb(b:Int)(a:Sl)(c:@Mn R h b a):ab xm 147 #[b,a] h R:=az ac func147 (ak.tn (.two (.join [] [(4,5),(8,19)] .n) (ak.tn (ak.tn (ak.tn (ak.tn (.two (ak.tn (.inn (.loop [(32,aU)] [(7,8),(32,45)] .n))) .n))))))) c
noncomputable def tG(a:aQ):Prop:=
 Br (!(za a)) (∃b,(a=dB b)/\
 rN h (b.add 6) λx2=>
 R x2 h) (R eS h)
theorem En(a:aQ)(b:@tG R h a):ab xm 149 #[a] h R:=az ac func149 .n b
noncomputable def ot(b:Sl)(d:Int):Prop:=
 aJ (σ:=Int) (λa e c=>
 Br (a<(b.len:Int))
 (aO b a λf=>
 aZ c (f.add (a.toNat*1)) λx3=>
 Br (d==x3)
 (R a c)
 (e (qc xi (a+1)) c))
 (R (xb xi (-1:Int)) c)) (0:Int) h
theorem Ad(b:Sl)(a:Int)(c:@ot R h b a):ab xm 150 #[b,a] h R:=az ac func150 (ak.tn (.two (ak.tn (.inn (.loop [(8,aU)] [(4,6),(8,19)] .n))) .n)) c
noncomputable def fC(c:Sl)(a:cU):Prop:=
 aJ (σ:=Int) (λb f d=>
 Br (b<(c.len:Int))
 (aO c b λg=>
 ∃x3:iA,an d (g.add (b.toNat*4)) 0 x3/\
 iM C a.1 (a.2.1.toList++[(xh #[x3.1,x3.2.1,x3.2.2.1,x3.2.2.2])]++a.2.2.toList) ci d λi e=>
 Br i
 (R b e)
 (f (qc xi (b+1)) e))
 (R (xb xi (-1:Int)) d)) (0:Int) h
theorem ig(b:Sl)(a:cU)(c:@fC R h b a):ab xm 152 #[b,(.func (.func a.1) a.2.1 a.2.2)] h R:=az ac func152 (ak.tn (.two (ak.tn (.inn (.loop [(8,aU)] [(4,6),(8,19)] .n))) .n)) c
noncomputable def pZ(b:iA)(a:hU):Prop:=
 aP xm (qN 94 b) h λd c=>
 Ju c d λx2=>
 Ju c a λx3=>
 R (xg (x2.toList==x3.toList)) c
theorem Ck(b:iA)(a:hU)(c:@pZ R h b a):ab xm 153 #[b,a] h R:=az ac func153 .n c
noncomputable def gC(b:Sl)(a:cU):Prop:=
 ae xm 215 #[b,(.func (.func a.1) a.2.1 a.2.2)] bB h λd c=>
 R (decide (d>=0)) c
theorem kO(b:Sl)(a:cU)(c:@gC R h b a):ab xm 155 #[b,(.func (.func a.1) a.2.1 a.2.2)] h R:=az ac func155 .n c
noncomputable def Ae(c:Int×Sl)(a:hU):Prop:=
 aP xm (qN 117 c) h λd b=>
 ∃x2:bS,an b a 0 x2/\
 ∃x3:Int×Sl,an b d 0 x3/\
 ae xm 157 #[x2,x3] ci b λf e=>
 R (xg (!f)) e
theorem GX(b:Int×Sl)(a:hU)(c:@Ae R h b a):ab xm 156 #[b,a] h R:=az ac func156 .n c
noncomputable def CZ(b:bS)(d:Int×Sl):Prop:=
 aP xm (qN 24 b) h λe i=>
 aP xm (qN 117 d) i λc a=>
 aZ a c λx3=>
 Br (x3>=0) (aZ a c λf=>
 Br (f<=65535) (bh a (c.add 1) λg=>
 aZ a (e.add 2) λj=>
 R (xg ((g.len:Int)==j)) a) (R eS a)) (R eS a)
theorem KH(b:bS)(a:Int×Sl)(c:@CZ R h b a):ab xm 157 #[b,a] h R:=az ac func157 .n c
noncomputable def Fm(f:bS)(a:Int)(c:Sl):Prop:=
 aP xm (qN 24 f) h λd j=>
 ∃x2:bS,an j d 0 x2/\
 ae xm 40 #[x2] ci j λk b=>
 (av.ok [] b)/\
 Br k (∃i:bS,an b d 0 i/\
 ∃e:bS,an b d 0 e/\
 ae xm 20 #[i,(xb xk a),c] bB b λl h3=>
 (av.ok [(d,e.1),(d.add 1,e.2.1),(d.add 2,e.2.2)] h3)/\
 ae xm 21 #[e] bB h3 λm g=>
 (av.ok [] g)/\
 R (xg (l==m)) g) ((av.ok [] b)/\
 (av.ok [] b)/\
 R eS b)
theorem Mo(c:bS)(a:Int)(b:Sl)(d:@Fm R h c a b):ab xm 158 #[c,(xb xk a),b] h R:=az ac func158 .n d
noncomputable def GY(b:Sl):Prop:=
 aJ (σ:=Sl×Int) (λa e d=>
 Br (a.2<(b.len:Int))
 (aO b a.2 λg=>
 ∃x3:Int×Sl,an d (g.add (a.2.toNat*2)) 0 x3/\
 aP xm (qO 117 eR (.tuple #[])) d λa4 j=>
 af xm (qf 117 a4 x3) j λ_ h3=>
 aZ h3 a4 λk=>
 aA xm (qq 22 1 #[(0,k)]) aI h3 λl f=>
 aA xm (qu #[22,22] 22 #[a.1,l]) aI f λc i=>
 e ((⟨c.ptr,c.len,c.cap⟩:Sl),qc xi (a.2+1)) i)
 (R a.1 d)) ((⟨eH,0,0⟩:Sl),(0:Int)) h
theorem Oi(a:Sl)(b:@GY R h a):ab xm 159 #[a] h R:=az ac func159 (ak.tn (ak.tn (.two (ak.tn (.inn (.loop [(3,cx),(8,aU)] [(3,4),(5,6),(8,18)] .n))) .n))) b
noncomputable def GZ(E:bS)(g:Int)(u:Sl):Prop:=
 aP xm (qN 24 E) h λf h1=>
 aJ (σ:=Sl×Int) (λl K1 A=>
 Br (l.2<(u.len:Int))
 (aO u l.2 λa3=>
 ∃X:Int×Sl,an A (a3.add (l.2.toNat*2)) 0 X/\
 aP xm (qO 117 eR (.tuple #[])) A λa5 h3=>
 af xm (qf 117 a5 X) h3 λ_ D=>
 ∃Z:bS,an D f 0 Z/\
 aZ D a5 λx7=>
 bh D (a5.add 1) λB=>
 ae xm 161 #[Z,(xb xk g),x7] aI D λr9 h5=>
 (av.ok [(a5.add 1,B)] h5)/\
 aA xm (qq 273 1 #[(0,(xh #[r9,B]))]) aI h5 λM W=>
 (av.ok [(a5.add 1,B)] W)/\
 aA xm (qu #[273,273] 273 #[l.1,M]) aI W λk Y=>
 (av.ok [(a5.add 1,B)] Y)/\
 K1 ((⟨k.ptr,k.len,k.cap⟩:Sl),qc xi (l.2+1)) Y)
 (bg (σ:=aQ) (λa z=>
 ∃v:bS,an z f 0 v/\
 ae xm 21 #[v] bB z λU I=>
 ae xm 216 #[U,l.1] (.many [cx,cx,cx,aU]) I λc r=>
 Br (c.2.2.2 !=0)
 (R (.tuple #[(xc eH 0 0),(xb xi 10)]) r)
 (∃p,(a=dB p)/\
 af xm (qf 85 (p.add 4) c.2.1) r λ_ G=>
 ∃x,(a=dB x)/\
 af xm (qf 273 (x.add 5) c.2.2.1) G λ_ N=>
 ae xm 217 #[a,c.1] jm N λ_ V=>
 ae xm 218 #[a] jm V λ_ P=>
 ae xm 219 #[a] jm P λ_ L=>
 ae xm 220 #[a] (.many [cx,cx]) L λi d=>
 ∃a25,(a=dB a25)/\
 bh d ((a25.add 6).add 1) λF=>
 Br ((F.len:Int)==0)
 (aJ (σ:=Int) (λe K3 j=>
 Br (e<(i.2.len:Int))
 (aO i.2 e λa28=>
 bh j (a28.add (e.toNat*1)) λK=>
 ae xm 221 #[K,aak] aI j λQ m=>
 Br ((Q.len:Int)>0)
 (R (.tuple #[(xc eH 0 0),(xb xi 10)]) m)
 (K3 (qc xi (e+1)) m))
 (ae xm 222 #[a,(xc eH 0 0)] jm j λ_ n=>
 ∃w,(a=dB w)/\
 bh n (w.add 4) λJ=>
 R (.tuple #[J,(xb xi 0)]) n)) (0:Int) d)
 (∃o,(a=dB o)/\
 kL d o λO=>
 ae xm 175 #[O,i.1,i.2] (.many [cx,aU]) d λs y=>
 Br (s.2 !=0)
 (R (.tuple #[(xc eH 0 0),(xb xi 10)]) y)
 (ae xm 222 #[a,s.1] jm y λ_ t=>
 ∃q,(a=dB q)/\
 bh t (q.add 4) λT=>
 R (.tuple #[T,(xb xi 0)]) t))))
 (λK2=>
 ∃b:bS,an A f 0 b/\
 ae xm 65 #[] kM A λH h8=>
 (av.ok [(f,b.1),(f.add 1,b.2.1),(f.add 2,b.2.2)] h8)/\
 aP xm (qN 281 (xh #[H,b.1,b.2.1,b.2.2,(xc eH 0 0),(xc eH 0 0),(xc eH 0 0),(xc eH 0 0),(xc eH 0 0),(xc eH 0 0),(xc eH 0 0)])) h8 λS h9=>
 (av.ok [(f,b.1),(f.add 1,b.2.1),(f.add 2,b.2.2)] h9)/\
 K2 (dB S) h9))) ((⟨eH,0,0⟩:Sl),(0:Int)) h1
theorem Oj(b:bS)(a:Int)(c:Sl)(d:@GZ R h b a c):ab xm 160 #[b,(xb xk a),c] h R:=az ac func160 (ak.tn (.fwd (ak.tn (.two (ak.tn (.inn (.loop [(8,cx),(23,aU)] [(8,9),(10,11),(23,39)] .n))) (.two (.join [(11,CN)] [(11,12),(39,43)] .n) .n))) [(0,[.n]),(1,[(.two (ak.tn (.inn (.loop [(95,aU)] [(20,21),(95,104)] .n))) .n)]),(2,[.n])])) d
noncomputable def Px(d:bS)(b:Int)(a:Int):Prop:=
 aP xm (qN 24 d) h λj k=>
 bg (σ:=Unit) (λ_ h3=>
 ∃l:bS,an h3 j 0 l/\
 ae xm 21 #[l] bB h3 λi r=>
 ae xm 223 #[(xb xk (qc xk ((qF (qk xk) b^^^(qF (qk xk) (qc xk ((qc xk a)*2654435761)))).toNat:Nat)))] kM r λe s=>
 ae xm 224 #[e] (.one (.sc (.int .u32))) s λ_ m=>
 ae xm 226 #[i] aI m λo p=>
 ae xm 225 #[o,e] bB p λg h8=>
 ae xm 227 #[e,i,g] aI h8 λf t=>
 R f t)
 (λq=>
 ∃x2:bS,an k j 0 x2/\
 ae xm 40 #[x2] ci k λn c=>
 Br (!n) (R (xc eH 0 0) c) (Br (a<0) (R (xc eH 0 0) c) (Br (a>65535)
 (R (xc eH 0 0) c)
 (q () c))))
theorem UZ(c:bS)(a:Int)(b:Int)(d:@Px R h c a b):ab xm 161 #[c,(xb xk a),b] h R:=az ac func161 (ak.tn (.two (.join [] [(6,7),(10,21)] .n) .n)) d
noncomputable def Fo(c:Int)(a:Int)(b:Int):Prop:=
 Br (c>=a) (R (decide (c<=b)) h) (R eS h)
theorem Mp(c:Int)(a:Int)(b:Int)(d:@Fo R h c a b):ab xm 162 #[c,a,b] h R:=az ac func162 .n d
noncomputable def JG(c:Sl)(a:Int):Prop:=
 aJ (σ:=Int) (λb f e=>
 Br (b<(c.len:Int))
 (aO c b λg=>
 aZ e (g.add (b.toNat*1)) λx3=>
 ae xm 162 #[x3,(xb xi 0),a] ci e λi d=>
 Br (!i) (R eS d) (Br (b>0) (aO c (qc xi (b-1)) λa5=>
 aZ d (a5.add ((qc xi (b-1)).toNat*1)) λj=>
 Br (j>=x3)
 (R eS d)
 (f (qc xi (b+1)) d)) (f (qc xi (b+1)) d)))
 (R eR e)) (0:Int) h
theorem QJ(b:Sl)(a:Int)(c:@JG R h b a):ab xm 163 #[b,a] h R:=az ac func163 (ak.tn (.two (ak.tn (.inn (.loop [(9,aU)] [(4,7),(9,32)] .n))) .n)) c
noncomputable def Ha(j:dz)(o:iA):Prop:=
 aP xm (qN 44 j) h λf v=>
 aP xm (qN 94 o) v λa q=>
 bg (σ:=Unit) (λ_ p=>
 bh p (a.add 3) λm=>
 ae xm 116 #[m,(.func (.func 228) #[] #[])] ci p λi b=>
 Br (!i) (bh b (a.add 3) λc=>
 ∃d:bS,an b (f.add 2) 0 d/\
 aZ b (a.add 2) λn=>
 ae xm 48 #[d,n] bB b λg h8=>
 (av.ok [(a.add 3,c)] h8)/\
 R (xg ((c.len:Int)==g)) h8) ((av.ok [] b)/\
 R eS b))
 (λy=>
 Ju q a λx3=>
 ae xm 104 #[x3] ci q λu h3=>
 Br (!u) (R eS h3) (aZ h3 (a.add 1) λz=>
 aZ h3 (f.add 1) λx=>
 ae xm 162 #[z,(xb xi 0),(qc xi (x-1))] ci h3 λs e=>
 Br (!s) (R eS e) (aZ e (a.add 2) λw=>
 aZ e (f.add 2) λt=>
 aZ e ((f.add 2).add 2) λl=>
 ae xm 162 #[w,(xb xi 0),(qc xi ((qc xi (t*l))*8))] ci e λk r=>
 Br (!k)
 (R eS r)
 (y () r))))
theorem Ol(b:dz)(a:iA)(c:@Ha R h b a):ab xm 164 #[b,a] h R:=az ac func164 (ak.tn (.two (.join [] [(4,5),(6,33)] .n) .n)) c
noncomputable def ff(b:Sl)(a:cU):Prop:=
 ae xm 152 #[b,(.func (.func a.1) a.2.1 a.2.2)] bB h λd c=>
 R (decide (d>=0)) c
theorem gD(b:Sl)(a:cU)(c:@ff R h b a):ab xm 165 #[b,(.func (.func a.1) a.2.1 a.2.2)] h R:=az ac func165 .n c
noncomputable def Hb(b:iA)(a:hU):Prop:=
 aP xm (qN 94 b) h λd c=>
 aZ c (d.add 1) λx2=>
 aZ c (a.add 1) λx3=>
 R (xg (x2==x3)) c
theorem Om(b:iA)(a:hU)(c:@Hb R h b a):ab xm 166 #[b,a] h R:=az ac func166 .n c
noncomputable def JH(b:Sl):Prop:=
 aJ (σ:=Sl×Int) (λa e c=>
 Br (a.2<(b.len:Int))
 (aO b a.2 λg=>
 bh c (g.add (a.2.toNat*1)) λx3=>
 ae xm 146 #[x3] aI c λj i=>
 aA xm (qq 85 1 #[(0,j)]) aI i λv5 h3=>
 aA xm (qu #[85,85] 85 #[a.1,v5]) aI h3 λd f=>
 e ((⟨d.ptr,d.len,d.cap⟩:Sl),qc xi (a.2+1)) f)
 (R a.1 c)) ((⟨eH,0,0⟩:Sl),(0:Int)) h
theorem QK(a:Sl)(b:@JH R h a):ab xm 167 #[a] h R:=az ac func167 (ak.tn (ak.tn (.two (ak.tn (.inn (.loop [(3,cx),(8,aU)] [(3,4),(5,6),(8,18)] .n))) .n))) b
noncomputable def Fp(a:Sl)(d:Int)(b:Int):Prop:=
 aJ (σ:=Sl×Int) (λc f e=>
 Br (c.2>=0)
 ((0<=(qc xi (8*c.2)))/\
 aA xm (qq 34 1 #[(0,(xb xj (qc xj (q9 d (2^min (qc xi (8*c.2)).toNat (qk xi))))))]) aI e λi g=>
 aA xm (qu #[34,34] 34 #[c.1,i]) aI g λv3 h3=>
 f ((⟨v3.ptr,v3.len,v3.cap⟩:Sl),qc xi (c.2-1)) h3)
 (R c.1 e)) ((⟨a.ptr,a.len,a.cap⟩:Sl),qc xi (b-1)) h
theorem Mq(b:Sl)(c:Int)(a:Int)(d:@Fp R h b c a):ab xm 169 #[b,c,a] h R:=az ac func169 (ak.tn (.two (ak.tn (.inn (.loop [(0,cx),(7,aU)] [(0,1),(7,8),(10,22)] .n))) .n)) d
noncomputable def tH(a:aQ):Prop:=
 ae xm 121 #[a] ci h λl b=>
 Br (!l)
 (R eS b)
 (∃g,(a=dB g)/\
 rN b (g.add 1) λx3=>
 Br (!x3)
 (R eR b)
 (∃a4,(a=dB a4)/\
 aZ b (a4.add 2) λm=>
 Br (m==0)
 (∃f,(a=dB f)/\
 af xm (qf 4 f eR) b λ_ j=>
 ∃i,(a=dB i)/\
 aZ j (i.add 3) λn=>
 ∃a9,(a=dB a9)/\
 af xm (qf 3 (a9.add 3) (qc xi (n+1))) j λ_ h3=>
 R eS h3)
 (∃d,(a=dB d)/\
 aZ b (d.add 2) λe=>
 ∃c,(a=dB c)/\
 af xm (qf 3 (c.add 2) (qc xi (e-1))) b λ_ k=>
 R eR k)))
theorem Eo(a:aQ)(b:@tH R h a):ab xm 170 #[a] h R:=az ac func170 .n b
noncomputable def tI(a:aQ):Prop:=
 ∃b,(a=dB b)/\
 af xm (qf 85 (b.add 4) (xc eH 0 0)) h λ_ e=>
 ∃c,(a=dB c)/\
 af xm (qf 4 (c.add 5) eS) e λ_ d=>
 R (xb xi 0) d
theorem Ep(a:aQ)(b:@tI R h a):ab xm 171 #[a] h R:=az ac func171 .n b
noncomputable def nl(a:aQ):Prop:=
 bg (σ:=Unit) (λ_ e=>
 ∃a4,(a=dB a4)/\
 kL e a4 λk=>
 ae xm 170 #[k] ci e λj d=>
 Br (!j)
 (R (xb xi 14) d)
 (∃b,(a=dB b)/\
 af xm (qf 3 (b.add 3) (xb xi 0)) d λ_ h3=>
 ae xm 171 #[a] bB h3 λi g=>
 R i g))
 (λf=>
 Br (za a) (R (xb xi 5) h) (∃c,(a=dB c)/\
 rN h (c.add 6) λx2=>
 Br x2
 (R (xb xi 5) h)
 (f () h)))
theorem ra(a:aQ)(b:@nl R h a):ab xm 173 #[a] h R:=az ac func173 (ak.tn (.two (.join [] [(2,11)] .n) .n)) b
noncomputable def Da(c:bS)(a:Int):Prop:=
 aP xm (qN 24 c) h λb d=>
 ∃x2:bS,an d b 0 x2/\
 ∃x3:bS,an d b 0 x3/\
 ae xm 176 #[x3] aI d λg e=>
 (av.ok [(b,x2.1),(b.add 1,x2.2.1),(b.add 2,x2.2.2)] e)/\
 ae xm 158 #[x2,(xb xk a),g] ci e λf h3=>
 (av.ok [] h3)/\
 R f h3
theorem KI(b:bS)(a:Int)(c:@Da R h b a):ab xm 174 #[b,(xb xk a)] h R:=az ac func174 .n c
noncomputable def Cl(B:aQ)(e:Sl)(m:Sl):Prop:=
 bg (σ:=Unit) (λ_ h3=>
 ae xm 204 #[e] bB h3 λg P=>
 ae xm 201 #[e] aI P λd S=>
 aJ (σ:=Int) (λi K r=>
 Br (i<(d.len:Int))
 (aO d i λI=>
 bh r (I.add (i.toNat*1)) λN=>
 aO m i λa9=>
 bh r (a9.add (i.toNat*1)) λw=>
 aA xm (qu #[34,34] 34 #[N,w]) aI r λx H=>
 (av.ok [] H)/\
 aO d i λt=>
 af xm (qf 34 (t.add (i.toNat*1)) x) H λ_ h8=>
 (av.ok [] h8)/\
 K (qc xi (i+1)) h8)
 (ae xm 203 #[B] kM r λv T=>
 ae xm 202 #[v,d,g] bB T λa p=>
 Br (a<g)
 (R (.tuple #[(xc eH 0 0),(xb xi 9)]) p)
 ((0<=a/\a<=(d.len:Int))/\
 aJ (σ:=Int) (λf O k=>
 Br (decide (f<(((d.len-a.toNat):Nat):Int)))
 (∃n:hU,((if d.cap=a.toNat then d.ptr else d.ptr.map (·.add (a.toNat*1)))=dB n/\0<=f/\f<(((d.len-a.toNat):Nat):Int))/\
 bh k (n.add (f.toNat*1)) λD=>
 ae xm 139 #[D] bB k λu q=>
 Br (u>=0)
 (R (.tuple #[(xc eH 0 0),(xb xi 10)]) q)
 (O (qc xi (f+1)) q))
 ((0<=a/\a<=(d.cap:Int))/\
 aJ (σ:=Sl×Int) (λb M j=>
 Br (b.2<(a.toNat:Int))
 (∃o,(d.ptr=dB o/\0<=b.2/\b.2<(a.toNat:Int))/\
 bh j (o.add (b.2.toNat*1)) λc=>
 (0<=g/\g<=(c.len:Int))/\
 ae xm 146 #[(.slice (if c.cap=g.toNat then c.ptr else c.ptr.map (·.add (g.toNat*1))) (c.len-g.toNat) (c.cap-g.toNat))] aI j λz y=>
 aA xm (qq 85 1 #[(0,z)]) aI y λE F=>
 aA xm (qu #[85,85] 85 #[b.1,E]) aI F λl A=>
 M ((⟨l.ptr,l.len,l.cap⟩:Sl),qc xi (b.2+1)) A)
 (R (.tuple #[b.1,(xb xi 0)]) j)) ((⟨eH,0,0⟩:Sl),(0:Int)) k)) (0:Int) p))) (0:Int) S)
 (λQ=>
 ae xm 200 #[e] ci h λJ G=>
 Br (!J) (R (.tuple #[(xc eH 0 0),(xb xi 1)]) G) (ae xm 200 #[m] ci G λL s=>
 Br (!L) (R (.tuple #[(xc eH 0 0),(xb xi 1)]) s) (Br ((e.len:Int) !=(m.len:Int)) (R (.tuple #[(xc eH 0 0),(xb xi 1)]) s) (Br ((e.len:Int)==0)
 (R (.tuple #[(xc eH 0 0),(xb xi 1)]) s)
 (Q () s)))))
theorem Fq(b:aQ)(c:Sl)(a:Sl)(d:@Cl R h b c a):ab xm 175 #[b,c,a] h R:=az ac func175 (ak.tn (.two (.join [] [(6,8),(17,37)] .n) (ak.tn (ak.tn (.two (ak.tn (.inn (.loop [(43,aU)] [(10,11),(43,59)] .n))) (ak.tn (ak.tn (.two (ak.tn (.inn (.loop [(71,aU)] [(6,8),(13,14),(71,79)] .n))) (ak.tn (.two (ak.tn (.inn (.loop [(14,cx),(83,aU)] [(14,15),(16,17),(83,95)] .n))) .n)))))))))) d
noncomputable def Db(b:bS):Prop:=
 aP xm (qN 24 b) h λf d=>
 aZ d f λx2=>
 aJ (σ:=Sl×Int) (λa e c=>
 Br (decide (a.2<(if(if(16:Int)<x2 then(16:Int)else x2)>(0:Int)then(if(16:Int)<x2 then(16:Int)else x2)else(0:Int))))
 (aA xm (qq 22 1 #[(0,a.2)]) aI c λv4 h3=>
 aA xm (qu #[22,22] 22 #[a.1,v4]) aI h3 λv5 g=>
 e ((⟨v5.ptr,v5.len,v5.cap⟩:Sl),qc xi (a.2+1)) g)
 (R a.1 c)) ((⟨eH,0,0⟩:Sl),(0:Int)) d
theorem KJ(a:bS)(b:@Db R h a):ab xm 176 #[a] h R:=az ac func176 (ak.tn (ak.tn (.two (ak.tn (.inn (.loop [(3,cx),(9,aU)] [(3,5),(9,17)] .n))) .n))) b
noncomputable def Mr(a:Int):Prop:=
 Br (a<0) (R (.complex .f64 0 0) h) (Br (a>=4096)
 (R (.complex .f64 0 0) h)
 (ae xm 229 #[] kM h λd g=>
 aJ (σ:=Int) (λe f c=>
 Br (e==a)
 (∃a3,(d=dB a3)/\
 ∃b:Nat×Nat,cellOf c a3=dB (.complex .f64 b.1 b.2)/\
 R (.complex .f64 b.1 b.2) c)
 (ae xm 230 #[d] jm c λ_ h3=>
 f (qc xi (e+1)) h3)) (0:Int) g))
theorem Tc(a:Int)(b:@Mr R h a):ab xm 177 #[a] h R:=az ac func177 (ak.tn (.scope 0 [(4,aU)] [(2,3),(4,5),(12,23)] [.n,.n,.n] [.n] [])) b
noncomputable def JI(c:Nat×Nat)(b:Nat×Nat):Prop:=
 ∃a:Nat×Nat,(kB xm .sub 235 (.tmp 6) (.tmp 7) (.complex .f64 c.1 c.2) (.complex .f64 b.1 b.2) (.complex .f64 a.1 a.2))/\
 ∃e:Nat,((FloatKind.format .f64).mul a.1 a.1=dB e)/\
 ∃d:Nat,((FloatKind.format .f64).mul a.2 a.2=dB d)/\
 ∃f:Nat,((FloatKind.format .f64).add e d=dB f)/\
 R (.float .f64 f) h
theorem QL(a:Nat×Nat)(b:Nat×Nat)(c:@JI R h a b):ab xm 178 #[(.complex .f64 a.1 a.2),(.complex .f64 b.1 b.2)] h R:=az ac func178 .n c
noncomputable def BC(c:Int×Nat)(b:Int×Nat):Prop:=
 aP xm (qN 242 (xh #[c.1,(.float .f64 c.2)])) h λd p=>
 aP xm (qN 242 (xh #[b.1,(.float .f64 b.2)])) p λe a=>
 ∃x3:Nat,cellOf a (d.add 1)=dB (.float .f64 x3)/\
 ∃i:Nat,cellOf a (e.add 1)=dB (.float .f64 i)/\
 aZ a d λk=>
 aZ a e λm=>
 ae xm 182 #[(.float .f64 x3),(.float .f64 i)] bB a λo h3=>
 (av.ok [(e,m),(d,k)] h3)/\
 ae xm 183 #[k,m] bB h3 λn g=>
 (av.ok [] g)/\
 aA xm (qq 22 2 #[(0,o),(1,n)]) aI g λv9 j=>
 (av.ok [] j)/\
 ae xm 181 #[v9] bB j λf l=>
 (av.ok [] l)/\
 R f l
theorem Jg(a:Int×Nat)(b:Int×Nat)(c:@BC R h a b):ab xm 180 #[(xh #[a.1,(.float .f64 a.2)]),(xh #[b.1,(.float .f64 b.2)])] h R:=az ac func180 .n c
noncomputable def Af(a:Sl):Prop:=
 aJ (σ:=Int) (λc d b=>
 Br (c<(a.len:Int))
 (aO a c λe=>
 aZ b (e.add (c.toNat*1)) λx3=>
 Br (x3 !=0)
 (R x3 b)
 (d (qc xi (c+1)) b))
 (R (xb xi 0) b)) (0:Int) h
theorem Dc(a:Sl)(b:@Af R h a):ab xm 181 #[a] h R:=az ac func181 (ak.tn (ak.tn (.two (ak.tn (.inn (.loop [(8,aU)] [(2,3),(5,6),(8,17)] .n))) .n))) b
noncomputable def pk(b:Nat)(a:Nat):Prop:=
 ae xm 232 #[(.float .f64 b)] ci h λe f=>
 ae xm 232 #[(.float .f64 a)] ci f λd c=>
 Br e
 (Br d
 (R (xb xi 0) c)
 (R (xb xi (-1:Int)) c))
 (Br d
 (R (xb xi 1) c)
 (Br ((FloatKind.format .f64).order b a==dB .lt)
 (R (xb xi (-1:Int)) c)
 (Br ((FloatKind.format .f64).order b a==dB .gt)
 (R (xb xi 1) c)
 (R (xb xi 0) c))))
theorem AV(a:Nat)(b:Nat)(c:@pk R h a b):ab xm 182 #[(.float .f64 a),(.float .f64 b)] h R:=az ac func182 .n c
noncomputable def nS(b:Int)(a:Int):Prop:=
 ae xm 233 #[b] ci h λe f=>
 ae xm 233 #[a] ci f λd c=>
 Br e
 (Br d
 (R (xb xi 0) c)
 (R (xb xi (-1:Int)) c))
 (Br d
 (R (xb xi 1) c)
 (Br (b<a)
 (R (xb xi (-1:Int)) c)
 (Br (b>a)
 (R (xb xi 1) c)
 (R (xb xi 0) c))))
theorem rS(a:Int)(b:Int)(c:@nS R h a b):ab xm 183 #[a,b] h R:=az ac func183 .n c
noncomputable def Hd(d:fh):Prop:=
 aP xm (qN 170 d) h λb a=>
 bg (σ:=Bool) (λk e=>
 Br k (∃j:bS,an e (b.add 3) 0 j/\
 ae xm 40 #[j] ci e λf h3=>
 Br f (bh h3 (b.add 7) λi=>
 aZ h3 ((b.add 3).add 2) λg=>
 R (xg ((i.len:Int)==g)) h3) (R eS h3)) (R eS e))
 (λc=>
 aZ a b λx2=>
 Br (x2>=0) (aZ a b λx3=>
 Br (x3<=16777215) (aZ a (b.add 1) λl=>
 Br (l>=0) (aZ a (b.add 1) λm=>
 Br (m<8) (aZ a (b.add 2) λo=>
 Br (o>=0) (aZ a (b.add 2) λn=>
 c (decide (n<=65535)) a) (c eS a)) (c eS a)) (c eS a)) (c eS a)) (c eS a))
theorem On(a:fh)(b:@Hd R h a):ab xm 184 #[a] h R:=az ac func184 (ak.tn (.two (.join [(3,kN)] [(3,32)] .n) .n)) b
noncomputable def BD(a:Sl)(d:Int)(b:Int):Prop:=
 aJ (σ:=Sl×Int) (λc f e=>
 Br (c.2>=0)
 ((0<=(qc xi (8*c.2)))/\
 aA xm (qq 34 1 #[(0,(xb xj (qc xj (q9 d (2^min (qc xi (8*c.2)).toNat (qk xi))))))]) aI e λi g=>
 aA xm (qu #[34,34] 34 #[c.1,i]) aI g λv3 h3=>
 f ((⟨v3.ptr,v3.len,v3.cap⟩:Sl),qc xi (c.2-1)) h3)
 (R c.1 e)) ((⟨a.ptr,a.len,a.cap⟩:Sl),qc xi (b-1)) h
theorem Jh(b:Sl)(c:Int)(a:Int)(d:@BD R h b c a):ab xm 185 #[b,c,a] h R:=az ac func185 (ak.tn (.two (ak.tn (.inn (.loop [(0,cx),(7,aU)] [(0,1),(7,8),(10,22)] .n))) .n)) d
noncomputable def jN(b:Sl)(z:Int)(y:Int)(j:Int)(a:cU):Prop:=
 aJ (σ:=Tu5) (λc D r=>
 Br ((qc xi (c.2.1-c.1))<=12)
 (ae xm 234 #[b,c.1,c.2.1,(.func (.func a.1) a.2.1 a.2.2)] jm r λ_ K=>
 R (.tuple #[]) K)
 (Br (c.2.2.1==0)
 (ae xm 235 #[b,c.1,c.2.1,(.func (.func a.1) a.2.1 a.2.2)] jm r λ_ h3=>
 R (.tuple #[]) h3)
 (bg (σ:=Int) (λl P=>
 ae xm 237 #[b,c.1,c.2.1,(.func (.func a.1) a.2.1 a.2.2)] (.many [aU,aU]) P λp F=>
 bg (σ:=Int×Int) (λk h8=>
 bg (σ:=Unit) (λ_ g=>
 bg (σ:=Int) (λf w=>
 ae xm 241 #[b,f,c.2.1,k.1,(.func (.func a.1) a.2.1 a.2.2)] (.many [aU,kN]) w λd n=>
 ((8:Int)≠0)/\
 Br ((qc xi (d.1-f))<(qc xi (c.2.1-d.1)))
 (ae xm 186 #[b,f,d.1,l,(.func (.func a.1) a.2.1 a.2.2)] jm n λ_ A=>
 D (qc xi (d.1+1),c.2.1,l,decide ((qc xi (d.1-f))>=(qc xi (yb (qc xi (c.2.1-c.1)) 8))),d.2) A)
 (ae xm 186 #[b,(qc xi (d.1+1)),c.2.1,l,(.func (.func a.1) a.2.1 a.2.2)] jm n λ_ v=>
 D (f,d.1,l,decide ((qc xi (c.2.1-d.1))>=(qc xi (yb (qc xi (c.2.1-c.1)) 8))),d.2) v))
 (λL=>
 bg (σ:=Bool) (λu o=>
 Br u
 (ae xm 240 #[b,c.1,c.2.1,k.1,(.func (.func a.1) a.2.1 a.2.2)] bB o λE s=>
 D (E,c.2.1,l,c.2.2.2.1,c.2.2.2.2) s)
 (L c.1 o))
 (λG=>
 Br (c.1>0) (aO b (qc xi (c.1-1)) λB=>
 ∃i:iA,an g (B.add ((qc xi (c.1-1)).toNat*4)) 0 i/\
 aO b k.1 λx=>
 ∃e:iA,an g (x.add (k.1.toNat*4)) 0 e/\
 iM C a.1 (a.2.1.toList++[(xh #[i.1,i.2.1,i.2.2.1,i.2.2.2]),(xh #[e.1,e.2.1,e.2.2.1,e.2.2.2])]++a.2.2.toList) bB g λt m=>
 (av.ok [] m)/\
 G (!(decide (t<0))) m) ((av.ok [] g)/\
 G eS g))))
 (λq=>
 Br c.2.2.2.1 (Br c.2.2.2.2 (Br (k.2==1)
 (ae xm 239 #[b,c.1,c.2.1,(.func (.func a.1) a.2.1 a.2.2)] ci h8 λM J=>
 Br M
 (R (.tuple #[]) J)
 (q () J))
 (q () h8)) (q () h8)) (q () h8)))
 (λI=>
 Br (p.2==2)
 (ae xm 238 #[b,c.1,c.2.1,(.func (.func a.1) a.2.1 a.2.2)] jm F λ_ N=>
 I (qc xi ((qc xi (c.2.1-1))-(qc xi (p.1-c.1))),(1:Int)) N)
 (I (p.1,p.2) F)))
 (λH=>
 Br (!c.2.2.2.1)
 (ae xm 236 #[b,c.1,c.2.1,(.func (.func a.1) a.2.1 a.2.2)] jm r λ_ O=>
 H (qc xi (c.2.2.1-1)) O)
 (H c.2.2.1 r))))) (z,y,j,eR,eR) h
theorem nG(c:Sl)(e:Int)(d:Int)(b:Int)(a:cU)(f:@jN R h c e d b a):ab xm 186 #[c,e,d,b,(.func (.func a.1) a.2.1 a.2.2)] h R:=az ac func186 (ak.tn (ak.tn (.inn (.loop [(1,aU),(2,aU),(3,aU),(10,kN),(11,kN)] [(1,4),(10,148)] (.inn (ak.tn (ak.tn (ak.tn (.two (.join [(3,aU)] [(3,4),(38,47)] .n) (ak.tn (.two (.join [(13,aU),(14,aU)] [(13,15),(55,68)] .n) (.two (.join [] [(68,81)] .n) (.two (.join [(1,aU)] [(1,2),(15,16),(81,105)] (.two (.join [(97,kN)] [(81,98)] .n) .n)) .n))))))))))))) f
noncomputable def tJ(a:ByteArray):Prop:=
 R (xg (!(a.toList==a.toList))) h
theorem Er(a:ByteArray)(b:@tJ R h a):ab xm 188 #[a] h R:=az ac func188 .n b
noncomputable def gz(c:Sl)(a:cU):Prop:=
 aJ (σ:=Int) (λb f d=>
 Br (b<(c.len:Int))
 (aO c b λg=>
 aZ d (g.add (b.toNat*1)) λx3=>
 iM C a.1 (a.2.1.toList++[(xb xi x3)]++a.2.2.toList) ci d λi e=>
 Br i
 (R b e)
 (f (qc xi (b+1)) e))
 (R (xb xi (-1:Int)) d)) (0:Int) h
theorem iQ(b:Sl)(a:cU)(c:@gz R h b a):ab xm 189 #[b,(.func (.func a.1) a.2.1 a.2.2)] h R:=az ac func189 (ak.tn (.two (ak.tn (.inn (.loop [(8,aU)] [(4,6),(8,19)] .n))) .n)) c
noncomputable def Fs(c:aQ)(a:Int)(b:Int):Prop:=
 ae xm 244 #[c] bB h λd e=>
 R (decide ((if(0:Int)>b then(0:Int)else b)<=(qc xi (d-a)))) e
theorem Ms(b:aQ)(a:Int)(c:Int)(d:@Fs R h b a c):ab xm 190 #[b,a,c] h R:=az ac func190 .n d
noncomputable def uE(a:aQ):Prop:=
 Br (za a)
 (R (xb xi 0) h)
 (∃b,(a=dB b)/\
 bh h (b.add 2) λx2=>
 R (xb xi (x2.len:Int)) h)
theorem FK(a:aQ)(b:@uE R h a):ab xm 191 #[a] h R:=az ac func191 .n b
noncomputable def He(d:aQ)(c:dz):Prop:=
 aP xm (qN 44 c) h λn i=>
 ∃x2:dz,an i n 0 x2/\
 ae xm 130 #[d,x2] aI i λg o=>
 aJ (σ:=Sl×Int) (λb r h3=>
 Br (b.2<(g.len:Int))
 (aO g b.2 λa5=>
 ∃k:fh,an h3 (a5.add (b.2.toNat*8)) 0 k/\
 aP xm (qO 170 eR (.tuple #[])) h3 λf s=>
 af xm (qf 170 f k) s λ_ l=>
 ∃j:fh,an l f 0 j/\
 ae xm 112 #[j] aI l λp m=>
 aA xm (qq 85 1 #[(0,p)]) aI m λe q=>
 aA xm (qu #[85,85] 85 #[b.1,e]) aI q λa h8=>
 r ((⟨a.ptr,a.len,a.cap⟩:Sl),qc xi (b.2+1)) h8)
 (R b.1 h3)) ((⟨eH,0,0⟩:Sl),(0:Int)) o
theorem Oo(a:aQ)(b:dz)(c:@He R h a b):ab xm 192 #[a,b] h R:=az ac func192 (ak.tn (ak.tn (.two (ak.tn (.inn (.loop [(5,cx),(12,aU)] [(5,6),(7,8),(12,22)] .n))) .n))) c
noncomputable def pm(k:aQ)(f:aQ)(x:Sl):Prop:=
 ae xm 245 #[f] bB h λy h1=>
 ∃a2,(f=dB a2)/\
 aZ h1 a2 λx3=>
 ∃a4,(f=dB a4)/\
 aZ h1 (a4.add 1) λx5=>
 ∃a6,(k=dB a6)/\
 bh h1 (a6.add 9) λx7=>
 ae xm 109 #[x3,x5,x7] aI h1 λr8 h2=>
 (av.ok [] h2)/\
 aJ (σ:=Int) (λs9 K1 h3=>
 Br (s9<(r8.len:Int))
 (ae xm 111 #[r8,(qc xi (y+s9))] bB h3 λu h4=>
 ∃ad,(k=dB ad)/\
 bh h4 (ad.add 9) λbr=>
 ae xm 150 #[br,u] bB h4 λe h5=>
 ∃a5,(k=dB a5)/\
 kL h5 a5 λcd=>
 ae xm 35 #[cd,u] kM h5 λA h6=>
 bg (σ:=Unit) (λ_ h9=>
 ∃a22,(k=dB a22)/\
 ∃U:dz,an h9 (a22.add 1) 0 U/\
 ae xm 119 #[A,U,(xb xi 1)] bB h9 λG l=>
 Br (G !=0)
 (R G l)
 (bg (σ:=hU) (λbx L=>
 ∃V:fh,an L bx 0 V/\
 ae xm 112 #[V] aI L λcp b4=>
 ae xm 102 #[A,cp] bB b4 λQ m=>
 Br (Q !=0)
 (R Q m)
 (bg (σ:=Unit) (λ_ bb=>
 ∃ar,(k=dB ar)/\
 aZ bb (ar.add 12) λbk=>
 ∃O,(k=dB O)/\
 af xm (qf 3 (O.add 12) (qc xi (bk+1))) bb λ_ bl=>
 R (xb xi 0) bl)
 (λK4=>
 ∃d,(f=dB d)/\
 bh m (d.add 4) λc=>
 ∃a45,(f=dB a45)/\
 bh m (a45.add 4) λg=>
 aO g e λt=>
 bh m (t.add (e.toNat*1)) λn=>
 ∃j,(f=dB j)/\
 bh m (j.add 5) λi=>
 (aA xm (qq 22 1 #[(0,y)]) aI m λv51 v=>
 (av.ok [(j.add 5,i),(t.add (e.toNat*1),n),(a45.add 4,g),(d.add 4,c)] v)/\
 (aA xm (qu #[22,22] 22 #[n,v51]) aI v λb1 J=>
 (av.ok [(j.add 5,i),(a45.add 4,g),(d.add 4,c)] J)/\
 aA xm (qq 22 1 #[(0,u)]) aI J λv53 am=>
 (av.ok [(j.add 5,i),(a45.add 4,g),(d.add 4,c)] am)/\
 aA xm (qu #[22,22] 22 #[i,v53]) aI am λb5 a8=>
 (av.ok [(a45.add 4,g),(d.add 4,c)] a8)/\
 aO c e λa55=>
 af xm (qf 22 (a55.add (e.toNat*1)) b1) a8 λ_ E=>
 (av.ok [] E)/\
 ∃P,(f=dB P)/\
 af xm (qf 22 (P.add 5) b5) E λ_ a7=>
 (av.ok [] a7)/\
 K4 () a7)/\(aA xm (qq 22 1 #[(0,u)]) aI v λcn ay=>
 (av.ok [(j.add 5,i),(t.add (e.toNat*1),n),(a45.add 4,g),(d.add 4,c)] ay)/\
 aA xm (qu #[22,22] 22 #[n,v51]) aI ay λb2 B=>
 (av.ok [(j.add 5,i),(a45.add 4,g),(d.add 4,c)] B)/\
 aA xm (qu #[22,22] 22 #[i,cn]) aI B λb9 a0=>
 (av.ok [(a45.add 4,g),(d.add 4,c)] a0)/\
 aO c e λb3=>
 af xm (qf 22 (b3.add (e.toNat*1)) b2) a0 λ_ D=>
 (av.ok [] D)/\
 ∃X,(f=dB X)/\
 af xm (qf 22 (X.add 5) b9) D λ_ H=>
 (av.ok [] H)/\
 K4 () H))/\(aA xm (qq 22 1 #[(0,u)]) aI m λcf a1=>
 (av.ok [(j.add 5,i),(t.add (e.toNat*1),n),(a45.add 4,g),(d.add 4,c)] a1)/\
 aA xm (qq 22 1 #[(0,y)]) aI a1 λbq S=>
 (av.ok [(j.add 5,i),(t.add (e.toNat*1),n),(a45.add 4,g),(d.add 4,c)] S)/\
 aA xm (qu #[22,22] 22 #[n,bq]) aI S λcc a3=>
 (av.ok [(j.add 5,i),(a45.add 4,g),(d.add 4,c)] a3)/\
 aA xm (qu #[22,22] 22 #[i,cf]) aI a3 λcl F=>
 (av.ok [(a45.add 4,g),(d.add 4,c)] F)/\
 aO c e λa66=>
 af xm (qf 22 (a66.add (e.toNat*1)) cc) F λ_ ap=>
 (av.ok [] ap)/\
 ∃ah,(f=dB ah)/\
 af xm (qf 22 (ah.add 5) cl) ap λ_ N=>
 (av.ok [] N)/\
 K4 () N))))
 (λK3=>
 ∃a25,(f=dB a25)/\
 aZ l a25 λp=>
 ∃r,(f=dB r)/\
 aZ l (r.add 1) λq=>
 ∃b,(k=dB b)/\
 ∃a:bS,an l ((b.add 1).add 2) 0 a/\
 ∃s,(f=dB s)/\
 gj .u32 l (s.add 2) λo=>
 ∃z,(f=dB z)/\
 kL l (z.add 3) λw=>
 (ae xm 110 #[w,y] aI l λb0 ax=>
 (av.ok [(s.add 2,(xb xk o)),((b.add 1).add 2,a.1),(((b.add 1).add 2).add 1,a.2.1),(((b.add 1).add 2).add 2,a.2.2),(r.add 1,q),(a25,p)] ax)/\
 aP xm (qO 170 eR (.tuple #[])) ax λM bd=>
 (av.ok [(s.add 2,(xb xk o)),((b.add 1).add 2,a.1),(((b.add 1).add 2).add 1,a.2.1),(((b.add 1).add 2).add 2,a.2.2),(r.add 1,q),(a25,p)] bd)/\
 af xm (qf 170 M (xh #[p,q,y,a.1,a.2.1,a.2.2,(xb xk o),b0])) bd λ_ K=>
 (av.ok [] K)/\
 K3 M K)/\(aP xm (qO 170 eR (.tuple #[])) l λW Y=>
 (av.ok [(z.add 3,w),(s.add 2,(xb xk o)),((b.add 1).add 2,a.1),(((b.add 1).add 2).add 1,a.2.1),(((b.add 1).add 2).add 2,a.2.2),(r.add 1,q),(a25,p)] Y)/\
 ae xm 110 #[w,y] aI Y λb6 I=>
 (av.ok [(s.add 2,(xb xk o)),((b.add 1).add 2,a.1),(((b.add 1).add 2).add 1,a.2.1),(((b.add 1).add 2).add 2,a.2.2),(r.add 1,q),(a25,p)] I)/\
 af xm (qf 170 W (xh #[p,q,y,a.1,a.2.1,a.2.2,(xb xk o),b6])) I λ_ Z=>
 (av.ok [] Z)/\
 K3 W Z))))
 (λK2=>
 ae xm 84 #[x,e] ci h6 λcq h7=>
 Br cq (K1 (qc xi (s9+1)) h7) (∃a9,(k=dB a9)/\
 ∃T:dz,an h7 (a9.add 1) 0 T/\
 ae xm 118 #[A,T,(xb xi 1)] ci h7 λb7 h8=>
 Br (!b7)
 (K1 (qc xi (s9+1)) h8)
 (K2 () h8))))
 (R (xb xi 7) h3)) (0:Int) h2
theorem AW(b:aQ)(c:aQ)(a:Sl)(d:@pm R h b c a):ab xm 193 #[b,c,a] h R:=az ac func193 (ak.tn (ak.tn (ak.tn (.two (ak.tn (.inn (.loop [(33,aU)] [(6,7),(9,16),(33,140)] (ak.tn (ak.tn (.two (.inn (ak.tn (ak.tn (ak.tn (ak.tn (.two (.join [] [(53,65)] .n) (ak.tn (.two (.join [(14,(.sc .adr))] [(14,15),(74,99)] .n) (ak.tn (.two (.join [] [(106,132)] .n) .n)))))))))) .n)))))) .n)))) d
noncomputable def Ft(I:Sl):Prop:=
 aP xm (qO 170 eR (.tuple #[])) h λf h1=>
 ae xm 76 #[I] (.many [aU,cx,kN]) h1 λa h2=>
 bg (σ:=Unit) (λ_ h5=>
 bg (σ:=hU) (λb a2=>
 bg (σ:=Unit) (λ_ ah=>
 (0<=(9:Int)/\(9:Int)<=(13:Int)/\(13:Int)<=(a.2.1.cap:Int))/\
 ae xm 246 #[(.slice (if a.2.1.cap=(9:Int).toNat then a.2.1.ptr else a.2.1.ptr.map (·.add ((9:Int).toNat*1))) ((13:Int).toNat-(9:Int).toNat) (a.2.1.cap-(9:Int).toNat))] bB ah λa4 ad=>
 af xm (qf 46 (b.add 6) (xb xk (qc xk a4))) ad λ_ K=>
 ∃J:bS,an K (b.add 3) 0 J/\
 ae xm 40 #[J] ci K λax k=>
 Br (!ax)
 (af xm (qf 170 f (xh #[(xb xi 0),(xb xi 0),(xb xi 0),(xb xi 0),(xb xi 0),(xb xi 0),(xb xk 0),(xc eH 0 0)])) k λ_ G=>
 ∃d:fh,an G f 0 d/\
 R (.tuple #[d,eS]) G)
 (aZ k ((b.add 3).add 2) λj=>
 (0<=(13:Int)/\(13:Int)<=(qc xi (13+j))/\(qc xi (13+j))<=(a.2.1.cap:Int))/\
 ae xm 146 #[(.slice (if a.2.1.cap=(13:Int).toNat then a.2.1.ptr else a.2.1.ptr.map (·.add ((13:Int).toNat*1))) ((qc xi (13+j)).toNat-(13:Int).toNat) (a.2.1.cap-(13:Int).toNat))] aI k λa5 ay=>
 af xm (qf 34 (b.add 7) a5) ay λ_ E=>
 ∃B:fh,an E b 0 B/\
 ae xm 112 #[B] aI E λa6 am=>
 ae xm 99 #[I,a6] ci am λZ l=>
 Br (!Z)
 (af xm (qf 170 f (xh #[(xb xi 0),(xb xi 0),(xb xi 0),(xb xi 0),(xb xi 0),(xb xi 0),(xb xk 0),(xc eH 0 0)])) l λ_ L=>
 ∃c:fh,an L f 0 c/\
 R (.tuple #[c,eS]) L)
 (∃s:fh,an l b 0 s/\
 af xm (qf 170 f s) l λ_ F=>
 ∃e:fh,an F f 0 e/\
 R (.tuple #[e,eR]) F)))
 (λK3=>
 (0<=(6:Int)/\(6:Int)<=(7:Int)/\(7:Int)<=(a.2.1.cap:Int))/\
 (0<=(7:Int)/\(7:Int)<=(8:Int)/\(8:Int)<=(a.2.1.cap:Int))/\
 (0<=(8:Int)/\(8:Int)<=(9:Int)/\(9:Int)<=(a.2.1.cap:Int))/\
 ae xm 246 #[(.slice (if a.2.1.cap=(6:Int).toNat then a.2.1.ptr else a.2.1.ptr.map (·.add ((6:Int).toNat*1))) ((7:Int).toNat-(6:Int).toNat) (a.2.1.cap-(6:Int).toNat))] bB a2 λap z=>
 (av.ok [] z)/\
 ae xm 246 #[(.slice (if a.2.1.cap=(7:Int).toNat then a.2.1.ptr else a.2.1.ptr.map (·.add ((7:Int).toNat*1))) ((8:Int).toNat-(7:Int).toNat) (a.2.1.cap-(7:Int).toNat))] bB z λa0 H=>
 (av.ok [] H)/\
 ae xm 246 #[(.slice (if a.2.1.cap=(8:Int).toNat then a.2.1.ptr else a.2.1.ptr.map (·.add ((8:Int).toNat*1))) ((9:Int).toNat-(8:Int).toNat) (a.2.1.cap-(8:Int).toNat))] bB H λar y=>
 (av.ok [] y)/\
 af xm (qf 24 (b.add 3) (xh #[ap,a0,ar])) y λ_ n=>
 (av.ok [] n)/\
 K3 () n))
 (λQ=>
 (0<=(3:Int)/\(3:Int)<=(a.2.1.cap:Int))/\
 (0<=(3:Int)/\(3:Int)<=(4:Int)/\(4:Int)<=(a.2.1.cap:Int))/\
 (0<=(4:Int)/\(4:Int)<=(6:Int)/\(6:Int)<=(a.2.1.cap:Int))/\
 (ae xm 246 #[(xc a.2.1.ptr ((3:Int).toNat) a.2.1.cap)] bB h5 λS T=>
 (av.ok [] T)/\
 (ae xm 246 #[(.slice (if a.2.1.cap=(3:Int).toNat then a.2.1.ptr else a.2.1.ptr.map (·.add ((3:Int).toNat*1))) ((4:Int).toNat-(3:Int).toNat) (a.2.1.cap-(3:Int).toNat))] bB T λr7 h7=>
 (av.ok [] h7)/\
 (ae xm 246 #[(.slice (if a.2.1.cap=(4:Int).toNat then a.2.1.ptr else a.2.1.ptr.map (·.add ((4:Int).toNat*1))) ((6:Int).toNat-(4:Int).toNat) (a.2.1.cap-(4:Int).toNat))] bB h7 λr8 h8=>
 (av.ok [] h8)/\
 aP xm (qO 170 eR (.tuple #[])) h8 λa9 h9=>
 (av.ok [] h9)/\
 af xm (qf 170 a9 (xh #[S,r7,r8,(xb xi 0),(xb xi 0),(xb xi 0),(xb xk 0),(xc eH 0 0)])) h9 λ_ N=>
 (av.ok [] N)/\
 Q a9 N)/\(aP xm (qO 170 eR (.tuple #[])) h7 λu t=>
 (av.ok [] t)/\
 ae xm 246 #[(.slice (if a.2.1.cap=(4:Int).toNat then a.2.1.ptr else a.2.1.ptr.map (·.add ((4:Int).toNat*1))) ((6:Int).toNat-(4:Int).toNat) (a.2.1.cap-(4:Int).toNat))] bB t λY P=>
 (av.ok [] P)/\
 af xm (qf 170 u (xh #[S,r7,Y,(xb xi 0),(xb xi 0),(xb xi 0),(xb xk 0),(xc eH 0 0)])) P λ_ r=>
 (av.ok [] r)/\
 Q u r))/\(aP xm (qO 170 eR (.tuple #[])) T λm x=>
 (av.ok [] x)/\
 ae xm 246 #[(.slice (if a.2.1.cap=(3:Int).toNat then a.2.1.ptr else a.2.1.ptr.map (·.add ((3:Int).toNat*1))) ((4:Int).toNat-(3:Int).toNat) (a.2.1.cap-(3:Int).toNat))] bB x λV O=>
 (av.ok [] O)/\
 ae xm 246 #[(.slice (if a.2.1.cap=(4:Int).toNat then a.2.1.ptr else a.2.1.ptr.map (·.add ((4:Int).toNat*1))) ((6:Int).toNat-(4:Int).toNat) (a.2.1.cap-(4:Int).toNat))] bB O λW D=>
 (av.ok [] D)/\
 af xm (qf 170 m (xh #[S,V,W,(xb xi 0),(xb xi 0),(xb xi 0),(xb xk 0),(xc eH 0 0)])) D λ_ w=>
 (av.ok [] w)/\
 Q m w))/\(aP xm (qO 170 eR (.tuple #[])) h5 λA o=>
 (av.ok [] o)/\
 ae xm 246 #[(xc a.2.1.ptr ((3:Int).toNat) a.2.1.cap)] bB o λX v=>
 (av.ok [] v)/\
 ae xm 246 #[(.slice (if a.2.1.cap=(3:Int).toNat then a.2.1.ptr else a.2.1.ptr.map (·.add ((3:Int).toNat*1))) ((4:Int).toNat-(3:Int).toNat) (a.2.1.cap-(3:Int).toNat))] bB v λa3 p=>
 (av.ok [] p)/\
 ae xm 246 #[(.slice (if a.2.1.cap=(4:Int).toNat then a.2.1.ptr else a.2.1.ptr.map (·.add ((4:Int).toNat*1))) ((6:Int).toNat-(4:Int).toNat) (a.2.1.cap-(4:Int).toNat))] bB p λU q=>
 (av.ok [] q)/\
 af xm (qf 170 A (xh #[X,a3,U,(xb xi 0),(xb xi 0),(xb xi 0),(xb xk 0),(xc eH 0 0)])) q λ_ M=>
 (av.ok [] M)/\
 Q A M)))
 (λK1=>
 Br (!a.2.2) (af xm (qf 170 f (xh #[(xb xi 0),(xb xi 0),(xb xi 0),(xb xi 0),(xb xi 0),(xb xi 0),(xb xk 0),(xc eH 0 0)])) h2 λ_ h3=>
 ∃g:fh,an h3 f 0 g/\
 R (.tuple #[g,eS]) h3) (Br (a.1 !=1)
 (af xm (qf 170 f (xh #[(xb xi 0),(xb xi 0),(xb xi 0),(xb xi 0),(xb xi 0),(xb xi 0),(xb xk 0),(xc eH 0 0)])) h2 λ_ h4=>
 ∃i:fh,an h4 f 0 i/\
 R (.tuple #[i,eS]) h4)
 (K1 () h2)))
theorem Mt(a:Sl)(b:@Ft R h a):ab xm 194 #[a] h R:=az ac func194 (ak.tn (ak.tn (.two (.join [] [(3,4),(14,21)] .n) (.two (.join [(7,(.sc .adr))] [(7,8),(21,31)] .n) (.two (.join [] [(31,42)] .n) .n))))) b
noncomputable def Fu(d:dz)(b:fh):Prop:=
 aP xm (qN 44 d) h λf p=>
 aP xm (qN 170 b) p λa i=>
 bg (σ:=Unit) (λ_ e=>
 bh e (f.add 7) λm=>
 ae xm 165 #[m,(.func (.func 247) #[] #[a])] ci e λc n=>
 R c n)
 (λl=>
 ∃x3:fh,an i a 0 x3/\
 ae xm 184 #[x3] ci i λo h3=>
 Br (!o) (R eS h3) (∃k:bS,an h3 (a.add 3) 0 k/\
 ∃j:bS,an h3 (f.add 2) 0 j/\
 ∃g:Bool,(kB xm .neq 24 (.tmp 10) (.tmp 12) k j (xg g))/\
 Br g
 (R eS h3)
 (l () h3)))
theorem Mu(b:dz)(a:fh)(c:@Fu R h b a):ab xm 195 #[b,a] h R:=az ac func195 (ak.tn (.two (.join [] [(4,15)] .n) .n)) c
noncomputable def gm(b:Sl)(a:cU):Prop:=
 ae xm 248 #[b,(xb xi (b.len:Int)),(.func (.func a.1) a.2.1 a.2.2)] jm h λ_ c=>
 R (.tuple #[]) c
theorem km(b:Sl)(a:cU)(c:@gm R h b a):ab xm 196 #[b,(.func (.func a.1) a.2.1 a.2.2)] h R:=az ac func196 .n c
noncomputable def Hg(k:fh)(i:fh):Prop:=
 aP xm (qN 170 k) h λb u=>
 aP xm (qN 170 i) u λc a=>
 aZ a b λx3=>
 aZ a c λs=>
 aZ a (b.add 1) λr=>
 aZ a (c.add 1) λo=>
 aZ a (b.add 2) λl=>
 aZ a (c.add 2) λj=>
 ae xm 183 #[x3,s] bB a λt h3=>
 (av.ok [(c.add 2,j),(b.add 2,l),(c.add 1,o),(b.add 1,r)] h3)/\
 ae xm 183 #[r,o] bB h3 λg p=>
 (av.ok [(c.add 2,j),(b.add 2,l)] p)/\
 ae xm 183 #[l,j] bB p λe q=>
 (av.ok [] q)/\
 aA xm (qq 22 3 #[(0,t),(1,g),(2,e)]) aI q λf m=>
 (av.ok [] m)/\
 ae xm 181 #[f] bB m λd n=>
 (av.ok [] n)/\
 R d n
theorem Oq(a:fh)(b:fh)(c:@Hg R h a b):ab xm 197 #[a,b] h R:=az ac func197 .n c
noncomputable def gK(a:Sl)(c:cU):Prop:=
 Br ((a.len:Int)<2)
 (R a h)
 (aJ (σ:=Int) (λe v l=>
 Br (e<(a.len:Int))
 (aO a e λu=>
 ∃x3:fh,an l (u.add (e.toNat*8)) 0 x3/\
 aO a (qc xi (e-1)) λa4=>
 ∃g:fh,an l (a4.add ((qc xi (e-1)).toNat*8)) 0 g/\
 iM C c.1 (c.2.1.toList++[(xh #[x3.1,x3.2.1,x3.2.2.1,x3.2.2.2.1,x3.2.2.2.2.1,x3.2.2.2.2.2.1,(xb xk x3.2.2.2.2.2.2.1),x3.2.2.2.2.2.2.2]),(xh #[g.1,g.2.1,g.2.2.1,g.2.2.2.1,g.2.2.2.2.1,g.2.2.2.2.2.1,(xb xk g.2.2.2.2.2.2.1),g.2.2.2.2.2.2.2])]++c.2.2.toList) ci l λs p=>
 (av.ok [] p)/\
 Br s
 ((0<=e/\e<=(a.len:Int))/\
 aJ (σ:=Int×Int) (λb r h3=>
 Br (decide (b.2<(((a.len-e.toNat):Nat):Int)))
 (∃q:hU,((if a.cap=e.toNat then a.ptr else a.ptr.map (·.add (e.toNat*8)))=dB q/\0<=b.2/\b.2<(((a.len-e.toNat):Nat):Int))/\
 ∃f:fh,an h3 (q.add (b.2.toNat*8)) 0 f/\
 ∃i:hU,((if a.cap=e.toNat then a.ptr else a.ptr.map (·.add (e.toNat*8)))=dB i/\0<=(qc xi (b.2-1))/\(qc xi (b.2-1))<(((a.len-e.toNat):Nat):Int))/\
 ∃d:fh,an h3 (i.add ((qc xi (b.2-1)).toNat*8)) 0 d/\
 iM C c.1 (c.2.1.toList++[(xh #[f.1,f.2.1,f.2.2.1,f.2.2.2.1,f.2.2.2.2.1,f.2.2.2.2.2.1,(xb xk f.2.2.2.2.2.2.1),f.2.2.2.2.2.2.2]),(xh #[d.1,d.2.1,d.2.2.1,d.2.2.2.1,d.2.2.2.2.1,d.2.2.2.2.2.1,(xb xk d.2.2.2.2.2.2.1),d.2.2.2.2.2.2.2])]++c.2.2.toList) ci h3 λn m=>
 (av.ok [] m)/\
 Br (!n)
 (∃k:hU,((if a.cap=e.toNat then a.ptr else a.ptr.map (·.add (e.toNat*8)))=dB k/\0<=b.2/\b.2<(((a.len-e.toNat):Nat):Int))/\
 ∃j:fh,an m (k.add (b.2.toNat*8)) 0 j/\
 aO a b.1 λo=>
 af xm (qf 170 (o.add (b.1.toNat*8)) j) m λ_ w=>
 r (qc xi (b.1+1),qc xi (b.2+1)) w)
 (r (b.1,qc xi (b.2+1)) m))
 ((0<=b.1/\b.1<=(a.len:Int))/\
 af xm (Builtin.clear_ #[189] 0 #[(.slice (if a.cap=b.1.toNat then a.ptr else a.ptr.map (·.add (b.1.toNat*8))) (a.len-b.1.toNat) (a.cap-b.1.toNat))]) h3 λ_ t=>
 (0<=b.1/\b.1<=(a.cap:Int))/\
 R (xc a.ptr b.1.toNat a.cap) t)) (e,(1:Int)) p)
 (v (qc xi (e+1)) p))
 (R a l)) (1:Int) h)
theorem li(b:Sl)(a:cU)(c:@gK R h b a):ab xm 198 #[b,(.func (.func a.1) a.2.1 a.2.2)] h R:=az ac func198 (ak.tn (ak.tn (.two (ak.tn (.inn (.loop [(5,aU)] [(4,8),(12,65)] (ak.tn (.two (.inn (ak.tn (.two (ak.tn (.two (ak.tn (.inn (.loop [(5,aU),(7,aU)] [(5,6),(7,8),(32,59)] .n))) .n)) .n))) .n))))) .n))) c
noncomputable def Ag(c:fh)(b:fh):Prop:=
 aP xm (qN 170 c) h λe i=>
 aP xm (qN 170 b) i λg a=>
 ∃x3:fh,an a e 0 x3/\
 ∃d:fh,an a g 0 d/\
 ae xm 197 #[x3,d] bB a λf h3=>
 R (xg (f==0)) h3
theorem Hi(a:fh)(b:fh)(c:@Ag R h a b):ab xm 199 #[a,b] h R:=az ac func199 .n c
noncomputable def Py(a:Sl):Prop:=
 aJ (σ:=Int) (λc d b=>
 Br (c<(a.len:Int))
 (aO a c λe=>
 bh b (e.add (c.toNat*1)) λx3=>
 aO a (0:Int) λa4=>
 bh b (a4.add ((0:Int).toNat*1)) λf=>
 Br ((x3.len:Int) !=(f.len:Int)) (R eS b) (Br ((x3.len:Int)>64)
 (R eS b)
 (d (qc xi (c+1)) b)))
 (R eR b)) (0:Int) h
theorem Va(a:Sl)(b:@Py R h a):ab xm 200 #[a] h R:=az ac func200 (ak.tn (.two (ak.tn (.inn (.loop [(7,aU)] [(2,3),(4,5),(7,24)] .n))) .n)) b
noncomputable def Pz(a:Sl):Prop:=
 aA xm (qG 85 (xb xi 0) (xb xi (a.len:Int))) aI h λe m=>
 aJ (σ:=Sl×Int) (λb f d=>
 Br (b.2<(a.len:Int))
 (aO a b.2 λa3=>
 bh d (a3.add (b.2.toNat*1)) λj=>
 ae xm 146 #[j] aI d λi h3=>
 aA xm (qq 85 1 #[(0,i)]) aI h3 λl g=>
 aA xm (qu #[85,85] 85 #[b.1,l]) aI g λc k=>
 f ((⟨c.ptr,c.len,c.cap⟩:Sl),qc xi (b.2+1)) k)
 (R b.1 d)) ((⟨e.ptr,e.len,e.cap⟩:Sl),(0:Int)) m
theorem Vb(a:Sl)(b:@Pz R h a):ab xm 201 #[a] h R:=az ac func201 (ak.tn (ak.tn (.two (ak.tn (.inn (.loop [(3,cx),(11,aU)] [(3,4),(5,6),(11,21)] .n))) .n))) b
noncomputable def Hj(g:aQ)(b:Sl)(e:Int):Prop:=
 aJ (σ:=Int×Int) (λa G E=>
 Br (a.2<e)
 (ae xm 249 #[b,a.1,a.2] bB E λm p=>
 Br (m<0)
 (G (a.1,qc xi (a.2+1)) p)
 (bg (σ:=Unit) (λ_ q=>
 bg (σ:=Unit) (λ_ O=>
 aJ (σ:=Int) (λc D d=>
 Br (c<(b.len:Int))
 (Br (c !=a.1)
 (aO b c λj=>
 bh d (j.add (c.toNat*1)) λo=>
 aO o a.2 λA=>
 gj .u8 d (A.add (a.2.toNat*1)) λv=>
 aO b a.1 λa25=>
 bh d (a25.add (a.1.toNat*1)) λu=>
 aO b c λt=>
 bh d (t.add (c.toNat*1)) λs=>
 ae xm 252 #[g,(xb xj v),u,s] jm d λ_ l=>
 (av.ok [(j.add (c.toNat*1),o)] l)/\
 D (qc xi (c+1)) l)
 (D (qc xi (c+1)) d))
 (G (qc xi (a.1+1),qc xi (a.2+1)) d)) (0:Int) O)
 (λN=>
 aO b a.1 λf=>
 bh q (f.add (a.1.toNat*1)) λi=>
 aO i a.2 λr=>
 gj .u8 q (r.add (a.2.toNat*1)) λx=>
 aO b a.1 λn=>
 bh q (n.add (a.1.toNat*1)) λk=>
 ae xm 251 #[g,(xb xj x)] (.one (.sc (.int .u8))) q λw B=>
 (av.ok [(n.add (a.1.toNat*1),k),(f.add (a.1.toNat*1),i)] B)/\
 ae xm 250 #[g,(xb xj w),k] aI B λz F=>
 (av.ok [(f.add (a.1.toNat*1),i)] F)/\
 aO b a.1 λy=>
 af xm (qf 34 (y.add (a.1.toNat*1)) z) F λ_ h8=>
 (av.ok [] h8)/\
 N () h8))
 (λL=>
 aO b m λa3=>
 bh p (a3.add (m.toNat*1)) λK=>
 aO b a.1 λa5=>
 bh p (a5.add (a.1.toNat*1)) λM=>
 aO b a.1 λI=>
 af xm (qf 34 (I.add (a.1.toNat*1)) K) p λ_ h3=>
 (av.ok [] h3)/\
 aO b m λJ=>
 af xm (qf 34 (J.add (m.toNat*1)) M) h3 λ_ H=>
 (av.ok [] H)/\
 L () H)))
 (R a.1 E)) ((0:Int),(0:Int)) h
theorem Ot(b:aQ)(c:Sl)(a:Int)(d:@Hj R h b c a):ab xm 202 #[b,c,a] h R:=az ac func202 (ak.tn (ak.tn (.two (ak.tn (.inn (.loop [(7,aU),(12,aU)] [(7,11),(12,82)] (ak.tn (ak.tn (.two (.inn (ak.tn (ak.tn (ak.tn (.two (.join [] [(21,35)] .n) (.two (.join [] [(35,53)] .n) (.two (ak.tn (.inn (.loop [(55,aU)] [(10,11),(55,79)] .n))) .n))))))) .n)))))) .n))) d
noncomputable def Mw(a:aQ):Prop:=
 Br (za a)
 (ae xm 65 #[] kM h λc b=>
 R c b)
 (R a h)
theorem Td(a:aQ)(b:@Mw R h a):ab xm 203 #[a] h R:=az ac func203 .n b
noncomputable def JJ(a:Sl):Prop:=
 Br ((a.len:Int)==0)
 (R (xb xi 0) h)
 (aO a (0:Int) λb=>
 bh h (b.add ((0:Int).toNat*1)) λx2=>
 R (xb xi (x2.len:Int)) h)
theorem QM(a:Sl)(b:@JJ R h a):ab xm 204 #[a] h R:=az ac func204 .n b
noncomputable def Mx(d:Int)(c:Int):Prop:=
 aJ (σ:=bS) (λa i b=>
 Br (a.2.1==0)
 (R (xb xj a.2.2) b)
 (bg (σ:=Int) (λj f=>
 (0<=(1:Int))/\
 bg (σ:=Int) (λk h3=>
 (0<=(1:Int))/\
 i (k,q9 a.2.1 (2^min (1:Int).toNat (qk xj)),j) h3)
 (λe=>
 Br ((qc xj ((qF (qk xj) a.1&&&(qF (qk xj) (128:Int))).toNat:Nat)) !=0)
 (e (qc xj ((qF (qk xj) (qc xj (a.1*2^min (1:Int).toNat (qk xj)))^^^(qF (qk xj) (27:Int))).toNat:Nat)) f)
 (e (qc xj (a.1*2^min (1:Int).toNat (qk xj))) f)))
 (λg=>
 Br ((qc xj ((qF (qk xj) a.2.1&&&(qF (qk xj) (1:Int))).toNat:Nat))==1)
 (g (qc xj ((qF (qk xj) a.2.2^^^(qF (qk xj) a.1)).toNat:Nat)) b)
 (g a.2.2 b)))) (d,c,(0:Int)) h
theorem Te(a:Int)(b:Int)(c:@Mx R h a b):ab xm 205 #[(xb xj a),(xb xj b)] h R:=az ac func205 (ak.tn (.scope 0 [(0,(.sc (.int .u8))),(1,(.sc (.int .u8))),(5,(.sc (.int .u8)))] [(0,2),(4,26)] [.n] [(ak.tn (.two (.join [(5,(.sc (.int .u8)))] [(5,6),(10,16)] .n) (ak.tn (ak.tn (.two (.join [(0,(.sc (.int .u8)))] [(0,1),(21,24)] .n) .n)))))] [])) c
noncomputable def Dd(a:aQ):Prop:=
 Br (za a)
 (ae xm 65 #[] kM h λc b=>
 R c b)
 (R a h)
theorem KK(a:aQ)(b:@Dd R h a):ab xm 206 #[a] h R:=az ac func206 .n b
noncomputable def My(d:aQ)(b:Int)(a:Sl)(c:Sl):Prop:=
 ae xm 250 #[d,(xb xj b),a] aI h λf i=>
 ae xm 253 #[f,c] (.many [cx,kN]) i λe g=>
 R (.tuple #[e.1,e.2]) g
theorem Tf(d:aQ)(b:Int)(a:Sl)(c:Sl)(e:@My R h d b a c):ab xm 207 #[d,(xb xj b),a,c] h R:=az ac func207 .n e
noncomputable def lK(c:Sl)(a:cU):Prop:=
 aJ (σ:=Int) (λb f d=>
 Br (b<(c.len:Int))
 (aO c b λg=>
 gj .u8 d (g.add (b.toNat*1)) λx3=>
 iM C a.1 (a.2.1.toList++[(xb xj x3)]++a.2.2.toList) ci d λi e=>
 Br i
 (R b e)
 (f (qc xi (b+1)) e))
 (R (xb xi (-1:Int)) d)) (0:Int) h
theorem rc(b:Sl)(a:cU)(c:@lK R h b a):ab xm 208 #[b,(.func (.func a.1) a.2.1 a.2.2)] h R:=az ac func208 (ak.tn (.two (ak.tn (.inn (.loop [(8,aU)] [(4,6),(8,19)] .n))) .n)) c
noncomputable def Hk(a:Int):Prop:=
 R (xg (a !=0)) h
theorem Ou(a:Int)(b:@Hk R h a):ab xm 209 #[(xb xj a)] h R:=az ac func209 .n b
noncomputable def Ah(b:aQ):Prop:=
 Br (za b)
 (R (xc eH 0 0) h)
 (∃e,(b=dB e)/\
 bh h (e.add 2) λx2=>
 aJ (σ:=Sl×Int) (λa f d=>
 Br (a.2<(x2.len:Int))
 (aO x2 a.2 λa4=>
 bh d (a4.add (a.2.toNat*1)) λl=>
 ae xm 146 #[l] aI d λj k=>
 aA xm (qq 85 1 #[(0,j)]) aI k λg h3=>
 aA xm (qu #[85,85] 85 #[a.1,g]) aI h3 λc i=>
 f ((⟨c.ptr,c.len,c.cap⟩:Sl),qc xi (a.2+1)) i)
 (R a.1 d)) ((⟨eH,0,0⟩:Sl),(0:Int)) h)
theorem Hl(a:aQ)(b:@Ah R h a):ab xm 210 #[a] h R:=az ac func210 (ak.tn (ak.tn (ak.tn (.two (ak.tn (.inn (.loop [(3,cx),(13,aU)] [(3,4),(5,6),(13,23)] .n))) .n)))) b
noncomputable def PA(c:Sl):Prop:=
 aJ (σ:=Int×Int) (λb g e=>
 Br (b.2<(c.len:Int))
 (aO c b.2 λi=>
 gj .u8 e (i.add (b.2.toNat*1)) λx3=>
 aJ (σ:=Int×Int) (λa f d=>
 Br (a.2<8)
 ((0<=(1:Int))/\
 Br ((qc xk ((qF (qk xk) a.1&&&(qF (qk xk) (1:Int))).toNat:Nat))==1)
 (f (qc xk ((qF (qk xk) (q9 a.1 (2^min (1:Int).toNat (qk xk)))^^^(qF (qk xk) (3988292384:Int))).toNat:Nat),qc xi (a.2+1)) d)
 (f (q9 a.1 (2^min (1:Int).toNat (qk xk)),qc xi (a.2+1)) d))
 (g (a.1,qc xi (b.2+1)) d)) (qc xk ((qF (qk xk) b.1^^^(qF (qk xk) (qc xk x3))).toNat:Nat),(0:Int)) e)
 (R (xb xk (qc xk ((qF (qk xk) (4294967295:Int)^^^(qF (qk xk) b.1)).toNat:Nat))) e)) ((4294967295:Int),(0:Int)) h
theorem Vd(a:Sl)(b:@PA R h a):ab xm 213 #[a] h R:=az ac func213 (ak.tn (ak.tn (.two (ak.tn (.inn (.loop [(3,(.sc (.int .u32))),(9,aU)] [(3,4),(5,7),(9,29)] (ak.tn (ak.tn (.two (.inn (ak.tn (ak.tn (ak.tn (.inn (.loop [(3,(.sc (.int .u32))),(17,aU)] [(3,4),(6,7),(17,28)] .n)))))) .n)))))) .n))) b
noncomputable def ij(c:Sl)(a:cU):Prop:=
 aJ (σ:=Int) (λb f d=>
 Br (b<(c.len:Int))
 (aO c b λg=>
 ∃x3:Int×Sl,an d (g.add (b.toNat*2)) 0 x3/\
 iM C a.1 (a.2.1.toList++[(xh #[x3.1,x3.2])]++a.2.2.toList) ci d λi e=>
 Br i
 (R b e)
 (f (qc xi (b+1)) e))
 (R (xb xi (-1:Int)) d)) (0:Int) h
theorem lL(b:Sl)(a:cU)(c:@ij R h b a):ab xm 215 #[b,(.func (.func a.1) a.2.1 a.2.2)] h R:=az ac func215 (ak.tn (.two (ak.tn (.inn (.loop [(8,aU)] [(4,6),(8,19)] .n))) .n)) c
noncomputable def JK(b:Int)(c:Sl):Prop:=
 ae xm 263 #[b,c] ci h λN D=>
 Br (!N)
 (R (.tuple #[(xc eH 0 0),(xc eH 0 0),(xc eH 0 0),(xb xi 1)]) D)
 (bg (σ:=aQ) (λp h8=>
 ae xm 264 #[p] jm h8 λ_ Q=>
 aJ (σ:=Sl×Int) (λa G d=>
 Br (a.2<(c.len:Int))
 (aO c a.2 λz=>
 ∃o:Sl×Sl,an d (z.add (a.2.toNat*2)) 0 o/\
 aP xm (qO 275 eR (.tuple #[])) d λk u=>
 af xm (qf 275 k o) u λ_ n=>
 ∃j:Sl×Sl,an n k 0 j/\
 ae xm 265 #[p,j] (.one (.agg [.slc,.slc])) n λt s=>
 aP xm (qO 275 eR (.tuple #[])) s λf w=>
 af xm (qf 275 f t) w λ_ e=>
 bh e f λB=>
 Br ((B.len:Int)>0)
 (∃l:Sl×Sl,an e f 0 l/\
 aA xm (qq 273 1 #[(0,l)]) aI e λA y=>
 aA xm (qu #[273,273] 273 #[a.1,A]) aI y λg v=>
 G ((⟨g.ptr,g.len,g.cap⟩:Sl),qc xi (a.2+1)) v)
 (bh e (f.add 1) λE=>
 ae xm 266 #[E] ci e λx i=>
 Br (!x)
 (R (.tuple #[(xc eH 0 0),(xc eH 0 0),(xc eH 0 0),(xb xi 10)]) i)
 (G ((⟨a.1.ptr,a.1.len,a.1.cap⟩:Sl),qc xi (a.2+1)) i)))
 (∃m,(p=dB m)/\
 bh d (m.add 1) λr=>
 ∃a25,(p=dB a25)/\
 bh d (a25.add 2) λq=>
 R (.tuple #[r,q,a.1,(xb xi 0)]) d)) ((⟨eH,0,0⟩:Sl),(0:Int)) Q)
 (λJ=>
 (aA xm (qG 282 b b) aI D λO H=>
 (av.ok [] H)/\
 aA xm (qG 85 b b) aI H λv3 h3=>
 (av.ok [] h3)/\
 aP xm (qN 326 (xh #[c,O,v3])) h3 λa4 K=>
 (av.ok [] K)/\
 J (dB a4) K)/\(aA xm (qG 85 b b) aI D λv5 L=>
 (av.ok [] L)/\
 aA xm (qG 282 b b) aI L λP F=>
 (av.ok [] F)/\
 aP xm (qN 326 (xh #[c,P,v5])) F λM I=>
 (av.ok [] I)/\
 J (dB M) I)))
theorem QN(a:Int)(b:Sl)(c:@JK R h a b):ab xm 216 #[a,b] h R:=az ac func216 (ak.tn (ak.tn (.two (.join [(8,CN)] [(8,9),(16,23)] .n) (ak.tn (.two (ak.tn (.inn (.loop [(6,cx),(27,aU)] [(4,8),(10,12),(27,47)] .n))) .n))))) c
noncomputable def po(I:aQ)(b:Sl):Prop:=
 aP xm (qN 276 I) h λm B=>
 kL B m λx2=>
 ∃a3,(x2=dB a3)/\
 bh B (a3.add 5) λK=>
 aJ (σ:=Sl×Int) (λd S z=>
 Br (d.2<(K.len:Int))
 (aO K d.2 λO=>
 ∃M:Sl×Sl,an z (O.add (d.2.toNat*2)) 0 M/\
 aP xm (qO 275 eR (.tuple #[])) z λJ h3=>
 af xm (qf 275 J M) h3 λ_ N=>
 bh N J λQ=>
 aA xm (qq 51 1 #[(0,Q)]) aI N λt T=>
 aA xm (qu #[51,51] 51 #[d.1,t]) aI T λe P=>
 S ((⟨e.ptr,e.len,e.cap⟩:Sl),qc xi (d.2+1)) P)
 (aJ (σ:=Sl×Int) (λa L n=>
 Br (a.2<(b.len:Int))
 (aO b a.2 λv=>
 rN n (v.add (a.2.toNat*1)) λs=>
 Br s
 (aA xm (qq 22 1 #[(0,a.2)]) aI n λx h8=>
 aA xm (qq 51 1 #[(0,x)]) aI h8 λF U=>
 aA xm (qu #[51,51] 51 #[a.1,F]) aI U λg G=>
 L ((⟨g.ptr,g.len,g.cap⟩:Sl),qc xi (a.2+1)) G)
 (L ((⟨a.1.ptr,a.1.len,a.1.cap⟩:Sl),qc xi (a.2+1)) n))
 (ae xm 267 #[(xb xi (b.len:Int)),a.1] (.many [(.agg [.slc,.slc,.slc]),kN]) n λo r=>
 aP xm (qO 279 eR (.tuple #[])) r λc H=>
 af xm (qf 279 c o.1) H λ_ i=>
 bh i c λy=>
 ae xm 268 #[y,(.func (.func 269) #[] #[m])] aI i λA u=>
 af xm (qf 277 c A) u λ_ l=>
 bh l (c.add 2) λD=>
 ae xm 270 #[D,(.func (.func 271) #[] #[m])] aI l λE w=>
 af xm (qf 22 (c.add 2) E) w λ_ f=>
 kL f m λq=>
 ∃k:Sl×Sl×Sl,an f c 0 k/\
 ∃j,(q=dB j)/\
 af xm (qf 279 (j.add 6) k) f λ_ p=>
 R (.tuple #[]) p)) ((⟨d.1.ptr,d.1.len,d.1.cap⟩:Sl),(0:Int)) z)) ((⟨eH,0,0⟩:Sl),(0:Int)) B
theorem AX(b:aQ)(a:Sl)(c:@po R h b a):ab xm 217 #[b,a] h R:=az ac func217 (ak.tn (ak.tn (.two (ak.tn (.inn (.loop [(4,cx),(16,aU)] [(4,5),(6,7),(16,26)] .n))) (.two (ak.tn (.inn (.loop [(4,cx),(28,aU)] [(4,5),(7,9),(28,40)] .n))) .n)))) c
noncomputable def pq(a:aQ):Prop:=
 ∃a1,(a=dB a1)/\
 bh h ((a1.add 6).add 1) λx2=>
 bg (σ:=Unit) (λ_ bx=>
 ∃bq,(a=dB bq)/\
 bh bx ((bq.add 6).add 1) λW=>
 aJ (σ:=Int) (λi K2 d=>
 Br (i<(W.len:Int))
 (aO W i λb0=>
 aZ d (b0.add (i.toNat*1)) λb=>
 bg (σ:=Unit) (λ_ F=>
 ∃P,(a=dB P)/\
 bh F (P.add 9) λb1=>
 aO b1 b λcd=>
 bh F (cd.add (b.toNat*1)) λb6=>
 aO b6 i λb5=>
 af xm (qf 5 (b5.add (i.toNat*1)) (xb xj 1)) F λ_ cq=>
 K2 (qc xi (i+1)) cq)
 (λK3=>
 ∃g,(a=dB g)/\
 bh d (g.add 9) λj=>
 ∃a25,(a=dB a25)/\
 bh d (a25.add 10) λe=>
 ∃z,(a=dB z)/\
 aZ d ((z.add 1).add 2) λf=>
 (aA xm (qG 34 (xb xi (x2.len:Int)) (xb xi (x2.len:Int))) aI d λap A=>
 (av.ok [((z.add 1).add 2,f),(a25.add 10,e),(g.add 9,j)] A)/\
 aO j b λa2=>
 (aA xm (qG 34 f f) aI A λcn Q=>
 (av.ok [(a25.add 10,e),(g.add 9,j)] Q)/\
 af xm (qf 34 (a2.add (b.toNat*1)) ap) Q λ_ ar=>
 (av.ok [] ar)/\
 aO e b λcf=>
 af xm (qf 34 (cf.add (b.toNat*1)) cn) ar λ_ T=>
 (av.ok [] T)/\
 K3 () T)/\(af xm (qf 34 (a2.add (b.toNat*1)) ap) A λ_ Z=>
 (av.ok [] Z)/\
 aA xm (qG 34 f f) aI Z λb4 a9=>
 (av.ok [] a9)/\
 aO e b λb3=>
 af xm (qf 34 (b3.add (b.toNat*1)) b4) a9 λ_ G=>
 (av.ok [] G)/\
 K3 () G))/\(aA xm (qG 34 f f) aI d λc2 S=>
 (av.ok [(a25.add 10,e),(g.add 9,j)] S)/\
 aA xm (qG 34 (xb xi (x2.len:Int)) (xb xi (x2.len:Int))) aI S λcl a0=>
 (av.ok [(a25.add 10,e),(g.add 9,j)] a0)/\
 aO j b λb7=>
 af xm (qf 34 (b7.add (b.toNat*1)) cl) a0 λ_ bl=>
 (av.ok [] bl)/\
 aO e b λb9=>
 af xm (qf 34 (b9.add (b.toNat*1)) c2) bl λ_ J=>
 (av.ok [] J)/\
 K3 () J)))
 (∃a45,(a=dB a45)/\
 bh d (a45.add 6) λH=>
 aJ (σ:=Int) (λp K4 s=>
 Br (p<(H.len:Int))
 (aO H p λc1=>
 ∃K:Int×Int,an s (c1.add (p.toNat*2)) 0 K/\
 aP xm (qO 332 eR (.tuple #[])) s λa50 cr=>
 af xm (qf 332 a50 K) cr λ_ n=>
 bg (σ:=hU) (λx y=>
 bg (σ:=Sl×Sl) (λo br=>
 bh br x λax=>
 aJ (σ:=Int) (λl K7 c=>
 Br (l<(ax.len:Int))
 (aO ax l λa66=>
 aZ c (a66.add (l.toNat*1)) λah=>
 aZ c (a50.add 1) λc0=>
 Br (ah !=c0)
 (ae xm 272 #[a,(xb xj 1),ah,o.1,o.2] jm c λ_ c4=>
 K7 (qc xi (l+1)) c4)
 (K7 (qc xi (l+1)) c))
 (∃a70,(a=dB a70)/\
 bh c (a70.add 9) λc5=>
 aZ c (a50.add 1) λX=>
 ∃ay,(a=dB ay)/\
 bh c (ay.add 10) λcs=>
 aZ c (a50.add 1) λD=>
 aO c5 X λa76=>
 af xm (qf 34 (a76.add (X.toNat*1)) o.1) c λ_ L=>
 (av.ok [(a50.add 1,D)] L)/\
 aO cs D λa77=>
 af xm (qf 34 (a77.add (D.toNat*1)) o.2) L λ_ N=>
 (av.ok [] N)/\
 K4 (qc xi (p+1)) N)) (0:Int) br)
 (λK6=>
 bh y (x.add 1) λt=>
 (aA xm (qG 34 (xb xi (x2.len:Int)) (xb xi (x2.len:Int))) aI y λB bk=>
 (av.ok [(x.add 1,t)] bk)/\
 ae xm 146 #[t] aI bk λv M=>
 (av.ok [] M)/\
 K6 ((⟨B.ptr,B.len,B.cap⟩:Sl),(⟨v.ptr,v.len,v.cap⟩:Sl)) M)/\(ae xm 146 #[t] aI y λu a4=>
 (av.ok [] a4)/\
 aA xm (qG 34 (xb xi (x2.len:Int)) (xb xi (x2.len:Int))) aI a4 λE U=>
 (av.ok [] U)/\
 K6 ((⟨E.ptr,E.len,E.cap⟩:Sl),(⟨u.ptr,u.len,u.cap⟩:Sl)) U)))
 (λK5=>
 ∃a51,(a=dB a51)/\
 bh n (a51.add 5) λI=>
 aZ n a50 λk=>
 aO I k λw=>
 ∃q:Sl×Sl,an n (w.add (k.toNat*2)) 0 q/\
 aP xm (qO 275 eR (.tuple #[])) n λV O=>
 (av.ok [(w.add (k.toNat*2),q.1),((w.add (k.toNat*2)).add 1,q.2),(a50,k),(a51.add 5,I)] O)/\
 af xm (qf 275 V q) O λ_ bd=>
 (av.ok [] bd)/\
 K5 V bd))
 (R (.tuple #[]) s)) (0:Int) d)) (0:Int) bx)
 (λK1=>
 ∃a3,(a=dB a3)/\
 bh h (a3.add 4) λr=>
 ∃a5,(a=dB a5)/\
 bh h (a5.add 4) λm=>
 (aA xm (qG 85 (xb xi (r.len:Int)) (xb xi (r.len:Int))) aI h λv7 h1=>
 (av.ok [(a5.add 4,m),(a3.add 4,r)] h1)/\
 ∃a8,(a=dB a8)/\
 (aA xm (qG 85 (xb xi (m.len:Int)) (xb xi (m.len:Int))) aI h1 λv9 h2=>
 (av.ok [(a5.add 4,m),(a3.add 4,r)] h2)/\
 af xm (qf 85 (a8.add 9) v7) h2 λ_ h3=>
 (av.ok [] h3)/\
 ∃am,(a=dB am)/\
 af xm (qf 85 (am.add 10) v9) h3 λ_ h4=>
 (av.ok [] h4)/\
 K1 () h4)/\(af xm (qf 85 (a8.add 9) v7) h1 λ_ h5=>
 (av.ok [] h5)/\
 aA xm (qG 85 (xb xi (m.len:Int)) (xb xi (m.len:Int))) aI h5 λcp h6=>
 (av.ok [] h6)/\
 ∃a6,(a=dB a6)/\
 af xm (qf 85 (a6.add 10) cp) h6 λ_ h7=>
 (av.ok [] h7)/\
 K1 () h7))/\(aA xm (qG 85 (xb xi (m.len:Int)) (xb xi (m.len:Int))) aI h λcc h8=>
 (av.ok [(a5.add 4,m),(a3.add 4,r)] h8)/\
 aA xm (qG 85 (xb xi (r.len:Int)) (xb xi (r.len:Int))) aI h8 λb2 h9=>
 (av.ok [(a5.add 4,m),(a3.add 4,r)] h9)/\
 ∃bb,(a=dB bb)/\
 af xm (qf 85 (bb.add 9) b2) h9 λ_ Y=>
 (av.ok [] Y)/\
 ∃ad,(a=dB ad)/\
 af xm (qf 85 (ad.add 10) cc) Y λ_ a7=>
 (av.ok [] a7)/\
 K1 () a7))
theorem AY(a:aQ)(b:@pq R h a):ab xm 218 #[a] h R:=az ac func218 (ak.tn (.two (.join [] [(18,36)] .n) (.two (ak.tn (.inn (.loop [(42,aU)] [(3,5),(42,77)] (ak.tn (ak.tn (.two (.inn (ak.tn (.two (.join [] [(47,67)] .n) .n))) .n)))))) (ak.tn (.inn (.loop [(83,aU)] [(6,10),(11,12),(83,134)] (ak.tn (ak.tn (.two (.inn (ak.tn (.two (.join [(7,(.sc .adr))] [(7,8),(87,95)] .n) (.two (.join [(8,cx),(9,cx)] [(8,10),(95,100)] .n) (.two (ak.tn (.inn (.loop [(103,aU)] [(11,12),(103,117)] .n))) .n))))) .n))))))))) b
end Go.Qw
