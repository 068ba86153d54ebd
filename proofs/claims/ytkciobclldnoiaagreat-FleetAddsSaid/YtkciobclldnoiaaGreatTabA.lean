/- Part of the proofs that the laws of this seat answer true whatever the input reads, and leave it as it was; no condition. -/
import Derived.Test.YtkciobclldnoiaaGreatPlA
import Derived.Test.YtkciobclldnoiaaGreatProg
set_option linter.unusedVariables false
set_option linter.unusedSimpArgs false
namespace Go.Proofs.YtkciobclldnoiaaGreat
open Go Go.Vc Go.Proofs
set_option maxRecDepth 1000000
def lI:ByteArray:=⟨#[105,116]⟩
abbrev aJ:Nat:=3
abbrev aB:Nat:=5
abbrev KG:Nat:=9
abbrev Dx:Nat:=22
abbrev aT:Nat:=24
abbrev vF:Nat:=27
abbrev vG:Nat:=37
abbrev Ac:Nat:=40
abbrev ao:Nat:=42
abbrev aS:Nat:=46
abbrev yj:Nat:=48
abbrev eE:Nat:=64
abbrev BW:Nat:=65
abbrev dA:Nat:=69
abbrev bo:Nat:=72
abbrev bM:Nat:=81
abbrev aM:Nat:=89
abbrev cE:Nat:=96
abbrev aI:Nat:=103
abbrev dR:Nat:=190
abbrev Ad:Nat:=193
abbrev uc:Nat:=194
abbrev fN:Nat:=198
abbrev Fe:Nat:=223
abbrev Jb:Nat:=225
abbrev nj:Nat:=228
abbrev dB:Nat:=234
abbrev dv:Nat:=268
abbrev aK:TI:=⟨.fn,(.sc .fn),1,8,[.nilFunc]⟩
abbrev LD:TI:=⟨.int .i64,(.sc (.int .i64)),1,8,[(.int .i64 0)]⟩
abbrev LF:TI:=⟨.int .u8,(.sc (.int .u8)),1,1,[(.int .u8 0)]⟩
abbrev M3:TI:=⟨.str,(.sc .str),1,16,[(.string ⟨#[]⟩)]⟩
abbrev LG:TI:=⟨.int .u64,(.sc (.int .u64)),1,8,[(.int .u64 0)]⟩
abbrev M4:TI:=⟨.int .i32,(.sc (.int .i32)),1,4,[(.int .i32 0)]⟩
abbrev LH:TI:=⟨.struct [(0,3),(1,3),(2,3)],(.agg [(.int .i64),(.int .i64),(.int .i64)]),3,24,[(.int .i64 0),(.int .i64 0),(.int .i64 0)]⟩
abbrev LI:TI:=⟨.struct [(0,3),(1,46)],(.agg [(.int .i64),.slc]),2,32,[(.int .i64 0),(.slice none 0 0)]⟩
noncomputable def LJ:iR:=[⟨.other,(.sc .any),1,0,[(.tuple #[])]⟩,aK,LD,LD,⟨.bool,(.sc .bool),1,1,[(.bool .false)]⟩,LF,LF,⟨.struct [(0,2),(1,3),(2,4),(3,6)],(.agg [(.int .i64),(.int .i64),.bool,(.int .u8)]),4,24,[(.int .i64 0),(.int .i64 0),(.bool .false),(.int .u8 0)]⟩,⟨.struct [(0,2),(1,3),(2,4),(3,6)],(.agg [(.int .i64),(.int .i64),.bool,(.int .u8)]),4,24,[(.int .i64 0),(.int .i64 0),(.bool .false),(.int .u8 0)]⟩,M3,M3,M3,LG,⟨.struct [(0,9),(1,12)],(.agg [.str,(.int .u64)]),2,24,[(.string ⟨#[]⟩),(.int .u64 0)]⟩,⟨.struct [(0,9),(1,12)],(.agg [.str,(.int .u64)]),2,24,[(.string ⟨#[]⟩),(.int .u64 0)]⟩,⟨.ptr 279,(.sc .ptr),1,8,[(.pointer none)]⟩,⟨.ptr 282,(.sc .ptr),1,8,[(.pointer none)]⟩,⟨.ptr 290,(.sc .ptr),1,8,[(.pointer none)]⟩,⟨.struct [(0,17)],(.agg [.ptr]),1,8,[(.pointer none)]⟩,⟨.struct [(0,17)],(.agg [.ptr]),1,8,[(.pointer none)]⟩,⟨.other,(.sc .any),1,16,[.nilIface]⟩,M4,⟨.slice 3,(.sc .slc),1,24,[(.slice none 0 0)]⟩,LH,LH,⟨.other,(.sc .any),1,0,[(.tuple #[(.agg #[(.int .i64 0),(.int .i64 0),(.int .i64 0)]),(.int .i64 0),(.slice none 0 0)])]⟩,aK,⟨.ptr 64,(.sc .ptr),1,8,[(.pointer none)]⟩,LD,⟨.other,(.sc .any),1,0,[(.tuple #[(.pointer none),(.int .i64 0)])]⟩,aK,⟨.ptr 72,(.sc .ptr),1,8,[(.pointer none)]⟩,aK,aK,aK,aK,aK,⟨.ptr 81,(.sc .ptr),1,8,[(.pointer none)]⟩,aK,aK,⟨.slice 89,(.sc .slc),1,24,[(.slice none 0 0)]⟩,⟨.struct [(0,3),(1,3),(2,24),(5,3),(6,22),(7,40)],(.agg [(.int .i64),(.int .i64),(.int .i64),(.int .i64),(.int .i64),(.int .i64),.slc,.slc]),8,96,[(.int .i64 0),(.int .i64 0),(.int .i64 0),(.int .i64 0),(.int .i64 0),(.int .i64 0),(.slice none 0 0),(.slice none 0 0)]⟩,⟨.struct [(0,3),(1,3),(2,24),(5,3),(6,22),(7,40)],(.agg [(.int .i64),(.int .i64),(.int .i64),(.int .i64),(.int .i64),(.int .i64),.slc,.slc]),8,96,[(.int .i64 0),(.int .i64 0),(.int .i64 0),(.int .i64 0),(.int .i64 0),(.int .i64 0),(.slice none 0 0),(.slice none 0 0)]⟩,aK,aK,aK,⟨.slice 5,(.sc .slc),1,24,[(.slice none 0 0)]⟩,aK,⟨.slice 103,(.sc .slc),1,24,[(.slice none 0 0)]⟩,aK,aK,aK,⟨.slice 22,(.sc .slc),1,24,[(.slice none 0 0)]⟩,aK,aK,aK,aK,aK,aK,⟨.other,(.sc .any),1,0,[(.tuple #[(.slice none 0 0),(.bool .false)])]⟩,aK,aK,⟨.array 64 37,(.arr .ptr),64,512,List.replicate 64 (.pointer none)⟩,⟨.struct [(0,42),(8,31),(9,3),(10,62)],(.arr .any),74,624,[(.int .i64 0),(.int .i64 0),(.int .i64 0),(.int .i64 0),(.int .i64 0),(.int .i64 0),(.slice none 0 0),(.slice none 0 0),(.pointer none),(.int .i64 0)]++List.replicate 64 (.pointer none)⟩,⟨.struct [(0,42),(8,31),(9,3),(10,62)],(.arr .any),74,624,[(.int .i64 0),(.int .i64 0),(.int .i64 0),(.int .i64 0),(.int .i64 0),(.int .i64 0),(.slice none 0 0),(.slice none 0 0),(.pointer none),(.int .i64 0)]++List.replicate 64 (.pointer none)⟩,⟨.slice 46,(.sc .slc),1,24,[(.slice none 0 0)]⟩,aK,aK,aK,⟨.slice 96,(.sc .slc),1,24,[(.slice none 0 0)]⟩,aK,⟨.struct [(0,4),(1,4),(2,3),(3,3)],(.agg [.bool,.bool,(.int .i64),(.int .i64)]),4,24,[(.bool .false),(.bool .false),(.int .i64 0),(.int .i64 0)]⟩,⟨.struct [(0,4),(1,4),(2,3),(3,3)],(.agg [.bool,.bool,(.int .i64),(.int .i64)]),4,24,[(.bool .false),(.bool .false),(.int .i64 0),(.int .i64 0)]⟩,aK,aK,aK,aK,aK,aK,aK,⟨.struct [(0,31),(1,3),(2,65),(3,3),(4,65),(5,4),(6,4)],(.agg [.ptr,(.int .i64),.slc,(.int .i64),.slc,.bool,.bool]),7,80,[(.pointer none),(.int .i64 0),(.slice none 0 0),(.int .i64 0),(.slice none 0 0),(.bool .false),(.bool .false)]⟩,⟨.struct [(0,31),(1,3),(2,65),(3,3),(4,65),(5,4),(6,4)],(.agg [.ptr,(.int .i64),.slc,(.int .i64),.slc,.bool,.bool]),7,80,[(.pointer none),(.int .i64 0),(.slice none 0 0),(.int .i64 0),(.slice none 0 0),(.bool .false),(.bool .false)]⟩,aK,aK,aK,aK,aK,aK,⟨.struct [(0,9),(1,3),(2,3),(3,22)],(.agg [.str,(.int .i64),(.int .i64),.slc]),4,56,[(.string ⟨#[]⟩),(.int .i64 0),(.int .i64 0),(.slice none 0 0)]⟩,⟨.struct [(0,9),(1,3),(2,3),(3,22)],(.agg [.str,(.int .i64),(.int .i64),.slc]),4,56,[(.string ⟨#[]⟩),(.int .i64 0),(.int .i64 0),(.slice none 0 0)]⟩,aK,aK,⟨.other,(.sc .any),1,0,[(.tuple #[(.slice none 0 0),(.bool .false)])]⟩,aK,aK,LI,LI,aK,aK,aK,aK,⟨.int .u32,(.sc (.int .u32)),1,4,[(.int .u32 0)]⟩,⟨.struct [(0,3),(1,3),(2,3),(3,24),(6,101),(7,46)],(.agg [(.int .i64),(.int .i64),(.int .i64),(.int .i64),(.int .i64),(.int .i64),(.int .u32),.slc]),8,80,[(.int .i64 0),(.int .i64 0),(.int .i64 0),(.int .i64 0),(.int .i64 0),(.int .i64 0),(.int .u32 0),(.slice none 0 0)]⟩,⟨.struct [(0,3),(1,3),(2,3),(3,24),(6,101),(7,46)],(.agg [(.int .i64),(.int .i64),(.int .i64),(.int .i64),(.int .i64),(.int .i64),(.int .u32),.slc]),8,80,[(.int .i64 0),(.int .i64 0),(.int .i64 0),(.int .i64 0),(.int .i64 0),(.int .i64 0),(.int .u32 0),(.slice none 0 0)]⟩,⟨.other,(.sc .any),1,0,[(.tuple #[(.agg #[(.int .i64 0),(.int .i64 0),(.int .i64 0),(.int .i64 0),(.int .i64 0),(.int .i64 0),(.int .u32 0),(.slice none 0 0)]),(.bool .false)])]⟩,aK,aK,aK,aK,aK,aK,⟨.slice 114,(.sc .slc),1,24,[(.slice none 0 0)]⟩,aK,LI,LI,aK,⟨.ptr 119,(.sc .ptr),1,8,[(.pointer none)]⟩,⟨.array 64 3,(.arr (.int .i64)),64,512,List.replicate 64 (.int .i64 0)⟩,⟨.struct [(0,27),(1,42),(9,42),(17,22),(18,3),(19,117),(83,69)],(.arr .any),84,768,[(.pointer none),(.int .i64 0),(.int .i64 0),(.int .i64 0),(.int .i64 0),(.int .i64 0),(.int .i64 0),(.slice none 0 0),(.slice none 0 0),(.int .i64 0),(.int .i64 0),(.int .i64 0),(.int .i64 0),(.int .i64 0),(.int .i64 0),(.slice none 0 0),(.slice none 0 0),(.slice none 0 0)]++List.replicate 65 (.int .i64 0)++[(.slice none 0 0)]⟩,⟨.struct [(0,27),(1,42),(9,42),(17,22),(18,3),(19,117),(83,69)],(.arr .any),84,768,[(.pointer none),(.int .i64 0),(.int .i64 0),(.int .i64 0),(.int .i64 0),(.int .i64 0),(.int .i64 0),(.slice none 0 0),(.slice none 0 0),(.int .i64 0),(.int .i64 0),(.int .i64 0),(.int .i64 0),(.int .i64 0),(.int .i64 0),(.slice none 0 0),(.slice none 0 0),(.slice none 0 0)]++List.replicate 65 (.int .i64 0)++[(.slice none 0 0)]⟩,aK,aK,aK,aK,aK,aK,aK,aK,aK,LG,aK,aK,aK,aK,aK,aK,aK,aK,aK,aK,⟨.other,(.sc .any),1,0,[(.tuple #[(.int .i64 0),(.bool .false)])]⟩,aK,aK,aK,aK,⟨.ptr 190,(.sc .ptr),1,8,[(.pointer none)]⟩,⟨.other,(.sc .any),1,0,[(.tuple #[(.pointer none),(.int .i64 0)])]⟩,aK,aK,aK,aK,aK,aK,aK,aK,aK,⟨.other,(.sc .any),1,0,[(.tuple #[(.int .i64 0),(.slice none 0 0),(.bool .false)])]⟩,aK,aK,aK,aK,aK,aK,aK,aK,aK,aK,aK,aK,aK,aK,aK,LD,⟨.other,(.sc .any),1,0,[(.tuple #[(.int .i64 0),(.int .i64 0)])]⟩,aK,aK,aK,aK,aK,aK,LG,aK,aK,⟨.other,(.sc .any),1,0,[(.tuple #[(.slice none 0 0),(.int .i64 0)])]⟩,aK,⟨.ptr 228,(.sc .ptr),1,8,[(.pointer none)]⟩,aK,aK,aK,⟨.struct [(0,24),(3,101),(4,65)],(.agg [(.int .i64),(.int .i64),(.int .i64),(.int .u32),.slc]),5,56,[(.int .i64 0),(.int .i64 0),(.int .i64 0),(.int .u32 0),(.slice none 0 0)]⟩,⟨.struct [(0,24),(3,101),(4,65)],(.agg [(.int .i64),(.int .i64),(.int .i64),(.int .u32),.slc]),5,56,[(.int .i64 0),(.int .i64 0),(.int .i64 0),(.int .u32 0),(.slice none 0 0)]⟩,⟨.cpx,(.sc (.cpx .f64)),1,16,[(.complex Go.FloatKind.f64 0 0)]⟩,aK,⟨.slice 198,(.sc .slc),1,24,[(.slice none 0 0)]⟩,⟨.array 64 4,(.arr .bool),64,64,List.replicate 64 (.bool .false)⟩,⟨.flt,(.sc (.flt .f64)),1,8,[(.float Go.FloatKind.f64 0)]⟩,aK,⟨.struct [(0,3),(1,195)],(.agg [(.int .i64),(.flt .f64)]),2,16,[(.int .i64 0),(.float Go.FloatKind.f64 0)]⟩,⟨.struct [(0,3),(1,195)],(.agg [(.int .i64),(.flt .f64)]),2,16,[(.int .i64 0),(.float Go.FloatKind.f64 0)]⟩,aK,aK,aK,aK,aK,aK,aK,⟨.mp,(.sc .mp),1,8,[(.map none)]⟩,LH,LH,aK,aK,aK,LG,aK,aK,aK,⟨.ptr 3,(.sc .ptr),1,8,[(.pointer none)]⟩,aK,aK,aK,aK,aK,aK,⟨.array 255 5,(.arr (.int .u8)),255,255,List.replicate 255 (.int .u8 0)⟩,aK,⟨.array 256 3,(.arr (.int .i64)),256,2048,List.replicate 256 (.int .i64 0)⟩,aK,⟨.struct [(0,223),(255,225)],(.arr .any),511,2304,List.replicate 255 (.int .u8 0)++List.replicate 256 (.int .i64 0)⟩,⟨.struct [(0,223),(255,225)],(.arr .any),511,2304,List.replicate 255 (.int .u8 0)++List.replicate 256 (.int .i64 0)⟩,aK,aK,⟨.ptr 234,(.sc .ptr),1,8,[(.pointer none)]⟩,aK,⟨.struct [(0,191),(1,191),(2,3),(3,3),(4,4)],(.agg [(.cpx .f64),(.cpx .f64),(.int .i64),(.int .i64),.bool]),5,56,[(.complex Go.FloatKind.f64 0 0),(.complex Go.FloatKind.f64 0 0),(.int .i64 0),(.int .i64 0),(.bool .false)]⟩,⟨.struct [(0,191),(1,191),(2,3),(3,3),(4,4)],(.agg [(.cpx .f64),(.cpx .f64),(.int .i64),(.int .i64),.bool]),5,56,[(.complex Go.FloatKind.f64 0 0),(.complex Go.FloatKind.f64 0 0),(.int .i64 0),(.int .i64 0),(.bool .false)]⟩,aK,aK,⟨.ptr 268,(.sc .ptr),1,8,[(.pointer none)]⟩,aK,aK,aK,aK,aK,aK,aK,aK,aK,aK,aK,⟨.ptr 212,(.sc .ptr),1,8,[(.pointer none)]⟩,⟨.other,(.sc .any),1,0,[(.tuple #[(.int .i64 0),(.int .i64 0)])]⟩,aK,aK,aK,aK,aK,aK,aK,aK,aK,aK,aK,aK,aK,aK,aK,aK,⟨.struct [(0,180)],(.agg [(.int .u64)]),1,8,[(.int .u64 0)]⟩,⟨.struct [(0,180)],(.agg [(.int .u64)]),1,8,[(.int .u64 0)]⟩,aK,aK,aK,aK,aK,aK,aK,aK,aK,⟨.struct [(0,17),(1,17),(2,17),(3,9)],(.agg [.ptr,.ptr,.ptr,.str]),4,40,[(.pointer none),(.pointer none),(.pointer none),(.string ⟨#[]⟩)]⟩,⟨.struct [(0,17),(1,17),(2,17),(3,9)],(.agg [.ptr,.ptr,.ptr,.str]),4,40,[(.pointer none),(.pointer none),(.pointer none),(.string ⟨#[]⟩)]⟩,⟨.array 0 16,(.arr .ptr),0,0,[]⟩,⟨.struct [(0,280)],(.agg []),0,0,[]⟩,⟨.struct [(0,280)],(.agg []),0,0,[]⟩,LF,LF,aK,⟨.ptr 5,(.sc .ptr),1,8,[(.pointer none)]⟩,M4,M4,⟨.struct [(0,12),(1,12),(2,101),(3,283),(4,5),(5,5),(6,284),(7,285),(8,286),(9,287),(10,288)],(.agg [(.int .u64),(.int .u64),(.int .u32),(.int .u8),(.int .u8),(.int .u8),(.int .u8),.fn,.ptr,(.int .i32),(.int .i32)]),11,48,[(.int .u64 0),(.int .u64 0),(.int .u32 0),(.int .u8 0),(.int .u8 0),(.int .u8 0),(.int .u8 0),.nilFunc,(.pointer none),(.int .i32 0),(.int .i32 0)]⟩,⟨.struct [(0,12),(1,12),(2,101),(3,283),(4,5),(5,5),(6,284),(7,285),(8,286),(9,287),(10,288)],(.agg [(.int .u64),(.int .u64),(.int .u32),(.int .u8),(.int .u8),(.int .u8),(.int .u8),.fn,.ptr,(.int .i32),(.int .i32)]),11,48,[(.int .u64 0),(.int .u64 0),(.int .u32 0),(.int .u8 0),(.int .u8 0),(.int .u8 0),(.int .u8 0),.nilFunc,(.pointer none),(.int .i32 0),(.int .i32 0)]⟩,⟨.other,(.sc .any),1,8,[(.pointer none)]⟩]
noncomputable def C:Ctx:={P:=Tryz.prog,T:=LJ,tup:=[(0,[]),(25,[(.agg [(.int .i64),(.int .i64),(.int .i64)]),(.sc (.int .i64)),(.sc .slc)]),(29,[(.sc .ptr),(.sc (.int .i64))]),(59,[(.sc .slc),(.sc .bool)]),(92,[(.sc .slc),(.sc .bool)]),(104,[(.agg [(.int .i64),(.int .i64),(.int .i64),(.int .i64),(.int .i64),(.int .i64),(.int .u32),.slc]),(.sc .bool)]),(140,[(.sc (.int .i64)),(.sc .bool)]),(146,[(.sc .ptr),(.sc (.int .i64))]),(156,[(.sc (.int .i64)),(.sc .slc),(.sc .bool)]),(173,[(.sc (.int .i64)),(.sc (.int .i64))]),(183,[(.sc .slc),(.sc (.int .i64))]),(250,[(.sc (.int .i64)),(.sc (.int .i64))])],fns:=[false,false]++List.replicate 239 true++List.replicate 18 false}
theorem NC:(List.range C.T.length).map (iR.seen C.P)=C.T.map iR.told:=by kernel_rfl
theorem Mi:C.P.follows .mixedOrders=true:=by kernel_rfl
theorem ND:(C.P.funcs.toList.map fun f=>!(f.name== "runtime.NumGoroutine")&&f.body.isSome)=C.fns:=by kernel_rfl
theorem ag:C.Ok:={LJ:=NC,mixed:=Mi,fns:=ND}
abbrev gZ:FuncId:=3
noncomputable def ij (c_0:Sl) (slot_1:Int) (cells_2:Int) (n_3:Int) (x_4:Int) (R:Value→Heap→Prop) (h:Heap):Prop:=
 ae Tryz.prog 5 #[(.slice c_0.ptr c_0.len c_0.cap)] (.many [(.agg [(.int .i64),(.int .i64),(.int .i64)]),(.sc (.int .i64)),(.sc .slc)]) h fun r1 h1=>
 aN Tryz.prog (Instr.alloc 24 true (.tuple #[])) h1 fun a2 h2=>
 af Tryz.prog (Instr.storeAt 24 (.pointer (some a2)) (.agg #[(.int .i64 r1.1.1),(.int .i64 r1.1.2.1),(.int .i64 r1.1.2.2)])) h2 fun _ h3=>
 aX (σ:=Option Addr×Int) (fun s10 h10=>
 aX (σ:=Unit) (fun _ h11=>
 ae Tryz.prog 8 #[(.int .i64 slot_1),(.int .i64 (62:Int))] (.one (.sc (.int .i64))) h11 fun r12 h12=>
 ae Tryz.prog 8 #[(.int .i64 cells_2),(.int .i64 (400:Int))] (.one (.sc (.int .i64))) h12 fun r13 h13=>
 aX (σ:=Unit) (fun _ h21=>
 ae Tryz.prog 14 #[(.pointer s10.1)] (.one (.agg [(.int .i64),(.int .i64),(.int .i64),(.int .i64),(.int .i64),(.int .i64),.slc,.slc])) h21 fun r22 h22=>
 aN Tryz.prog (Instr.alloc 42 true (.tuple #[])) h22 fun a23 h23=>
 af Tryz.prog (Instr.storeAt 42 (.pointer (some a23)) (.agg #[(.int .i64 r22.1),(.int .i64 r22.2.1),(.int .i64 r22.2.2.1),(.int .i64 r22.2.2.2.1),(.int .i64 r22.2.2.2.2.1),(.int .i64 r22.2.2.2.2.2.1),(.slice r22.2.2.2.2.2.2.1.ptr r22.2.2.2.2.2.2.1.len r22.2.2.2.2.2.2.1.cap),(.slice r22.2.2.2.2.2.2.2.ptr r22.2.2.2.2.2.2.2.len r22.2.2.2.2.2.2.2.cap)])) h23 fun _ h24=>
 ae Tryz.prog 11 #[(.pointer s10.1)] (.one (.sc .slc)) h24 fun r24 h25=>
 aO (σ:=Int) (fun s25 K4 h26=>
 Br (decide (s25<((r24.len:Nat):Int)))
 (∃a26:Addr,(r24.ptr=some a26∧0≤s25∧s25<((r24.len:Nat):Int))∧
 ∃x27:Int,cellOf h26 (a26.add (s25.toNat*1))=some (.int .i64 x27)∧
 ∃x28:Int×Int×Int×Int×Int×Int×Sl×Sl,ai h26 a23 0 [(.int .i64 x28.1),(.int .i64 x28.2.1),(.int .i64 x28.2.2.1),(.int .i64 x28.2.2.2.1),(.int .i64 x28.2.2.2.2.1),(.int .i64 x28.2.2.2.2.2.1),(.slice x28.2.2.2.2.2.2.1.ptr x28.2.2.2.2.2.2.1.len x28.2.2.2.2.2.2.1.cap),(.slice x28.2.2.2.2.2.2.2.ptr x28.2.2.2.2.2.2.2.len x28.2.2.2.2.2.2.2.cap)]∧
 ae Tryz.prog 12 #[(.pointer s10.1),(.int .i64 x27)] (.one (.sc .ptr)) h26 fun r29 h27=>
 (au.ok [(a23,(.int .i64 x28.1)),(a23.add 1,(.int .i64 x28.2.1)),(a23.add 2,(.int .i64 x28.2.2.1)),(a23.add 3,(.int .i64 x28.2.2.2.1)),(a23.add 4,(.int .i64 x28.2.2.2.2.1)),(a23.add 5,(.int .i64 x28.2.2.2.2.2.1)),(a23.add 6,(.slice x28.2.2.2.2.2.2.1.ptr x28.2.2.2.2.2.2.1.len x28.2.2.2.2.2.2.1.cap)),(a23.add 7,(.slice x28.2.2.2.2.2.2.2.ptr x28.2.2.2.2.2.2.2.len x28.2.2.2.2.2.2.2.cap))] h27)∧
 ae Tryz.prog 15 #[(.pointer r29),(.agg #[(.int .i64 x28.1),(.int .i64 x28.2.1),(.int .i64 x28.2.2.1),(.int .i64 x28.2.2.2.1),(.int .i64 x28.2.2.2.2.1),(.int .i64 x28.2.2.2.2.2.1),(.slice x28.2.2.2.2.2.2.1.ptr x28.2.2.2.2.2.2.1.len x28.2.2.2.2.2.2.1.cap),(.slice x28.2.2.2.2.2.2.2.ptr x28.2.2.2.2.2.2.2.len x28.2.2.2.2.2.2.2.cap)])] (.one (.sc .bool)) h27 fun r30 h28=>
 (au.ok [] h28)∧
 Br (!r30)
 (R (.bool false) h28)
 (K4 (IntKind.wrap .i64 (s25+(1:Int))) h28))
 (∃x31:Int,cellOf h26 a2=some (.int .i64 x31)∧
 ∃x32:Int,cellOf h26 (a2.add 2)=some (.int .i64 x32)∧
 ae Tryz.prog 8 #[(.int .i64 n_3),(.int .i64 (IntKind.wrap .i64 ((IntKind.wrap .i64 ((2:Int)*x31))*x32)))] (.one (.sc (.int .i64))) h26 fun r33 h29=>
 ae Tryz.prog 17 #[(.int .i64 (IntKind.wrap .i64 ((1:Int)+r33))),(.int .i64 x_4)] (.one (.sc .slc)) h29 fun r34 h30=>
 ae Tryz.prog 16 #[(.pointer s10.1),(.string lI),(.slice r34.ptr r34.len r34.cap)] (.one (.sc (.int .i64))) h30 fun r35 h31=>
 aX (σ:=Unit) (fun _ h35=>
 Br (r35==(0:Int)) (∃x41:Int,cellOf h35 a23=some (.int .i64 x41)∧
 Br (x41==(2:Int)) (ae Tryz.prog 9 #[(.pointer s10.1),(.int .i64 (IntKind.wrap .i64 ((2:Int)+r12))),(.int .i64 (IntKind.wrap .i64 ((100:Int)+r13)))] (.one (.sc (.int .i64))) h35 fun r42 h36=>
 Br (r42==(4:Int)) (ae Tryz.prog 19 #[] (.one (.sc .bool)) h36 fun r43 h37=>
 R (.bool r43) h37) (R (.bool false) h36)) (R (.bool false) h35)) (Br (r35==(8:Int)) (∃x44:Int,cellOf h35 a23=some (.int .i64 x44)∧
 Br (x44==(2:Int)) (ae Tryz.prog 9 #[(.pointer s10.1),(.int .i64 (IntKind.wrap .i64 ((2:Int)+r12))),(.int .i64 (IntKind.wrap .i64 ((100:Int)+r13)))] (.one (.sc (.int .i64))) h35 fun r45 h38=>
 Br (r45==(4:Int)) (ae Tryz.prog 19 #[] (.one (.sc .bool)) h38 fun r46 h39=>
 R (.bool r46) h39) (R (.bool false) h38)) (R (.bool false) h35)) (R (.bool false) h35)))
 (fun K5=>
 Br (r35==(0:Int)) (∃x36:Int,cellOf h31 a2=some (.int .i64 x36)∧
 Br (decide ((IntKind.wrap .i64 (x36+r1.2.1))≥(3:Int))) (ae Tryz.prog 12 #[(.pointer s10.1),(.int .i64 (IntKind.wrap .i64 ((2:Int)+r12)))] (.one (.sc .ptr)) h31 fun r37 h32=>
 ae Tryz.prog 14 #[(.pointer s10.1)] (.one (.agg [(.int .i64),(.int .i64),(.int .i64),(.int .i64),(.int .i64),(.int .i64),.slc,.slc])) h32 fun r38 h33=>
 ae Tryz.prog 18 #[(.pointer r37),(.agg #[(.int .i64 r38.1),(.int .i64 r38.2.1),(.int .i64 r38.2.2.1),(.int .i64 r38.2.2.2.1),(.int .i64 r38.2.2.2.2.1),(.int .i64 r38.2.2.2.2.2.1),(.slice r38.2.2.2.2.2.2.1.ptr r38.2.2.2.2.2.2.1.len r38.2.2.2.2.2.2.1.cap),(.slice r38.2.2.2.2.2.2.2.ptr r38.2.2.2.2.2.2.2.len r38.2.2.2.2.2.2.2.cap)])] (.one (.sc .slc)) h33 fun r39 h34=>
 Br (((r39.len:Nat):Int)==(0:Int))
 (R (.bool false) h34)
 (K5 () h34)) (K5 () h31)) (K5 () h31)))) (0:Int) h25)
 (fun K3=>
 ae Tryz.prog 9 #[(.pointer s10.1),(.int .i64 (IntKind.wrap .i64 ((2:Int)+r12))),(.int .i64 (IntKind.wrap .i64 ((100:Int)+r13)))] (.one (.sc (.int .i64))) h13 fun r14 h14=>
 Br (r14 !=(0:Int)) (R (.bool false) h14) (ae Tryz.prog 11 #[(.pointer s10.1)] (.one (.sc .slc)) h14 fun r15 h15=>
 av Tryz.prog (Instr.buildSlice 22 3 #[(0,(.int .i64 (0:Int))),(1,(.int .i64 (1:Int))),(2,(.int .i64 (IntKind.wrap .i64 ((2:Int)+r12))))]) (.one (.sc .slc)) h15 fun v16 h16=>
 ae Tryz.prog 10 #[(.slice r15.ptr r15.len r15.cap),(.slice v16.ptr v16.len v16.cap)] (.one (.sc .bool)) h16 fun r17 h17=>
 Br (!r17) (R (.bool false) h17) (ae Tryz.prog 12 #[(.pointer s10.1),(.int .i64 (IntKind.wrap .i64 ((2:Int)+r12)))] (.one (.sc .ptr)) h17 fun r18 h18=>
 Br (Option.isNone r18) (R (.bool false) h18) (ae Tryz.prog 12 #[(.pointer s10.1),(.int .i64 (IntKind.wrap .i64 ((2:Int)+r12)))] (.one (.sc .ptr)) h18 fun r19 h19=>
 ae Tryz.prog 13 #[(.pointer r19)] (.one (.sc (.int .i64))) h19 fun r20 h20=>
 Br (r20 !=(IntKind.wrap .i64 ((100:Int)+r13)))
 (R (.bool false) h20)
 (K3 () h20))))))
 (fun K2=>
 Br (s10.2 !=(0:Int)) (R (.bool false) h10) (Br (Option.isNone s10.1)
 (R (.bool false) h10)
 (K2 () h10))))
 (fun K1=>
 ∃x3:Int×Int×Int,ai h3 a2 0 [(.int .i64 x3.1),(.int .i64 x3.2.1),(.int .i64 x3.2.2)]∧
 (ae Tryz.prog 7 #[] (.one (.sc .ptr)) h3 fun r4 h4=>
 (au.ok [(a2,(.int .i64 x3.1)),(a2.add 1,(.int .i64 x3.2.1)),(a2.add 2,(.int .i64 x3.2.2))] h4)∧
 av Tryz.prog (Instr.buildSlice 22 2 #[(0,(.int .i64 (200:Int))),(1,(.int .i64 (200:Int)))]) (.one (.sc .slc)) h4 fun v5 h5=>
 (au.ok [(a2,(.int .i64 x3.1)),(a2.add 1,(.int .i64 x3.2.1)),(a2.add 2,(.int .i64 x3.2.2))] h5)∧
 ae Tryz.prog 6 #[(.agg #[(.int .i64 x3.1),(.int .i64 x3.2.1),(.int .i64 x3.2.2)]),(.int .i64 r1.2.1),(.pointer r4),(.slice v5.ptr v5.len v5.cap)] (.many [(.sc .ptr),(.sc (.int .i64))]) h5 fun r6 h6=>
 (au.ok [] h6)∧
 K1 (r6.1,r6.2) h6)∧(av Tryz.prog (Instr.buildSlice 22 2 #[(0,(.int .i64 (200:Int))),(1,(.int .i64 (200:Int)))]) (.one (.sc .slc)) h3 fun v7 h7=>
 (au.ok [(a2,(.int .i64 x3.1)),(a2.add 1,(.int .i64 x3.2.1)),(a2.add 2,(.int .i64 x3.2.2))] h7)∧
 ae Tryz.prog 7 #[] (.one (.sc .ptr)) h7 fun r8 h8=>
 (au.ok [(a2,(.int .i64 x3.1)),(a2.add 1,(.int .i64 x3.2.1)),(a2.add 2,(.int .i64 x3.2.2))] h8)∧
 ae Tryz.prog 6 #[(.agg #[(.int .i64 x3.1),(.int .i64 x3.2.1),(.int .i64 x3.2.2)]),(.int .i64 r1.2.1),(.pointer r8),(.slice v7.ptr v7.len v7.cap)] (.many [(.sc .ptr),(.sc (.int .i64))]) h8 fun r9 h9=>
 (au.ok [] h9)∧
 K1 (r9.1,r9.2) h9))
theorem kX (c_0:Sl) (slot_1:Int) (cells_2:Int) (n_3:Int) (x_4:Int) {R:Value→Heap→Prop} {h:Heap} (hm:ij c_0 slot_1 cells_2 n_3 x_4 R h):ab Tryz.prog 3 #[(.slice c_0.ptr c_0.len c_0.cap),(.int .i64 slot_1),(.int .i64 cells_2),(.int .i64 n_3),(.int .i64 x_4)] h R:=al ag Tryz.func3 (.two .n (.two .n (.two (.join [(14,(.sc .ptr)),(15,(.sc (.int .i64)))] [(14,16),(26,34)] .n) (.two (.join [] [(10,11),(34,40)] .n) (.two .n (.two (.join [] [(10,11),(46,73)] .n) (.two .n (.two (.two .n (.inn (.loop [(78,(.sc (.int .i64)))] [(10,11),(18,19),(78,89)] .n))) (.two .n (.two (.join [] [(10,11),(102,121)] .n) .n)))))))))) hm
abbrev nT:FuncId:=5
noncomputable def jD (l_0:Sl) (R:Value→Heap→Prop) (h:Heap):Prop:=
 aN Tryz.prog (Instr.alloc 24 true (.tuple #[])) h fun a1 h1=>
 ae Tryz.prog 25 #[(.slice l_0.ptr l_0.len l_0.cap),(.int .i64 (0:Int))] (.one (.sc (.int .i64))) h1 fun r2 h2=>
 ae Tryz.prog 25 #[(.slice l_0.ptr l_0.len l_0.cap),(.int .i64 (1:Int))] (.one (.sc (.int .i64))) h2 fun r3 h3=>
 ae Tryz.prog 25 #[(.slice l_0.ptr l_0.len l_0.cap),(.int .i64 (2:Int))] (.one (.sc (.int .i64))) h3 fun r4 h4=>
 ae Tryz.prog 24 #[(.int .i64 r2),(.int .i64 r3),(.int .i64 r4)] (.one (.agg [(.int .i64),(.int .i64),(.int .i64)])) h4 fun r5 h5=>
 aN Tryz.prog (Instr.alloc 24 true (.tuple #[])) h5 fun a6 h6=>
 af Tryz.prog (Instr.storeAt 24 (.pointer (some a6)) (.agg #[(.int .i64 r5.1),(.int .i64 r5.2.1),(.int .i64 r5.2.2)])) h6 fun _ h7=>
 aO (σ:=Sl×Int) (fun s7 K1 h8=>
 ae Tryz.prog 25 #[(.slice l_0.ptr l_0.len l_0.cap),(.int .i64 (4:Int))] (.one (.sc (.int .i64))) h8 fun r8 h9=>
 ae Tryz.prog 8 #[(.int .i64 r8),(.int .i64 (4:Int))] (.one (.sc (.int .i64))) h9 fun r9 h10=>
 Br (decide (s7.2<(IntKind.wrap .i64 ((2:Int)+r9))))
 (ae Tryz.prog 25 #[(.slice l_0.ptr l_0.len l_0.cap),(.int .i64 (IntKind.wrap .i64 ((5:Int)+s7.2)))] (.one (.sc (.int .i64))) h10 fun r10 h11=>
 ae Tryz.prog 8 #[(.int .i64 r10),(.int .i64 (50:Int))] (.one (.sc (.int .i64))) h11 fun r11 h12=>
 av Tryz.prog (Instr.buildSlice 22 1 #[(0,(.int .i64 (IntKind.wrap .i64 ((8:Int)+r11))))]) (.one (.sc .slc)) h12 fun v12 h13=>
 av Tryz.prog (Builtin.append_ #[22,22] 22 #[(.slice s7.1.ptr s7.1.len s7.1.cap),(.slice v12.ptr v12.len v12.cap)]) (.one (.sc .slc)) h13 fun v13 h14=>
 K1 ((⟨v13.ptr,v13.len,v13.cap⟩:Sl),IntKind.wrap .i64 (s7.2+(1:Int))) h14)
 (∃x14:Int×Int×Int,ai h10 a6 0 [(.int .i64 x14.1),(.int .i64 x14.2.1),(.int .i64 x14.2.2)]∧
 ae Tryz.prog 25 #[(.slice l_0.ptr l_0.len l_0.cap),(.int .i64 (3:Int))] (.one (.sc (.int .i64))) h10 fun r15 h15=>
 (au.ok [(a6,(.int .i64 x14.1)),(a6.add 1,(.int .i64 x14.2.1)),(a6.add 2,(.int .i64 x14.2.2))] h15)∧
 ae Tryz.prog 8 #[(.int .i64 r15),(.int .i64 (7:Int))] (.one (.sc (.int .i64))) h15 fun r16 h16=>
 (au.ok [(a6,(.int .i64 x14.1)),(a6.add 1,(.int .i64 x14.2.1)),(a6.add 2,(.int .i64 x14.2.2))] h16)∧
 af Tryz.prog (Instr.storeAt 24 (.pointer (some a1)) (.agg #[(.int .i64 x14.1),(.int .i64 x14.2.1),(.int .i64 x14.2.2)])) h16 fun _ h17=>
 (au.ok [] h17)∧
 ∃res17:Int×Int×Int,ai h17 a1 0 [(.int .i64 res17.1),(.int .i64 res17.2.1),(.int .i64 res17.2.2)]∧
 R (.tuple #[(.agg #[(.int .i64 res17.1),(.int .i64 res17.2.1),(.int .i64 res17.2.2)]),(.int .i64 r16),(.slice s7.1.ptr s7.1.len s7.1.cap)]) h17)) ((⟨none,0,0⟩:Sl),(0:Int)) h7
theorem nk (l_0:Sl) {R:Value→Heap→Prop} {h:Heap} (hm:jD l_0 R h):ab Tryz.prog 5 #[(.slice l_0.ptr l_0.len l_0.cap)] h R:=al ag Tryz.func5 (.two .n (.two .n (.two .n (.two .n (.two (.two .n (.inn (.loop [(7,(.sc .slc)),(8,(.sc (.int .i64)))] [(7,9),(16,35)] .n))) .n))))) hm
abbrev oT:FuncId:=6
noncomputable def p8 (p_0:Int×Int×Int) (extra_1:Int) (pw_2:Option Addr) (cells_3:Sl) (R:Value→Heap→Prop) (h:Heap):Prop:=
 aN Tryz.prog (Instr.box 24 (.agg #[(.int .i64 p_0.1),(.int .i64 p_0.2.1),(.int .i64 p_0.2.2)])) h fun a1 h1=>
 ae Tryz.prog 26 #[(.slice cells_3.ptr cells_3.len cells_3.cap)] (.many [(.sc .slc),(.sc .bool)]) h1 fun r2 h2=>
 aX (σ:=Unit) (fun _ h4=>
 aX (σ:=Option Addr) (fun s10 h7=>
 aO (σ:=Int) (fun s11 K3 h8=>
 Br (decide (s11<((r2.1.len:Nat):Int)))
 (∃a12:Addr,(r2.1.ptr=some a12∧0≤s11∧s11<((r2.1.len:Nat):Int))∧
 ∃x13:Int,cellOf h8 (a12.add (s11.toNat*1))=some (.int .i64 x13)∧
 ∃a14:Addr,(cells_3.ptr=some a14∧0≤x13∧x13<((cells_3.len:Nat):Int))∧
 ∃x15:Int,cellOf h8 (a14.add (x13.toNat*1))=some (.int .i64 x15)∧
 ∃a16:Addr,(s10=some a16)∧
 ∃x17:Int×Int×Int×Int×Int×Int×Sl×Sl,ai h8 a16 0 [(.int .i64 x17.1),(.int .i64 x17.2.1),(.int .i64 x17.2.2.1),(.int .i64 x17.2.2.2.1),(.int .i64 x17.2.2.2.2.1),(.int .i64 x17.2.2.2.2.2.1),(.slice x17.2.2.2.2.2.2.1.ptr x17.2.2.2.2.2.2.1.len x17.2.2.2.2.2.2.1.cap),(.slice x17.2.2.2.2.2.2.2.ptr x17.2.2.2.2.2.2.2.len x17.2.2.2.2.2.2.2.cap)]∧
 ae Tryz.prog 29 #[(.agg #[(.int .i64 x17.1),(.int .i64 x17.2.1),(.int .i64 x17.2.2.1),(.int .i64 x17.2.2.2.1),(.int .i64 x17.2.2.2.2.1),(.int .i64 x17.2.2.2.2.2.1),(.slice x17.2.2.2.2.2.2.1.ptr x17.2.2.2.2.2.2.1.len x17.2.2.2.2.2.2.1.cap),(.slice x17.2.2.2.2.2.2.2.ptr x17.2.2.2.2.2.2.2.len x17.2.2.2.2.2.2.2.cap)])] (.one (.sc .slc)) h8 fun r18 h9=>
 (au.ok [(a14.add (x13.toNat*1),(.int .i64 x15))] h9)∧
 Br (decide (x15<((r18.len:Nat):Int)))
 (R (.tuple #[(.pointer none),(.int .i64 (7:Int))]) h9)
 (K3 (IntKind.wrap .i64 (s11+(1:Int))) h9))
 (aO (σ:=Int) (fun s19 K4 h10=>
 Br (decide (s19<((r2.1.len:Nat):Int)))
 (∃a20:Addr,(r2.1.ptr=some a20∧0≤s19∧s19<((r2.1.len:Nat):Int))∧
 ∃x21:Int,cellOf h10 (a20.add (s19.toNat*1))=some (.int .i64 x21)∧
 ∃a22:Addr,(cells_3.ptr=some a22∧0≤x21∧x21<((cells_3.len:Nat):Int))∧
 ∃x23:Int,cellOf h10 (a22.add (x21.toNat*1))=some (.int .i64 x23)∧
 ∃a24:Addr,(s10=some a24)∧
 ae Tryz.prog 30 #[(.int .i64 x23),(.pointer pw_2)] (.one (.sc .ptr)) h10 fun r25 h11=>
 (au.ok [] h11)∧
 (0≤x21∧x21<((64:Nat):Int))∧
 af Tryz.prog (Instr.storeAt 37 (.pointer (some ((a24.add 10).add (x21.toNat*1)))) (.pointer r25)) h11 fun _ h12=>
 (au.ok [] h12)∧
 K4 (IntKind.wrap .i64 (s19+(1:Int))) h12)
 (∃a26:Addr,(s10=some a26)∧
 ∃x27:Int×Int×Int×Int×Int×Int×Sl×Sl,ai h10 a26 0 [(.int .i64 x27.1),(.int .i64 x27.2.1),(.int .i64 x27.2.2.1),(.int .i64 x27.2.2.2.1),(.int .i64 x27.2.2.2.2.1),(.int .i64 x27.2.2.2.2.2.1),(.slice x27.2.2.2.2.2.2.1.ptr x27.2.2.2.2.2.2.1.len x27.2.2.2.2.2.2.1.cap),(.slice x27.2.2.2.2.2.2.2.ptr x27.2.2.2.2.2.2.2.len x27.2.2.2.2.2.2.2.cap)]∧
 ae Tryz.prog 32 #[(.agg #[(.int .i64 x27.1),(.int .i64 x27.2.1),(.int .i64 x27.2.2.1),(.int .i64 x27.2.2.2.1),(.int .i64 x27.2.2.2.2.1),(.int .i64 x27.2.2.2.2.2.1),(.slice x27.2.2.2.2.2.2.1.ptr x27.2.2.2.2.2.2.1.len x27.2.2.2.2.2.2.1.cap),(.slice x27.2.2.2.2.2.2.2.ptr x27.2.2.2.2.2.2.2.len x27.2.2.2.2.2.2.2.cap)]),(.slice r2.1.ptr r2.1.len r2.1.cap)] (.one (.sc .slc)) h10 fun r28 h13=>
 ae Tryz.prog 31 #[(.func (.func 12) #[(.pointer s10)] #[]),(.slice r28.ptr r28.len r28.cap)] (.one (.sc (.int .i64))) h13 fun r29 h14=>
 Br (r29 !=(0:Int))
 (R (.tuple #[(.pointer none),(.int .i64 r29)]) h14)
 (R (.tuple #[(.pointer s10),(.int .i64 (0:Int))]) h14))) (0:Int) h8)) (0:Int) h7)
 (fun K2=>
 ∃x6:Int×Int×Int,ai h4 a1 0 [(.int .i64 x6.1),(.int .i64 x6.2.1),(.int .i64 x6.2.2)]∧
 ae Tryz.prog 28 #[(.pointer pw_2)] (.one (.sc (.int .i64))) h4 fun r7 h5=>
 (au.ok [(a1,(.int .i64 x6.1)),(a1.add 1,(.int .i64 x6.2.1)),(a1.add 2,(.int .i64 x6.2.2))] h5)∧
 ∃v8:Value,(ar Tryz.prog (Instr.build 64 #[(0,(.agg #[(.int .i64 (1:Int)),(.int .i64 (0:Int)),(.int .i64 x6.1),(.int .i64 x6.2.1),(.int .i64 x6.2.2),(.int .i64 extra_1),(.slice r2.1.ptr r2.1.len r2.1.cap),(.slice none 0 0)])),(1,(.pointer pw_2)),(2,(.int .i64 r7))]) v8)∧
 aN Tryz.prog (Instr.box 64 v8) h5 fun a9 h6=>
 (au.ok [(a1,(.int .i64 x6.1)),(a1.add 1,(.int .i64 x6.2.1)),(a1.add 2,(.int .i64 x6.2.2))] h6)∧
 K2 (some a9) h6))
 (fun K1=>
 Br (!r2.2) (R (.tuple #[(.pointer none),(.int .i64 (1:Int))]) h2) (∃x3:Int×Int×Int,ai h2 a1 0 [(.int .i64 x3.1),(.int .i64 x3.2.1),(.int .i64 x3.2.2)]∧
 ae Tryz.prog 27 #[(.agg #[(.int .i64 x3.1),(.int .i64 x3.2.1),(.int .i64 x3.2.2)])] (.one (.sc .bool)) h2 fun r4 h3=>
 Br (!r4) (R (.tuple #[(.pointer none),(.int .i64 (1:Int))]) h3) (Br (decide (extra_1<(0:Int))) (R (.tuple #[(.pointer none),(.int .i64 (1:Int))]) h3) (Br (decide (extra_1>(16:Int))) (R (.tuple #[(.pointer none),(.int .i64 (1:Int))]) h3) (Br (Option.isNone pw_2)
 (R (.tuple #[(.pointer none),(.int .i64 (1:Int))]) h3)
 (K1 () h3))))))
theorem w7 (p_0:Int×Int×Int) (extra_1:Int) (pw_2:Option Addr) (cells_3:Sl) {R:Value→Heap→Prop} {h:Heap} (hm:p8 p_0 extra_1 pw_2 cells_3 R h):ab Tryz.prog 6 #[(.agg #[(.int .i64 p_0.1),(.int .i64 p_0.2.1),(.int .i64 p_0.2.2)]),(.int .i64 extra_1),(.pointer pw_2),(.slice cells_3.ptr cells_3.len cells_3.cap)] h R:=al ag Tryz.func6 (.two .n (.two .n (.two (.join [] [(8,10),(23,42)] .n) (.two (.join [(12,(.sc .ptr))] [(12,13),(42,51)] .n) (.two (.two .n (.inn (.loop [(53,(.sc (.int .i64)))] [(8,10),(14,15),(53,69)] .n))) (.two (.two .n (.inn (.loop [(71,(.sc (.int .i64)))] [(16,17),(71,87)] .n))) .n)))))) hm
abbrev Dy:FuncId:=7
noncomputable def vY (R:Value→Heap→Prop) (h:Heap):Prop:=
 aN Tryz.prog (Instr.box 72 (.agg #[(.bool false),(.bool false),(.int .i64 (0:Int)),(.int .i64 (0:Int))])) h fun a1 h1=>
 R (.pointer (some a1)) h1
theorem BX {R:Value→Heap→Prop} {h:Heap} (hm:vY R h):ab Tryz.prog 7 #[] h R:=al ag Tryz.func7 .n hm
abbrev nU:FuncId:=8
noncomputable def jE (x_0:Int) (n_1:Int) (R:Value→Heap→Prop) (h:Heap):Prop:=
 (n_1≠0)∧
 aX (σ:=Int) (fun s1 h1=>
 R (.int .i64 s1) h1)
 (fun K1=>
 Br (decide ((Int.tmod x_0 n_1)<(0:Int)))
 (K1 (IntKind.wrap .i64 ((Int.tmod x_0 n_1)+n_1)) h)
 (K1 (Int.tmod x_0 n_1) h))
theorem np (x_0:Int) (n_1:Int) {R:Value→Heap→Prop} {h:Heap} (hm:jE x_0 n_1 R h):ab Tryz.prog 8 #[(.int .i64 x_0),(.int .i64 n_1)] h R:=al ag Tryz.func8 (.two .n (.two .n (.two (.join [(0,(.sc (.int .i64)))] [(0,1),(8,13)] .n) .n))) hm
abbrev jf:FuncId:=9
noncomputable def py (s_0:Option Addr) (slot_1:Int) (cells_2:Int) (R:Value→Heap→Prop) (h:Heap):Prop:=
 ae Tryz.prog 33 #[(.pointer s_0)] (.one (.sc .bool)) h fun r1 h1=>
 Br r1
 (R (.int .i64 (14:Int)) h1)
 (ae Tryz.prog 14 #[(.pointer s_0)] (.one (.agg [(.int .i64),(.int .i64),(.int .i64),(.int .i64),(.int .i64),(.int .i64),.slc,.slc])) h1 fun r2 h2=>
 aN Tryz.prog (Instr.alloc 42 true (.tuple #[])) h2 fun a3 h3=>
 af Tryz.prog (Instr.storeAt 42 (.pointer (some a3)) (.agg #[(.int .i64 r2.1),(.int .i64 r2.2.1),(.int .i64 r2.2.2.1),(.int .i64 r2.2.2.2.1),(.int .i64 r2.2.2.2.2.1),(.int .i64 r2.2.2.2.2.2.1),(.slice r2.2.2.2.2.2.2.1.ptr r2.2.2.2.2.2.2.1.len r2.2.2.2.2.2.2.1.cap),(.slice r2.2.2.2.2.2.2.2.ptr r2.2.2.2.2.2.2.2.len r2.2.2.2.2.2.2.2.cap)])) h3 fun _ h4=>
 ae Tryz.prog 34 #[(.int .i64 slot_1),(.int .i64 cells_2)] (.one (.sc .bool)) h4 fun r4 h5=>
 Br (!r4)
 (R (.int .i64 (1:Int)) h5)
 (∃x5:Sl,cellOf h5 (a3.add 6)=some (.slice x5.ptr x5.len x5.cap)∧
 ae Tryz.prog 35 #[(.slice x5.ptr x5.len x5.cap),(.int .i64 slot_1)] (.one (.sc .bool)) h5 fun r6 h6=>
 Br r6
 (R (.int .i64 (4:Int)) h6)
 (∃x7:Int,cellOf h6 a3=some (.int .i64 x7)∧
 Br (decide (x7≥(2147483647:Int)))
 (R (.int .i64 (7:Int)) h6)
 (ae Tryz.prog 37 #[(.pointer s_0)] (.one (.sc .ptr)) h6 fun r8 h7=>
 ae Tryz.prog 30 #[(.int .i64 cells_2),(.pointer r8)] (.one (.sc .ptr)) h7 fun r9 h8=>
 ae Tryz.prog 36 #[(.pointer s_0),(.int .i64 slot_1),(.pointer r9)] (.many []) h8 fun _ h9=>
 ∃x11:Int,cellOf h9 a3=some (.int .i64 x11)∧
 af Tryz.prog (Instr.storeAt 3 (.pointer (some a3)) (.int .i64 (IntKind.wrap .i64 (x11+(1:Int))))) h9 fun _ h10=>
 ∃x12:Sl,cellOf h10 (a3.add 6)=some (.slice x12.ptr x12.len x12.cap)∧
 av Tryz.prog (Instr.buildSlice 22 1 #[(0,(.int .i64 slot_1))]) (.one (.sc .slc)) h10 fun v13 h11=>
 av Tryz.prog (Builtin.append_ #[22,22] 22 #[(.slice x12.ptr x12.len x12.cap),(.slice v13.ptr v13.len v13.cap)]) (.one (.sc .slc)) h11 fun v14 h12=>
 af Tryz.prog (Instr.storeAt 22 (.pointer (some (a3.add 6))) (.slice v14.ptr v14.len v14.cap)) h12 fun _ h13=>
 ∃x15:Sl,cellOf h13 (a3.add 6)=some (.slice x15.ptr x15.len x15.cap)∧
 ae Tryz.prog 38 #[(.slice x15.ptr x15.len x15.cap)] (.many []) h13 fun _ h14=>
 ∃x17:Int×Int×Int×Int×Int×Int×Sl×Sl,ai h14 a3 0 [(.int .i64 x17.1),(.int .i64 x17.2.1),(.int .i64 x17.2.2.1),(.int .i64 x17.2.2.2.1),(.int .i64 x17.2.2.2.2.1),(.int .i64 x17.2.2.2.2.2.1),(.slice x17.2.2.2.2.2.2.1.ptr x17.2.2.2.2.2.2.1.len x17.2.2.2.2.2.2.1.cap),(.slice x17.2.2.2.2.2.2.2.ptr x17.2.2.2.2.2.2.2.len x17.2.2.2.2.2.2.2.cap)]∧
 ae Tryz.prog 39 #[(.pointer s_0),(.agg #[(.int .i64 x17.1),(.int .i64 x17.2.1),(.int .i64 x17.2.2.1),(.int .i64 x17.2.2.2.1),(.int .i64 x17.2.2.2.2.1),(.int .i64 x17.2.2.2.2.2.1),(.slice x17.2.2.2.2.2.2.1.ptr x17.2.2.2.2.2.2.1.len x17.2.2.2.2.2.2.1.cap),(.slice x17.2.2.2.2.2.2.2.ptr x17.2.2.2.2.2.2.2.len x17.2.2.2.2.2.2.2.cap)])] (.one (.sc (.int .i64))) h14 fun r18 h15=>
 aX (σ:=Unit) (fun _ h17=>
 R (.int .i64 r18) h17)
 (fun K1=>
 Br (r18==(7:Int))
 (ae Tryz.prog 36 #[(.pointer s_0),(.int .i64 slot_1),(.pointer none)] (.many []) h15 fun _ h16=>
 K1 () h16)
 (K1 () h15))))))
theorem rZ (s_0:Option Addr) (slot_1:Int) (cells_2:Int) {R:Value→Heap→Prop} {h:Heap} (hm:py s_0 slot_1 cells_2 R h):ab Tryz.prog 9 #[(.pointer s_0),(.int .i64 slot_1),(.int .i64 cells_2)] h R:=al ag Tryz.func9 (.two .n (.two .n (.two .n (.two .n (.two .n (.two .n (.two .n (.two .n (.two .n (.two (.join [] [(50,55)] .n) .n)))))))))) hm
abbrev mK:FuncId:=10
noncomputable def iT (a_0:Sl) (b_1:Sl) (R:Value→Heap→Prop) (h:Heap):Prop:=
 Br (((a_0.len:Nat):Int) !=((b_1.len:Nat):Int))
 (R (.bool false) h)
 (aO (σ:=Int) (fun s1 K1 h1=>
 Br (decide (s1<((a_0.len:Nat):Int)))
 (∃a2:Addr,(a_0.ptr=some a2∧0≤s1∧s1<((a_0.len:Nat):Int))∧
 ∃x3:Int,cellOf h1 (a2.add (s1.toNat*1))=some (.int .i64 x3)∧
 ∃a4:Addr,(b_1.ptr=some a4∧0≤s1∧s1<((b_1.len:Nat):Int))∧
 ∃x5:Int,cellOf h1 (a4.add (s1.toNat*1))=some (.int .i64 x5)∧
 Br (x3 !=x5)
 (R (.bool false) h1)
 (K1 (IntKind.wrap .i64 (s1+(1:Int))) h1))
 (R (.bool true) h1)) (0:Int) h)
theorem mh (a_0:Sl) (b_1:Sl) {R:Value→Heap→Prop} {h:Heap} (hm:iT a_0 b_1 R h):ab Tryz.prog 10 #[(.slice a_0.ptr a_0.len a_0.cap),(.slice b_1.ptr b_1.len b_1.cap)] h R:=al ag Tryz.func10 (.two .n (.two .n (.two (.two .n (.inn (.loop [(13,(.sc (.int .i64)))] [(4,6),(13,26)] .n))) .n))) hm
abbrev kY:FuncId:=11
noncomputable def mi (s_0:Option Addr) (R:Value→Heap→Prop) (h:Heap):Prop:=
 Br (Option.isNone s_0)
 (R (.slice none 0 0) h)
 (∃a1:Addr,(s_0=some a1)∧
 ∃x2:Sl,cellOf h (a1.add 6)=some (.slice x2.ptr x2.len x2.cap)∧
 ae Tryz.prog 40 #[(.func (.func 12) #[(.pointer s_0)] #[]),(.slice x2.ptr x2.len x2.cap)] (.one (.sc .slc)) h fun r3 h1=>
 R (.slice r3.ptr r3.len r3.cap) h1)
theorem rp (s_0:Option Addr) {R:Value→Heap→Prop} {h:Heap} (hm:mi s_0 R h):ab Tryz.prog 11 #[(.pointer s_0)] h R:=al ag Tryz.func11 .n hm
abbrev cr:FuncId:=12
noncomputable def kZ (s_0:Option Addr) (slot_1:Int) (R:Value→Heap→Prop) (h:Heap):Prop:=
 aX (σ:=Unit) (fun _ h1=>
 ∃a2:Addr,(s_0=some a2)∧
 (0≤slot_1∧slot_1<((64:Nat):Int))∧
 ∃x3:Option Addr,cellOf h1 ((a2.add 10).add (slot_1.toNat*1))=some (.pointer x3)∧
 R (.pointer x3) h1)
 (fun K1=>
 Br (Option.isNone s_0) (R (.pointer none) h) (Br (decide (slot_1<(0:Int))) (R (.pointer none) h) (Br (decide (slot_1≥(64:Int)))
 (R (.pointer none) h)
 (K1 () h))))
theorem p9 (s_0:Option Addr) (slot_1:Int) {R:Value→Heap→Prop} {h:Heap} (hm:kZ s_0 slot_1 R h):ab Tryz.prog 12 #[(.pointer s_0),(.int .i64 slot_1)] h R:=al ag Tryz.func12 (.two .n (.two (.join [] [(4,15)] .n) .n)) hm
abbrev lf:FuncId:=13
noncomputable def mj (d_0:Option Addr) (R:Value→Heap→Prop) (h:Heap):Prop:=
 Br (Option.isNone d_0)
 (R (.int .i64 (0:Int)) h)
 (∃a1:Addr,(d_0=some a1)∧
 ∃x2:Int,cellOf h (a1.add 1)=some (.int .i64 x2)∧
 R (.int .i64 x2) h)
theorem rq (d_0:Option Addr) {R:Value→Heap→Prop} {h:Heap} (hm:mj d_0 R h):ab Tryz.prog 13 #[(.pointer d_0)] h R:=al ag Tryz.func13 .n hm
abbrev gi:FuncId:=14
noncomputable def gI (s_0:Option Addr) (R:Value→Heap→Prop) (h:Heap):Prop:=
 aN Tryz.prog (Instr.alloc 42 true (.tuple #[])) h fun a1 h1=>
 Br (Option.isNone s_0)
 (af Tryz.prog (Instr.storeAt 42 (.pointer (some a1)) (.agg #[(.int .i64 (0:Int)),(.int .i64 (0:Int)),(.int .i64 (0:Int)),(.int .i64 (0:Int)),(.int .i64 (0:Int)),(.int .i64 (0:Int)),(.slice none 0 0),(.slice none 0 0)])) h1 fun _ h2=>
 ∃res2:Int×Int×Int×Int×Int×Int×Sl×Sl,ai h2 a1 0 [(.int .i64 res2.1),(.int .i64 res2.2.1),(.int .i64 res2.2.2.1),(.int .i64 res2.2.2.2.1),(.int .i64 res2.2.2.2.2.1),(.int .i64 res2.2.2.2.2.2.1),(.slice res2.2.2.2.2.2.2.1.ptr res2.2.2.2.2.2.2.1.len res2.2.2.2.2.2.2.1.cap),(.slice res2.2.2.2.2.2.2.2.ptr res2.2.2.2.2.2.2.2.len res2.2.2.2.2.2.2.2.cap)]∧
 R (.agg #[(.int .i64 res2.1),(.int .i64 res2.2.1),(.int .i64 res2.2.2.1),(.int .i64 res2.2.2.2.1),(.int .i64 res2.2.2.2.2.1),(.int .i64 res2.2.2.2.2.2.1),(.slice res2.2.2.2.2.2.2.1.ptr res2.2.2.2.2.2.2.1.len res2.2.2.2.2.2.2.1.cap),(.slice res2.2.2.2.2.2.2.2.ptr res2.2.2.2.2.2.2.2.len res2.2.2.2.2.2.2.2.cap)]) h2)
 (∃a3:Addr,(s_0=some a3)∧
 ∃x4:Int×Int×Int×Int×Int×Int×Sl×Sl,ai h1 a3 0 [(.int .i64 x4.1),(.int .i64 x4.2.1),(.int .i64 x4.2.2.1),(.int .i64 x4.2.2.2.1),(.int .i64 x4.2.2.2.2.1),(.int .i64 x4.2.2.2.2.2.1),(.slice x4.2.2.2.2.2.2.1.ptr x4.2.2.2.2.2.2.1.len x4.2.2.2.2.2.2.1.cap),(.slice x4.2.2.2.2.2.2.2.ptr x4.2.2.2.2.2.2.2.len x4.2.2.2.2.2.2.2.cap)]∧
 ae Tryz.prog 41 #[(.agg #[(.int .i64 x4.1),(.int .i64 x4.2.1),(.int .i64 x4.2.2.1),(.int .i64 x4.2.2.2.1),(.int .i64 x4.2.2.2.2.1),(.int .i64 x4.2.2.2.2.2.1),(.slice x4.2.2.2.2.2.2.1.ptr x4.2.2.2.2.2.2.1.len x4.2.2.2.2.2.2.1.cap),(.slice x4.2.2.2.2.2.2.2.ptr x4.2.2.2.2.2.2.2.len x4.2.2.2.2.2.2.2.cap)])] (.one (.agg [(.int .i64),(.int .i64),(.int .i64),(.int .i64),(.int .i64),(.int .i64),.slc,.slc])) h1 fun r5 h3=>
 af Tryz.prog (Instr.storeAt 42 (.pointer (some a1)) (.agg #[(.int .i64 r5.1),(.int .i64 r5.2.1),(.int .i64 r5.2.2.1),(.int .i64 r5.2.2.2.1),(.int .i64 r5.2.2.2.2.1),(.int .i64 r5.2.2.2.2.2.1),(.slice r5.2.2.2.2.2.2.1.ptr r5.2.2.2.2.2.2.1.len r5.2.2.2.2.2.2.1.cap),(.slice r5.2.2.2.2.2.2.2.ptr r5.2.2.2.2.2.2.2.len r5.2.2.2.2.2.2.2.cap)])) h3 fun _ h4=>
 ∃res6:Int×Int×Int×Int×Int×Int×Sl×Sl,ai h4 a1 0 [(.int .i64 res6.1),(.int .i64 res6.2.1),(.int .i64 res6.2.2.1),(.int .i64 res6.2.2.2.1),(.int .i64 res6.2.2.2.2.1),(.int .i64 res6.2.2.2.2.2.1),(.slice res6.2.2.2.2.2.2.1.ptr res6.2.2.2.2.2.2.1.len res6.2.2.2.2.2.2.1.cap),(.slice res6.2.2.2.2.2.2.2.ptr res6.2.2.2.2.2.2.2.len res6.2.2.2.2.2.2.2.cap)]∧
 R (.agg #[(.int .i64 res6.1),(.int .i64 res6.2.1),(.int .i64 res6.2.2.1),(.int .i64 res6.2.2.2.1),(.int .i64 res6.2.2.2.2.1),(.int .i64 res6.2.2.2.2.2.1),(.slice res6.2.2.2.2.2.2.1.ptr res6.2.2.2.2.2.2.1.len res6.2.2.2.2.2.2.1.cap),(.slice res6.2.2.2.2.2.2.2.ptr res6.2.2.2.2.2.2.2.len res6.2.2.2.2.2.2.2.cap)]) h4)
theorem jg (s_0:Option Addr) {R:Value→Heap→Prop} {h:Heap} (hm:gI s_0 R h):ab Tryz.prog 14 #[(.pointer s_0)] h R:=al ag Tryz.func14 .n hm
abbrev mL:FuncId:=15
noncomputable def ud (d_0:Option Addr) (m_1:Int×Int×Int×Int×Int×Int×Sl×Sl) (R:Value→Heap→Prop) (h:Heap):Prop:=
 aN Tryz.prog (Instr.box 42 (.agg #[(.int .i64 m_1.1),(.int .i64 m_1.2.1),(.int .i64 m_1.2.2.1),(.int .i64 m_1.2.2.2.1),(.int .i64 m_1.2.2.2.2.1),(.int .i64 m_1.2.2.2.2.2.1),(.slice m_1.2.2.2.2.2.2.1.ptr m_1.2.2.2.2.2.2.1.len m_1.2.2.2.2.2.2.1.cap),(.slice m_1.2.2.2.2.2.2.2.ptr m_1.2.2.2.2.2.2.2.len m_1.2.2.2.2.2.2.2.cap)])) h fun a1 h1=>
 ∃x2:Int×Int×Int×Int×Int×Int×Sl×Sl,ai h1 a1 0 [(.int .i64 x2.1),(.int .i64 x2.2.1),(.int .i64 x2.2.2.1),(.int .i64 x2.2.2.2.1),(.int .i64 x2.2.2.2.2.1),(.int .i64 x2.2.2.2.2.2.1),(.slice x2.2.2.2.2.2.2.1.ptr x2.2.2.2.2.2.2.1.len x2.2.2.2.2.2.2.1.cap),(.slice x2.2.2.2.2.2.2.2.ptr x2.2.2.2.2.2.2.2.len x2.2.2.2.2.2.2.2.cap)]∧
 ae Tryz.prog 42 #[(.agg #[(.int .i64 x2.1),(.int .i64 x2.2.1),(.int .i64 x2.2.2.1),(.int .i64 x2.2.2.2.1),(.int .i64 x2.2.2.2.2.1),(.int .i64 x2.2.2.2.2.2.1),(.slice x2.2.2.2.2.2.2.1.ptr x2.2.2.2.2.2.2.1.len x2.2.2.2.2.2.2.1.cap),(.slice x2.2.2.2.2.2.2.2.ptr x2.2.2.2.2.2.2.2.len x2.2.2.2.2.2.2.2.cap)])] (.one (.sc .bool)) h1 fun r3 h2=>
 Br (!r3)
 (R (.bool false) h2)
 (ae Tryz.prog 43 #[(.pointer d_0)] (.one (.sc .slc)) h2 fun r4 h3=>
 ∃x5:Int×Int×Int×Int×Int×Int×Sl×Sl,ai h3 a1 0 [(.int .i64 x5.1),(.int .i64 x5.2.1),(.int .i64 x5.2.2.1),(.int .i64 x5.2.2.2.1),(.int .i64 x5.2.2.2.2.1),(.int .i64 x5.2.2.2.2.2.1),(.slice x5.2.2.2.2.2.2.1.ptr x5.2.2.2.2.2.2.1.len x5.2.2.2.2.2.2.1.cap),(.slice x5.2.2.2.2.2.2.2.ptr x5.2.2.2.2.2.2.2.len x5.2.2.2.2.2.2.2.cap)]∧
 ae Tryz.prog 29 #[(.agg #[(.int .i64 x5.1),(.int .i64 x5.2.1),(.int .i64 x5.2.2.1),(.int .i64 x5.2.2.2.1),(.int .i64 x5.2.2.2.2.1),(.int .i64 x5.2.2.2.2.2.1),(.slice x5.2.2.2.2.2.2.1.ptr x5.2.2.2.2.2.2.1.len x5.2.2.2.2.2.2.1.cap),(.slice x5.2.2.2.2.2.2.2.ptr x5.2.2.2.2.2.2.2.len x5.2.2.2.2.2.2.2.cap)])] (.one (.sc .slc)) h3 fun r6 h4=>
 aO (σ:=Int) (fun s7 K1 h5=>
 Br (decide (s7<((r6.len:Nat):Int)))
 (∃a8:Addr,(r6.ptr=some a8∧0≤s7∧s7<((r6.len:Nat):Int))∧
 ∃x9:Sl,cellOf h5 (a8.add (s7.toNat*1))=some (.slice x9.ptr x9.len x9.cap)∧
 aN Tryz.prog (Instr.alloc 46 true (.tuple #[])) h5 fun a10 h6=>
 af Tryz.prog (Instr.storeAt 46 (.pointer (some a10)) (.slice x9.ptr x9.len x9.cap)) h6 fun _ h7=>
 ae Tryz.prog 44 #[(.slice r4.ptr r4.len r4.cap),(.func (.func 45) #[] #[(.pointer (some a10))])] (.one (.sc .bool)) h7 fun r11 h8=>
 Br (!r11)
 (R (.bool false) h8)
 (K1 (IntKind.wrap .i64 (s7+(1:Int))) h8))
 (R (.bool true) h5)) (0:Int) h4)
theorem Ae (d_0:Option Addr) (m_1:Int×Int×Int×Int×Int×Int×Sl×Sl) {R:Value→Heap→Prop} {h:Heap} (hm:ud d_0 m_1 R h):ab Tryz.prog 15 #[(.pointer d_0),(.agg #[(.int .i64 m_1.1),(.int .i64 m_1.2.1),(.int .i64 m_1.2.2.1),(.int .i64 m_1.2.2.2.1),(.int .i64 m_1.2.2.2.2.1),(.int .i64 m_1.2.2.2.2.2.1),(.slice m_1.2.2.2.2.2.2.1.ptr m_1.2.2.2.2.2.2.1.len m_1.2.2.2.2.2.2.1.cap),(.slice m_1.2.2.2.2.2.2.2.ptr m_1.2.2.2.2.2.2.2.len m_1.2.2.2.2.2.2.2.cap)])] h R:=al ag Tryz.func15 (.two .n (.two .n (.two .n (.two (.two .n (.inn (.loop [(16,(.sc (.int .i64)))] [(4,5),(7,8),(16,25)] .n))) .n)))) hm
abbrev ml:FuncId:=16
noncomputable def mR (s_0:Option Addr) (name_1:ByteArray) (b_2:Sl) (R:Value→Heap→Prop) (h:Heap):Prop:=
 ae Tryz.prog 47 #[(.pointer s_0),(.string name_1),(.slice b_2.ptr b_2.len b_2.cap)] (.one (.sc (.int .i64))) h fun r1 h1=>
 Br (r1 !=(0:Int))
 (R (.int .i64 r1) h1)
 (∃a2:Addr,(s_0=some a2)∧
 ∃x3:Int,cellOf h1 (a2.add 1)=some (.int .i64 x3)∧
 aN Tryz.prog (Instr.alloc 89 true (.tuple #[])) h1 fun a4 h2=>
 af Tryz.prog (Instr.storeAt 89 (.pointer (some a4)) (.agg #[(.string name_1),(.int .i64 x3),(.int .i64 ((b_2.len:Nat):Int)),(.slice none 0 0)])) h2 fun _ h3=>
 aX (σ:=Sl×Bool) (fun s12 h6=>
 Br (!s12.2)
 (R (.int .i64 (8:Int)) h6)
 (af Tryz.prog (Instr.storeAt 22 (.pointer (some (a4.add 3))) (.slice s12.1.ptr s12.1.len s12.1.cap)) h6 fun _ h7=>
 ∃x13:ByteArray×Int×Int×Sl,ai h7 a4 0 [(.string x13.1),(.int .i64 x13.2.1),(.int .i64 x13.2.2.1),(.slice x13.2.2.2.ptr x13.2.2.2.len x13.2.2.2.cap)]∧
 ae Tryz.prog 50 #[(.pointer s_0),(.agg #[(.string x13.1),(.int .i64 x13.2.1),(.int .i64 x13.2.2.1),(.slice x13.2.2.2.ptr x13.2.2.2.len x13.2.2.2.cap)]),(.slice b_2.ptr b_2.len b_2.cap)] (.many [(.sc .slc),(.sc .bool)]) h7 fun r14 h8=>
 aN Tryz.prog (Instr.alloc 69 true (.tuple #[])) h8 fun a15 h9=>
 af Tryz.prog (Instr.storeAt 69 (.pointer (some a15)) (.slice r14.1.ptr r14.1.len r14.1.cap)) h9 fun _ h10=>
 Br (!r14.2)
 (R (.int .i64 (8:Int)) h10)
 (aX (σ:=Addr×Sl) (fun s27 h22=>
 ∃x28:Int×Int×Int×Int×Int×Int×Sl×Sl,ai h22 s27.1 0 [(.int .i64 x28.1),(.int .i64 x28.2.1),(.int .i64 x28.2.2.1),(.int .i64 x28.2.2.2.1),(.int .i64 x28.2.2.2.2.1),(.int .i64 x28.2.2.2.2.2.1),(.slice x28.2.2.2.2.2.2.1.ptr x28.2.2.2.2.2.2.1.len x28.2.2.2.2.2.2.1.cap),(.slice x28.2.2.2.2.2.2.2.ptr x28.2.2.2.2.2.2.2.len x28.2.2.2.2.2.2.2.cap)]∧
 ae Tryz.prog 29 #[(.agg #[(.int .i64 x28.1),(.int .i64 x28.2.1),(.int .i64 x28.2.2.1),(.int .i64 x28.2.2.2.1),(.int .i64 x28.2.2.2.2.1),(.int .i64 x28.2.2.2.2.2.1),(.slice x28.2.2.2.2.2.2.1.ptr x28.2.2.2.2.2.2.1.len x28.2.2.2.2.2.2.1.cap),(.slice x28.2.2.2.2.2.2.2.ptr x28.2.2.2.2.2.2.2.len x28.2.2.2.2.2.2.2.cap)])] (.one (.sc .slc)) h22 fun r29 h23=>
 aN Tryz.prog (Instr.alloc 3 true (.tuple #[])) h23 fun a30 h24=>
 af Tryz.prog (Instr.storeAt 3 (.pointer (some a30)) (.int .i64 ((r29.len:Nat):Int))) h24 fun _ h25=>
 ae Tryz.prog 53 #[(.pointer s_0),(.slice s27.2.ptr s27.2.len s27.2.cap),(.func (.func 52) #[] #[(.pointer (some a30)),(.pointer (some a15))])] (.one (.sc .bool)) h25 fun r31 h26=>
 Br (!r31)
 (R (.int .i64 (7:Int)) h26)
 (ae Tryz.prog 54 #[(.pointer s_0),(.slice s27.2.ptr s27.2.len s27.2.cap),(.func (.func 52) #[] #[(.pointer (some a30)),(.pointer (some a15))])] (.one (.sc (.int .i64))) h26 fun r32 h27=>
 Br (r32 !=(0:Int))
 (R (.int .i64 r32) h27)
 (∃x33:Sl,cellOf h27 a15=some (.slice x33.ptr x33.len x33.cap)∧
 ae Tryz.prog 31 #[(.func (.func 12) #[(.pointer s_0)] #[]),(.slice x33.ptr x33.len x33.cap)] (.one (.sc (.int .i64))) h27 fun r34 h28=>
 Br (r34 !=(0:Int))
 (R (.int .i64 r34) h28)
 (∃x35:Int×Int×Int×Int×Int×Int×Sl×Sl,ai h28 s27.1 0 [(.int .i64 x35.1),(.int .i64 x35.2.1),(.int .i64 x35.2.2.1),(.int .i64 x35.2.2.2.1),(.int .i64 x35.2.2.2.2.1),(.int .i64 x35.2.2.2.2.2.1),(.slice x35.2.2.2.2.2.2.1.ptr x35.2.2.2.2.2.2.1.len x35.2.2.2.2.2.2.1.cap),(.slice x35.2.2.2.2.2.2.2.ptr x35.2.2.2.2.2.2.2.len x35.2.2.2.2.2.2.2.cap)]∧
 ae Tryz.prog 55 #[(.pointer s_0),(.agg #[(.int .i64 x35.1),(.int .i64 x35.2.1),(.int .i64 x35.2.2.1),(.int .i64 x35.2.2.2.1),(.int .i64 x35.2.2.2.2.1),(.int .i64 x35.2.2.2.2.2.1),(.slice x35.2.2.2.2.2.2.1.ptr x35.2.2.2.2.2.2.1.len x35.2.2.2.2.2.2.1.cap),(.slice x35.2.2.2.2.2.2.2.ptr x35.2.2.2.2.2.2.2.len x35.2.2.2.2.2.2.2.cap)]),(.slice s27.2.ptr s27.2.len s27.2.cap)] (.one (.sc (.int .i64))) h28 fun r36 h29=>
 R (.int .i64 r36) h29))))
 (fun K2=>
 ∃a16:Addr,(s_0=some a16)∧
 ∃x17:Int×Int×Int×Int×Int×Int×Sl×Sl,ai h10 a16 0 [(.int .i64 x17.1),(.int .i64 x17.2.1),(.int .i64 x17.2.2.1),(.int .i64 x17.2.2.2.1),(.int .i64 x17.2.2.2.2.1),(.int .i64 x17.2.2.2.2.2.1),(.slice x17.2.2.2.2.2.2.1.ptr x17.2.2.2.2.2.2.1.len x17.2.2.2.2.2.2.1.cap),(.slice x17.2.2.2.2.2.2.2.ptr x17.2.2.2.2.2.2.2.len x17.2.2.2.2.2.2.2.cap)]∧
 ∃x18:ByteArray×Int×Int×Sl,ai h10 a4 0 [(.string x18.1),(.int .i64 x18.2.1),(.int .i64 x18.2.2.1),(.slice x18.2.2.2.ptr x18.2.2.2.len x18.2.2.2.cap)]∧
 (ae Tryz.prog 51 #[(.agg #[(.int .i64 x17.1),(.int .i64 x17.2.1),(.int .i64 x17.2.2.1),(.int .i64 x17.2.2.2.1),(.int .i64 x17.2.2.2.2.1),(.int .i64 x17.2.2.2.2.2.1),(.slice x17.2.2.2.2.2.2.1.ptr x17.2.2.2.2.2.2.1.len x17.2.2.2.2.2.2.1.cap),(.slice x17.2.2.2.2.2.2.2.ptr x17.2.2.2.2.2.2.2.len x17.2.2.2.2.2.2.2.cap)]),(.agg #[(.string x18.1),(.int .i64 x18.2.1),(.int .i64 x18.2.2.1),(.slice x18.2.2.2.ptr x18.2.2.2.len x18.2.2.2.cap)])] (.one (.agg [(.int .i64),(.int .i64),(.int .i64),(.int .i64),(.int .i64),(.int .i64),.slc,.slc])) h10 fun r19 h11=>
 (au.ok [] h11)∧
 (ae Tryz.prog 11 #[(.pointer s_0)] (.one (.sc .slc)) h11 fun r20 h12=>
 (au.ok [] h12)∧
 aN Tryz.prog (Instr.alloc 42 true (.tuple #[])) h12 fun a21 h13=>
 (au.ok [] h13)∧
 af Tryz.prog (Instr.storeAt 42 (.pointer (some a21)) (.agg #[(.int .i64 r19.1),(.int .i64 r19.2.1),(.int .i64 r19.2.2.1),(.int .i64 r19.2.2.2.1),(.int .i64 r19.2.2.2.2.1),(.int .i64 r19.2.2.2.2.2.1),(.slice r19.2.2.2.2.2.2.1.ptr r19.2.2.2.2.2.2.1.len r19.2.2.2.2.2.2.1.cap),(.slice r19.2.2.2.2.2.2.2.ptr r19.2.2.2.2.2.2.2.len r19.2.2.2.2.2.2.2.cap)])) h13 fun _ h14=>
 (au.ok [] h14)∧
 K2 (a21,(⟨r20.ptr,r20.len,r20.cap⟩:Sl)) h14)∧(aN Tryz.prog (Instr.alloc 42 true (.tuple #[])) h11 fun a22 h15=>
 (au.ok [] h15)∧
 ae Tryz.prog 11 #[(.pointer s_0)] (.one (.sc .slc)) h15 fun r23 h16=>
 (au.ok [] h16)∧
 af Tryz.prog (Instr.storeAt 42 (.pointer (some a22)) (.agg #[(.int .i64 r19.1),(.int .i64 r19.2.1),(.int .i64 r19.2.2.1),(.int .i64 r19.2.2.2.1),(.int .i64 r19.2.2.2.2.1),(.int .i64 r19.2.2.2.2.2.1),(.slice r19.2.2.2.2.2.2.1.ptr r19.2.2.2.2.2.2.1.len r19.2.2.2.2.2.2.1.cap),(.slice r19.2.2.2.2.2.2.2.ptr r19.2.2.2.2.2.2.2.len r19.2.2.2.2.2.2.2.cap)])) h16 fun _ h17=>
 (au.ok [] h17)∧
 K2 (a22,(⟨r23.ptr,r23.len,r23.cap⟩:Sl)) h17))∧(aN Tryz.prog (Instr.alloc 42 true (.tuple #[])) h10 fun a24 h18=>
 (au.ok [(a4,(.string x18.1)),(a4.add 1,(.int .i64 x18.2.1)),(a4.add 2,(.int .i64 x18.2.2.1)),(a4.add 3,(.slice x18.2.2.2.ptr x18.2.2.2.len x18.2.2.2.cap)),(a16,(.int .i64 x17.1)),(a16.add 1,(.int .i64 x17.2.1)),(a16.add 2,(.int .i64 x17.2.2.1)),(a16.add 3,(.int .i64 x17.2.2.2.1)),(a16.add 4,(.int .i64 x17.2.2.2.2.1)),(a16.add 5,(.int .i64 x17.2.2.2.2.2.1)),(a16.add 6,(.slice x17.2.2.2.2.2.2.1.ptr x17.2.2.2.2.2.2.1.len x17.2.2.2.2.2.2.1.cap)),(a16.add 7,(.slice x17.2.2.2.2.2.2.2.ptr x17.2.2.2.2.2.2.2.len x17.2.2.2.2.2.2.2.cap))] h18)∧
 ae Tryz.prog 51 #[(.agg #[(.int .i64 x17.1),(.int .i64 x17.2.1),(.int .i64 x17.2.2.1),(.int .i64 x17.2.2.2.1),(.int .i64 x17.2.2.2.2.1),(.int .i64 x17.2.2.2.2.2.1),(.slice x17.2.2.2.2.2.2.1.ptr x17.2.2.2.2.2.2.1.len x17.2.2.2.2.2.2.1.cap),(.slice x17.2.2.2.2.2.2.2.ptr x17.2.2.2.2.2.2.2.len x17.2.2.2.2.2.2.2.cap)]),(.agg #[(.string x18.1),(.int .i64 x18.2.1),(.int .i64 x18.2.2.1),(.slice x18.2.2.2.ptr x18.2.2.2.len x18.2.2.2.cap)])] (.one (.agg [(.int .i64),(.int .i64),(.int .i64),(.int .i64),(.int .i64),(.int .i64),.slc,.slc])) h18 fun r25 h19=>
 (au.ok [] h19)∧
 ae Tryz.prog 11 #[(.pointer s_0)] (.one (.sc .slc)) h19 fun r26 h20=>
 (au.ok [] h20)∧
 af Tryz.prog (Instr.storeAt 42 (.pointer (some a24)) (.agg #[(.int .i64 r25.1),(.int .i64 r25.2.1),(.int .i64 r25.2.2.1),(.int .i64 r25.2.2.2.1),(.int .i64 r25.2.2.2.2.1),(.int .i64 r25.2.2.2.2.2.1),(.slice r25.2.2.2.2.2.2.1.ptr r25.2.2.2.2.2.2.1.len r25.2.2.2.2.2.2.1.cap),(.slice r25.2.2.2.2.2.2.2.ptr r25.2.2.2.2.2.2.2.len r25.2.2.2.2.2.2.2.cap)])) h20 fun _ h21=>
 (au.ok [] h21)∧
 K2 (a24,(⟨r26.ptr,r26.len,r26.cap⟩:Sl)) h21)))))
 (fun K1=>
 ∃a5:Addr,(s_0=some a5)∧
 ∃x6:Int×Int×Int,ai h3 (a5.add 2) 0 [(.int .i64 x6.1),(.int .i64 x6.2.1),(.int .i64 x6.2.2)]∧
 ∃x7:Int,cellOf h3 (a4.add 1)=some (.int .i64 x7)∧
 ∃a8:Addr,(s_0=some a8)∧
 ∃x9:Int×Int×Int,ai h3 (a8.add 2) 0 [(.int .i64 x9.1),(.int .i64 x9.2.1),(.int .i64 x9.2.2)]∧
 ae Tryz.prog 49 #[(.agg #[(.int .i64 x9.1),(.int .i64 x9.2.1),(.int .i64 x9.2.2)]),(.int .i64 ((b_2.len:Nat):Int))] (.one (.sc (.int .i64))) h3 fun r10 h4=>
 (au.ok [(a4.add 1,(.int .i64 x7)),(a5.add 2,(.int .i64 x6.1)),((a5.add 2).add 1,(.int .i64 x6.2.1)),((a5.add 2).add 2,(.int .i64 x6.2.2))] h4)∧
 ae Tryz.prog 48 #[(.agg #[(.int .i64 x6.1),(.int .i64 x6.2.1),(.int .i64 x6.2.2)]),(.int .i64 x7),(.int .i64 r10)] (.many [(.sc .slc),(.sc .bool)]) h4 fun r11 h5=>
 (au.ok [] h5)∧
 K1 ((⟨r11.1.ptr,r11.1.len,r11.1.cap⟩:Sl),r11.2) h5))
theorem sI (s_0:Option Addr) (name_1:ByteArray) (b_2:Sl) {R:Value→Heap→Prop} {h:Heap} (hm:mR s_0 name_1 b_2 R h):ab Tryz.prog 16 #[(.pointer s_0),(.string name_1),(.slice b_2.ptr b_2.len b_2.cap)] h R:=al ag Tryz.func16 (.two .n (.two .n (.two .n (.two (.join [(9,(.sc .slc)),(10,(.sc .bool))] [(9,11),(34,53)] .n) (.two .n (.two .n (.two .n (.two .n (.two (.join [(12,(.sc .adr)),(13,(.sc .slc))] [(12,14),(66,74)] .n) .n))))))))) hm
abbrev pz:FuncId:=17
noncomputable def kg (n_0:Int) (x_1:Int) (R:Value→Heap→Prop) (h:Heap):Prop:=
 aO (σ:=Sl×Int) (fun s1 K1 h1=>
 Br (decide (s1.2<n_0))
 (((7:Int)≠0)∧
 (0≤(Int.tmod s1.2 (7:Int)))∧
 av Tryz.prog (Instr.buildSlice 46 1 #[(0,(.int .u8 (IntKind.wrap .u8 (IntKind.wrap .i64 ((Int.fdiv x_1 (2^min (Int.tmod s1.2 (7:Int)).toNat (IntKind.bits .i64)))+(IntKind.wrap .i64 (s1.2*(IntKind.wrap .i64 ((BitVec.ofInt (IntKind.bits .i64) x_1|||(BitVec.ofInt (IntKind.bits .i64) (1:Int))).toNat:Nat)))))))))]) (.one (.sc .slc)) h1 fun v2 h2=>
 av Tryz.prog (Builtin.append_ #[46,46] 46 #[(.slice s1.1.ptr s1.1.len s1.1.cap),(.slice v2.ptr v2.len v2.cap)]) (.one (.sc .slc)) h2 fun v3 h3=>
 K1 ((⟨v3.ptr,v3.len,v3.cap⟩:Sl),IntKind.wrap .i64 (s1.2+(1:Int))) h3)
 (R (.slice s1.1.ptr s1.1.len s1.1.cap) h1)) ((⟨none,0,0⟩:Sl),(0:Int)) h
theorem oB (n_0:Int) (x_1:Int) {R:Value→Heap→Prop} {h:Heap} (hm:kg n_0 x_1 R h):ab Tryz.prog 17 #[(.int .i64 n_0),(.int .i64 x_1)] h R:=al ag Tryz.func17 (.two .n (.two .n (.two (.two .n (.inn (.loop [(5,(.sc .slc)),(6,(.sc (.int .i64)))] [(5,25)] .n))) .n))) hm
abbrev oU:FuncId:=18
noncomputable def qc (d_0:Option Addr) (m_1:Int×Int×Int×Int×Int×Int×Sl×Sl) (R:Value→Heap→Prop) (h:Heap):Prop:=
 aN Tryz.prog (Instr.box 42 (.agg #[(.int .i64 m_1.1),(.int .i64 m_1.2.1),(.int .i64 m_1.2.2.1),(.int .i64 m_1.2.2.2.1),(.int .i64 m_1.2.2.2.2.1),(.int .i64 m_1.2.2.2.2.2.1),(.slice m_1.2.2.2.2.2.2.1.ptr m_1.2.2.2.2.2.2.1.len m_1.2.2.2.2.2.2.1.cap),(.slice m_1.2.2.2.2.2.2.2.ptr m_1.2.2.2.2.2.2.2.len m_1.2.2.2.2.2.2.2.cap)])) h fun a1 h1=>
 ae Tryz.prog 43 #[(.pointer d_0)] (.one (.sc .slc)) h1 fun r2 h2=>
 aO (σ:=Sl×Int) (fun s3 K1 h3=>
 Br (decide ((IntKind.wrap .i64 (s3.2+(1:Int)))≥((r2.len:Nat):Int)))
 (ae Tryz.prog 58 #[(.slice s3.1.ptr s3.1.len s3.1.cap),(.func (.func 59) #[] #[])] (.many []) h3 fun _ h4=>
 ae Tryz.prog 60 #[(.slice s3.1.ptr s3.1.len s3.1.cap),(.func (.func 61) #[] #[])] (.one (.sc .slc)) h4 fun r5 h5=>
 R (.slice r5.ptr r5.len r5.cap) h5)
 (aX (σ:=Sl) (fun s16 h12=>
 K1 ((⟨s16.ptr,s16.len,s16.cap⟩:Sl),IntKind.wrap .i64 (s3.2+(1:Int))) h12)
 (fun K2=>
 ∃a6:Addr,(r2.ptr=some a6∧0≤(IntKind.wrap .i64 (s3.2+(1:Int)))∧(IntKind.wrap .i64 (s3.2+(1:Int)))<((r2.len:Nat):Int))∧
 ∃x7:Sl,cellOf h3 (a6.add ((IntKind.wrap .i64 (s3.2+(1:Int))).toNat*1))=some (.slice x7.ptr x7.len x7.cap)∧
 ae Tryz.prog 56 #[(.slice x7.ptr x7.len x7.cap)] (.many [(.agg [(.int .i64),(.int .i64),(.int .i64),(.int .i64),(.int .i64),(.int .i64),(.int .u32),.slc]),(.sc .bool)]) h3 fun r8 h6=>
 aN Tryz.prog (Instr.alloc 103 true (.tuple #[])) h6 fun a9 h7=>
 af Tryz.prog (Instr.storeAt 103 (.pointer (some a9)) (.agg #[(.int .i64 r8.1.1),(.int .i64 r8.1.2.1),(.int .i64 r8.1.2.2.1),(.int .i64 r8.1.2.2.2.1),(.int .i64 r8.1.2.2.2.2.1),(.int .i64 r8.1.2.2.2.2.2.1),(.int .u32 r8.1.2.2.2.2.2.2.1),(.slice r8.1.2.2.2.2.2.2.2.ptr r8.1.2.2.2.2.2.2.2.len r8.1.2.2.2.2.2.2.2.cap)])) h7 fun _ h8=>
 Br r8.2 (∃x10:Int×Int×Int×Int×Int×Int×Sl×Sl,ai h8 a1 0 [(.int .i64 x10.1),(.int .i64 x10.2.1),(.int .i64 x10.2.2.1),(.int .i64 x10.2.2.2.1),(.int .i64 x10.2.2.2.2.1),(.int .i64 x10.2.2.2.2.2.1),(.slice x10.2.2.2.2.2.2.1.ptr x10.2.2.2.2.2.2.1.len x10.2.2.2.2.2.2.1.cap),(.slice x10.2.2.2.2.2.2.2.ptr x10.2.2.2.2.2.2.2.len x10.2.2.2.2.2.2.2.cap)]∧
 ∃x11:Int×Int×Int×Int×Int×Int×Int×Sl,ai h8 a9 0 [(.int .i64 x11.1),(.int .i64 x11.2.1),(.int .i64 x11.2.2.1),(.int .i64 x11.2.2.2.1),(.int .i64 x11.2.2.2.2.1),(.int .i64 x11.2.2.2.2.2.1),(.int .u32 x11.2.2.2.2.2.2.1),(.slice x11.2.2.2.2.2.2.2.ptr x11.2.2.2.2.2.2.2.len x11.2.2.2.2.2.2.2.cap)]∧
 ae Tryz.prog 57 #[(.agg #[(.int .i64 x10.1),(.int .i64 x10.2.1),(.int .i64 x10.2.2.1),(.int .i64 x10.2.2.2.1),(.int .i64 x10.2.2.2.2.1),(.int .i64 x10.2.2.2.2.2.1),(.slice x10.2.2.2.2.2.2.1.ptr x10.2.2.2.2.2.2.1.len x10.2.2.2.2.2.2.1.cap),(.slice x10.2.2.2.2.2.2.2.ptr x10.2.2.2.2.2.2.2.len x10.2.2.2.2.2.2.2.cap)]),(.agg #[(.int .i64 x11.1),(.int .i64 x11.2.1),(.int .i64 x11.2.2.1),(.int .i64 x11.2.2.2.1),(.int .i64 x11.2.2.2.2.1),(.int .i64 x11.2.2.2.2.2.1),(.int .u32 x11.2.2.2.2.2.2.1),(.slice x11.2.2.2.2.2.2.2.ptr x11.2.2.2.2.2.2.2.len x11.2.2.2.2.2.2.2.cap)])] (.one (.sc .bool)) h8 fun r12 h9=>
 Br r12
 (∃x13:Int×Int×Int×Int×Int×Int×Int×Sl,ai h9 a9 0 [(.int .i64 x13.1),(.int .i64 x13.2.1),(.int .i64 x13.2.2.1),(.int .i64 x13.2.2.2.1),(.int .i64 x13.2.2.2.2.1),(.int .i64 x13.2.2.2.2.2.1),(.int .u32 x13.2.2.2.2.2.2.1),(.slice x13.2.2.2.2.2.2.2.ptr x13.2.2.2.2.2.2.2.len x13.2.2.2.2.2.2.2.cap)]∧
 av Tryz.prog (Instr.buildSlice 48 1 #[(0,(.agg #[(.int .i64 x13.1),(.int .i64 x13.2.1),(.int .i64 x13.2.2.1),(.int .i64 x13.2.2.2.1),(.int .i64 x13.2.2.2.2.1),(.int .i64 x13.2.2.2.2.2.1),(.int .u32 x13.2.2.2.2.2.2.1),(.slice x13.2.2.2.2.2.2.2.ptr x13.2.2.2.2.2.2.2.len x13.2.2.2.2.2.2.2.cap)]))]) (.one (.sc .slc)) h9 fun v14 h10=>
 av Tryz.prog (Builtin.append_ #[48,48] 48 #[(.slice s3.1.ptr s3.1.len s3.1.cap),(.slice v14.ptr v14.len v14.cap)]) (.one (.sc .slc)) h10 fun v15 h11=>
 K2 (⟨v15.ptr,v15.len,v15.cap⟩:Sl) h11)
 (K2 (⟨s3.1.ptr,s3.1.len,s3.1.cap⟩:Sl) h9)) (K2 (⟨s3.1.ptr,s3.1.len,s3.1.cap⟩:Sl) h8)))) ((⟨none,0,0⟩:Sl),(-1:Int)) h2
theorem w8 (d_0:Option Addr) (m_1:Int×Int×Int×Int×Int×Int×Sl×Sl) {R:Value→Heap→Prop} {h:Heap} (hm:qc d_0 m_1 R h):ab Tryz.prog 18 #[(.pointer d_0),(.agg #[(.int .i64 m_1.1),(.int .i64 m_1.2.1),(.int .i64 m_1.2.2.1),(.int .i64 m_1.2.2.2.1),(.int .i64 m_1.2.2.2.2.1),(.int .i64 m_1.2.2.2.2.2.1),(.slice m_1.2.2.2.2.2.2.1.ptr m_1.2.2.2.2.2.2.1.len m_1.2.2.2.2.2.2.1.cap),(.slice m_1.2.2.2.2.2.2.2.ptr m_1.2.2.2.2.2.2.2.len m_1.2.2.2.2.2.2.2.cap)])] h R:=al ag Tryz.func18 (.two .n (.scope 0 [(6,(.sc .slc)),(7,(.sc (.int .i64)))] [(4,5),(6,10),(12,40)] [.n,.n,.n] [(.two .n (.two .n (.two (.join [(6,(.sc .slc))] [(6,7),(8,10),(18,36)] .n) .n)))] [(1,[.n])])) hm
abbrev jh:FuncId:=19
noncomputable def jF (R:Value→Heap→Prop) (h:Heap):Prop:=
 ae Tryz.prog 7 #[] (.one (.sc .ptr)) h fun r1 h1=>
 av Tryz.prog (Instr.buildSlice 22 1 #[(0,(.int .i64 (5:Int)))]) (.one (.sc .slc)) h1 fun v2 h2=>
 ae Tryz.prog 6 #[(.agg #[(.int .i64 (1:Int)),(.int .i64 (1:Int)),(.int .i64 (1:Int))]),(.int .i64 (0:Int)),(.pointer r1),(.slice v2.ptr v2.len v2.cap)] (.many [(.sc .ptr),(.sc (.int .i64))]) h2 fun r3 h3=>
 Br (r3.2==(0:Int)) (ae Tryz.prog 21 #[(.pointer r3.1),(.int .i64 (3:Int))] (.one (.sc (.int .i64))) h3 fun r4 h4=>
 Br (r4==(5:Int)) (ae Tryz.prog 9 #[(.pointer r3.1),(.int .i64 (0:Int)),(.int .i64 (5:Int))] (.one (.sc (.int .i64))) h4 fun r5 h5=>
 R (.bool (r5==(4:Int))) h5) (R (.bool false) h4)) (R (.bool false) h3)
theorem nr {R:Value→Heap→Prop} {h:Heap} (hm:jF R h):ab Tryz.prog 19 #[] h R:=al ag Tryz.func19 .n hm
abbrev BY:FuncId:=21
noncomputable def ue (s_0:Option Addr) (slot_1:Int) (R:Value→Heap→Prop) (h:Heap):Prop:=
 ae Tryz.prog 33 #[(.pointer s_0)] (.one (.sc .bool)) h fun r1 h1=>
 Br r1
 (R (.int .i64 (14:Int)) h1)
 (ae Tryz.prog 11 #[(.pointer s_0)] (.one (.sc .slc)) h1 fun r2 h2=>
 ae Tryz.prog 35 #[(.slice r2.ptr r2.len r2.cap),(.int .i64 slot_1)] (.one (.sc .bool)) h2 fun r3 h3=>
 Br (!r3)
 (R (.int .i64 (5:Int)) h3)
 (ae Tryz.prog 12 #[(.pointer s_0),(.int .i64 slot_1)] (.one (.sc .ptr)) h3 fun r4 h4=>
 ae Tryz.prog 63 #[(.pointer r4)] (.many []) h4 fun _ h5=>
 R (.int .i64 (0:Int)) h5))
theorem Af (s_0:Option Addr) (slot_1:Int) {R:Value→Heap→Prop} {h:Heap} (hm:ue s_0 slot_1 R h):ab Tryz.prog 21 #[(.pointer s_0),(.int .i64 slot_1)] h R:=al ag Tryz.func21 .n hm
abbrev oC:FuncId:=24
noncomputable def jV (a_0:Int) (b_1:Int) (c_2:Int) (R:Value→Heap→Prop) (h:Heap):Prop:=
 aN Tryz.prog (Instr.alloc 24 true (.tuple #[])) h fun a1 h1=>
 ae Tryz.prog 8 #[(.int .i64 a_0),(.int .i64 (6:Int))] (.one (.sc (.int .i64))) h1 fun r2 h2=>
 ae Tryz.prog 8 #[(.int .i64 b_1),(.int .i64 (3:Int))] (.one (.sc (.int .i64))) h2 fun r3 h3=>
 ae Tryz.prog 8 #[(.int .i64 c_2),(.int .i64 (9:Int))] (.one (.sc (.int .i64))) h3 fun r4 h4=>
 af Tryz.prog (Instr.storeAt 24 (.pointer (some a1)) (.agg #[(.int .i64 (IntKind.wrap .i64 ((1:Int)+r2))),(.int .i64 (IntKind.wrap .i64 ((1:Int)+r3))),(.int .i64 (IntKind.wrap .i64 ((1:Int)+r4)))])) h4 fun _ h5=>
 ∃res5:Int×Int×Int,ai h5 a1 0 [(.int .i64 res5.1),(.int .i64 res5.2.1),(.int .i64 res5.2.2)]∧
 R (.agg #[(.int .i64 res5.1),(.int .i64 res5.2.1),(.int .i64 res5.2.2)]) h5
theorem nV (a_0:Int) (b_1:Int) (c_2:Int) {R:Value→Heap→Prop} {h:Heap} (hm:jV a_0 b_1 c_2 R h):ab Tryz.prog 24 #[(.int .i64 a_0),(.int .i64 b_1),(.int .i64 c_2)] h R:=al ag Tryz.func24 .n hm
abbrev qd:FuncId:=25
noncomputable def kG (l_0:Sl) (k_1:Int) (R:Value→Heap→Prop) (h:Heap):Prop:=
 Br (decide (k_1<((l_0.len:Nat):Int)))
 (∃a1:Addr,(l_0.ptr=some a1∧0≤k_1∧k_1<((l_0.len:Nat):Int))∧
 ∃x2:Int,cellOf h (a1.add (k_1.toNat*1))=some (.int .i64 x2)∧
 R (.int .i64 x2) h)
 (R (.int .i64 (0:Int)) h)
theorem pA (l_0:Sl) (k_1:Int) {R:Value→Heap→Prop} {h:Heap} (hm:kG l_0 k_1 R h):ab Tryz.prog 25 #[(.slice l_0.ptr l_0.len l_0.cap),(.int .i64 k_1)] h R:=al ag Tryz.func25 .n hm
abbrev yk:FuncId:=26
noncomputable def qe (cells_0:Sl) (R:Value→Heap→Prop) (h:Heap):Prop:=
 aO (σ:=Sl×Int) (fun s1 K1 h1=>
 Br (decide (s1.2<((cells_0.len:Nat):Int)))
 (∃a2:Addr,(cells_0.ptr=some a2∧0≤s1.2∧s1.2<((cells_0.len:Nat):Int))∧
 ∃x3:Int,cellOf h1 (a2.add (s1.2.toNat*1))=some (.int .i64 x3)∧
 aX (σ:=Unit) (fun _ h2=>
 Br (decide (x3>(0:Int)))
 (av Tryz.prog (Instr.buildSlice 22 1 #[(0,(.int .i64 s1.2))]) (.one (.sc .slc)) h2 fun v5 h3=>
 av Tryz.prog (Builtin.append_ #[22,22] 22 #[(.slice s1.1.ptr s1.1.len s1.1.cap),(.slice v5.ptr v5.len v5.cap)]) (.one (.sc .slc)) h3 fun v6 h4=>
 K1 ((⟨v6.ptr,v6.len,v6.cap⟩:Sl),IntKind.wrap .i64 (s1.2+(1:Int))) h4)
 (K1 ((⟨s1.1.ptr,s1.1.len,s1.1.cap⟩:Sl),IntKind.wrap .i64 (s1.2+(1:Int))) h2))
 (fun K2=>
 Br (decide (x3<(0:Int))) (R (.tuple #[(.slice none 0 0),(.bool false)]) h1) (Br (decide (x3>(512:Int)))
 (R (.tuple #[(.slice none 0 0),(.bool false)]) h1)
 (K2 () h1))))
 (Br (decide (((cells_0.len:Nat):Int)≤(64:Int))) (R (.tuple #[(.slice s1.1.ptr s1.1.len s1.1.cap),(.bool (decide (((s1.1.len:Nat):Int)>(0:Int))))]) h1) (R (.tuple #[(.slice s1.1.ptr s1.1.len s1.1.cap),(.bool false)]) h1))) ((⟨none,0,0⟩:Sl),(0:Int)) h
theorem w9 (cells_0:Sl) {R:Value→Heap→Prop} {h:Heap} (hm:qe cells_0 R h):ab Tryz.prog 26 #[(.slice cells_0.ptr cells_0.len cells_0.cap)] h R:=al ag Tryz.func26 (.two .n (.two .n (.two (.two .n (.inn (.loop [(4,(.sc .slc)),(9,(.sc (.int .i64)))] [(2,7),(9,27)] (.two .n (.two .n (.two (.inn (.two .n (.two (.join [] [(2,4),(14,20)] .n) .n))) .n)))))) .n))) hm
abbrev Hu:FuncId:=27
noncomputable def Bj (p_0:Int×Int×Int) (R:Value→Heap→Prop) (h:Heap):Prop:=
 aN Tryz.prog (Instr.box 24 (.agg #[(.int .i64 p_0.1),(.int .i64 p_0.2.1),(.int .i64 p_0.2.2)])) h fun a1 h1=>
 ∃x2:Int,cellOf h1 a1=some (.int .i64 x2)∧
 Br (decide (x2≥(1:Int))) (∃x3:Int,cellOf h1 a1=some (.int .i64 x3)∧
 Br (decide (x3≤(16:Int))) (∃x4:Int,cellOf h1 (a1.add 1)=some (.int .i64 x4)∧
 Br (decide (x4≥(1:Int))) (∃x5:Int,cellOf h1 (a1.add 1)=some (.int .i64 x5)∧
 Br (decide (x5≤(4:Int))) (∃x6:Int,cellOf h1 (a1.add 2)=some (.int .i64 x6)∧
 Br (decide (x6≥(1:Int))) (∃x7:Int,cellOf h1 (a1.add 2)=some (.int .i64 x7)∧
 R (.bool (decide (x7≤(24:Int)))) h1) (R (.bool false) h1)) (R (.bool false) h1)) (R (.bool false) h1)) (R (.bool false) h1)) (R (.bool false) h1)
theorem Ff (p_0:Int×Int×Int) {R:Value→Heap→Prop} {h:Heap} (hm:Bj p_0 R h):ab Tryz.prog 27 #[(.agg #[(.int .i64 p_0.1),(.int .i64 p_0.2.1),(.int .i64 p_0.2.2)])] h R:=al ag Tryz.func27 .n hm
abbrev sJ:FuncId:=28
noncomputable def mo (p_0:Option Addr) (R:Value→Heap→Prop) (h:Heap):Prop:=
 Br (Option.isNone p_0)
 (R (.int .i64 (0:Int)) h)
 (∃a1:Addr,(p_0=some a1)∧
 ∃x2:Int,cellOf h (a1.add 3)=some (.int .i64 x2)∧
 R (.int .i64 x2) h)
theorem ru (p_0:Option Addr) {R:Value→Heap→Prop} {h:Heap} (hm:mo p_0 R h):ab Tryz.prog 28 #[(.pointer p_0)] h R:=al ag Tryz.func28 .n hm
end Go.Proofs.YtkciobclldnoiaaGreat
