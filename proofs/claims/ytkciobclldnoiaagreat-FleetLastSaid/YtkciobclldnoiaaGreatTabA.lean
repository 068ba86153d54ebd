/- Part of the proofs that the laws of this seat answer true whatever the input reads, and leave it as it was; no condition. -/
import Derived.Test.YtkciobclldnoiaaGreatPlA
import Derived.Test.YtkciobclldnoiaaGreatProg
set_option linter.unusedVariables false
set_option linter.unusedSimpArgs false
namespace Go.Proofs.YtkciobclldnoiaaGreat
open Go Go.Vc Go.Proofs
set_option maxRecDepth 1000000
def fU:ByteArray:=⟨#[105,116]⟩
abbrev aA:Nat:=3
abbrev KS:Nat:=4
abbrev aE:Nat:=5
abbrev MC:Nat:=9
abbrev fc:Nat:=22
abbrev ba:Nat:=24
abbrev xE:Nat:=27
abbrev xF:Nat:=37
abbrev B8:Nat:=40
abbrev ao:Nat:=42
abbrev aW:Nat:=46
abbrev Ad:Nat:=48
abbrev G6:Nat:=52
abbrev fm:Nat:=64
abbrev DJ:Nat:=65
abbrev dQ:Nat:=69
abbrev bt:Nat:=72
abbrev bX:Nat:=81
abbrev aQ:Nat:=89
abbrev bo:Nat:=96
abbrev aC:Nat:=103
abbrev Ae:Nat:=111
abbrev fL:Nat:=114
abbrev cH:Nat:=115
abbrev dv:Nat:=116
abbrev bc:Nat:=119
abbrev eO:Nat:=190
abbrev B9:Nat:=193
abbrev vN:Nat:=194
abbrev gm:Nat:=198
abbrev bL:Nat:=206
abbrev xX:Nat:=208
abbrev G7:Nat:=223
abbrev KT:Nat:=225
abbrev oH:Nat:=228
abbrev dR:Nat:=234
abbrev dP:Nat:=268
abbrev aP:TI:=⟨.fn,(.sc .fn),1,8,[.nilFunc]⟩
abbrev NB:TI:=⟨.int .i64,(.sc (.int .i64)),1,8,[(.int .i64 0)]⟩
abbrev NC:TI:=⟨.int .u8,(.sc (.int .u8)),1,1,[(.int .u8 0)]⟩
abbrev O4:TI:=⟨.str,(.sc .str),1,16,[(.string ⟨#[]⟩)]⟩
abbrev ND:TI:=⟨.int .u64,(.sc (.int .u64)),1,8,[(.int .u64 0)]⟩
abbrev O5:TI:=⟨.int .i32,(.sc (.int .i32)),1,4,[(.int .i32 0)]⟩
abbrev NF:TI:=⟨.struct [(0,3),(1,3),(2,3)],(.agg [(.int .i64),(.int .i64),(.int .i64)]),3,24,[(.int .i64 0),(.int .i64 0),(.int .i64 0)]⟩
abbrev NG:TI:=⟨.struct [(0,3),(1,46)],(.agg [(.int .i64),.slc]),2,32,[(.int .i64 0),(.slice none 0 0)]⟩
noncomputable def NH:jB:=[⟨.other,(.sc .any),1,0,[(.tuple #[])]⟩,aP,NB,NB,⟨.bool,(.sc .bool),1,1,[(.bool .false)]⟩,NC,NC,⟨.struct [(0,2),(1,3),(2,4),(3,6)],(.agg [(.int .i64),(.int .i64),.bool,(.int .u8)]),4,24,[(.int .i64 0),(.int .i64 0),(.bool .false),(.int .u8 0)]⟩,⟨.struct [(0,2),(1,3),(2,4),(3,6)],(.agg [(.int .i64),(.int .i64),.bool,(.int .u8)]),4,24,[(.int .i64 0),(.int .i64 0),(.bool .false),(.int .u8 0)]⟩,O4,O4,O4,ND,⟨.struct [(0,9),(1,12)],(.agg [.str,(.int .u64)]),2,24,[(.string ⟨#[]⟩),(.int .u64 0)]⟩,⟨.struct [(0,9),(1,12)],(.agg [.str,(.int .u64)]),2,24,[(.string ⟨#[]⟩),(.int .u64 0)]⟩,⟨.ptr 279,(.sc .ptr),1,8,[(.pointer none)]⟩,⟨.ptr 282,(.sc .ptr),1,8,[(.pointer none)]⟩,⟨.ptr 290,(.sc .ptr),1,8,[(.pointer none)]⟩,⟨.struct [(0,17)],(.agg [.ptr]),1,8,[(.pointer none)]⟩,⟨.struct [(0,17)],(.agg [.ptr]),1,8,[(.pointer none)]⟩,⟨.other,(.sc .any),1,16,[.nilIface]⟩,O5,⟨.slice 3,(.sc .slc),1,24,[(.slice none 0 0)]⟩,NF,NF,⟨.other,(.sc .any),1,0,[(.tuple #[(.agg #[(.int .i64 0),(.int .i64 0),(.int .i64 0)]),(.int .i64 0),(.slice none 0 0)])]⟩,aP,⟨.ptr 64,(.sc .ptr),1,8,[(.pointer none)]⟩,NB,⟨.other,(.sc .any),1,0,[(.tuple #[(.pointer none),(.int .i64 0)])]⟩,aP,⟨.ptr 72,(.sc .ptr),1,8,[(.pointer none)]⟩,aP,aP,aP,aP,aP,⟨.ptr 81,(.sc .ptr),1,8,[(.pointer none)]⟩,aP,aP,⟨.slice 89,(.sc .slc),1,24,[(.slice none 0 0)]⟩,⟨.struct [(0,3),(1,3),(2,24),(5,3),(6,22),(7,40)],(.agg [(.int .i64),(.int .i64),(.int .i64),(.int .i64),(.int .i64),(.int .i64),.slc,.slc]),8,96,[(.int .i64 0),(.int .i64 0),(.int .i64 0),(.int .i64 0),(.int .i64 0),(.int .i64 0),(.slice none 0 0),(.slice none 0 0)]⟩,⟨.struct [(0,3),(1,3),(2,24),(5,3),(6,22),(7,40)],(.agg [(.int .i64),(.int .i64),(.int .i64),(.int .i64),(.int .i64),(.int .i64),.slc,.slc]),8,96,[(.int .i64 0),(.int .i64 0),(.int .i64 0),(.int .i64 0),(.int .i64 0),(.int .i64 0),(.slice none 0 0),(.slice none 0 0)]⟩,aP,aP,aP,⟨.slice 5,(.sc .slc),1,24,[(.slice none 0 0)]⟩,aP,⟨.slice 103,(.sc .slc),1,24,[(.slice none 0 0)]⟩,aP,aP,aP,⟨.slice 22,(.sc .slc),1,24,[(.slice none 0 0)]⟩,aP,aP,aP,aP,aP,aP,⟨.other,(.sc .any),1,0,[(.tuple #[(.slice none 0 0),(.bool .false)])]⟩,aP,aP,⟨.array 64 37,(.arr .ptr),64,512,List.replicate 64 (.pointer none)⟩,⟨.struct [(0,42),(8,31),(9,3),(10,62)],(.arr .any),74,624,[(.int .i64 0),(.int .i64 0),(.int .i64 0),(.int .i64 0),(.int .i64 0),(.int .i64 0),(.slice none 0 0),(.slice none 0 0),(.pointer none),(.int .i64 0)]++List.replicate 64 (.pointer none)⟩,⟨.struct [(0,42),(8,31),(9,3),(10,62)],(.arr .any),74,624,[(.int .i64 0),(.int .i64 0),(.int .i64 0),(.int .i64 0),(.int .i64 0),(.int .i64 0),(.slice none 0 0),(.slice none 0 0),(.pointer none),(.int .i64 0)]++List.replicate 64 (.pointer none)⟩,⟨.slice 46,(.sc .slc),1,24,[(.slice none 0 0)]⟩,aP,aP,aP,⟨.slice 96,(.sc .slc),1,24,[(.slice none 0 0)]⟩,aP,⟨.struct [(0,4),(1,4),(2,3),(3,3)],(.agg [.bool,.bool,(.int .i64),(.int .i64)]),4,24,[(.bool .false),(.bool .false),(.int .i64 0),(.int .i64 0)]⟩,⟨.struct [(0,4),(1,4),(2,3),(3,3)],(.agg [.bool,.bool,(.int .i64),(.int .i64)]),4,24,[(.bool .false),(.bool .false),(.int .i64 0),(.int .i64 0)]⟩,aP,aP,aP,aP,aP,aP,aP,⟨.struct [(0,31),(1,3),(2,65),(3,3),(4,65),(5,4),(6,4)],(.agg [.ptr,(.int .i64),.slc,(.int .i64),.slc,.bool,.bool]),7,80,[(.pointer none),(.int .i64 0),(.slice none 0 0),(.int .i64 0),(.slice none 0 0),(.bool .false),(.bool .false)]⟩,⟨.struct [(0,31),(1,3),(2,65),(3,3),(4,65),(5,4),(6,4)],(.agg [.ptr,(.int .i64),.slc,(.int .i64),.slc,.bool,.bool]),7,80,[(.pointer none),(.int .i64 0),(.slice none 0 0),(.int .i64 0),(.slice none 0 0),(.bool .false),(.bool .false)]⟩,aP,aP,aP,aP,aP,aP,⟨.struct [(0,9),(1,3),(2,3),(3,22)],(.agg [.str,(.int .i64),(.int .i64),.slc]),4,56,[(.string ⟨#[]⟩),(.int .i64 0),(.int .i64 0),(.slice none 0 0)]⟩,⟨.struct [(0,9),(1,3),(2,3),(3,22)],(.agg [.str,(.int .i64),(.int .i64),.slc]),4,56,[(.string ⟨#[]⟩),(.int .i64 0),(.int .i64 0),(.slice none 0 0)]⟩,aP,aP,⟨.other,(.sc .any),1,0,[(.tuple #[(.slice none 0 0),(.bool .false)])]⟩,aP,aP,NG,NG,aP,aP,aP,aP,⟨.int .u32,(.sc (.int .u32)),1,4,[(.int .u32 0)]⟩,⟨.struct [(0,3),(1,3),(2,3),(3,24),(6,101),(7,46)],(.agg [(.int .i64),(.int .i64),(.int .i64),(.int .i64),(.int .i64),(.int .i64),(.int .u32),.slc]),8,80,[(.int .i64 0),(.int .i64 0),(.int .i64 0),(.int .i64 0),(.int .i64 0),(.int .i64 0),(.int .u32 0),(.slice none 0 0)]⟩,⟨.struct [(0,3),(1,3),(2,3),(3,24),(6,101),(7,46)],(.agg [(.int .i64),(.int .i64),(.int .i64),(.int .i64),(.int .i64),(.int .i64),(.int .u32),.slc]),8,80,[(.int .i64 0),(.int .i64 0),(.int .i64 0),(.int .i64 0),(.int .i64 0),(.int .i64 0),(.int .u32 0),(.slice none 0 0)]⟩,⟨.other,(.sc .any),1,0,[(.tuple #[(.agg #[(.int .i64 0),(.int .i64 0),(.int .i64 0),(.int .i64 0),(.int .i64 0),(.int .i64 0),(.int .u32 0),(.slice none 0 0)]),(.bool .false)])]⟩,aP,aP,aP,aP,aP,aP,⟨.slice 114,(.sc .slc),1,24,[(.slice none 0 0)]⟩,aP,NG,NG,aP,⟨.ptr 119,(.sc .ptr),1,8,[(.pointer none)]⟩,⟨.array 64 3,(.arr (.int .i64)),64,512,List.replicate 64 (.int .i64 0)⟩,⟨.struct [(0,27),(1,42),(9,42),(17,22),(18,3),(19,117),(83,69)],(.arr .any),84,768,[(.pointer none),(.int .i64 0),(.int .i64 0),(.int .i64 0),(.int .i64 0),(.int .i64 0),(.int .i64 0),(.slice none 0 0),(.slice none 0 0),(.int .i64 0),(.int .i64 0),(.int .i64 0),(.int .i64 0),(.int .i64 0),(.int .i64 0),(.slice none 0 0),(.slice none 0 0),(.slice none 0 0)]++List.replicate 65 (.int .i64 0)++[(.slice none 0 0)]⟩,⟨.struct [(0,27),(1,42),(9,42),(17,22),(18,3),(19,117),(83,69)],(.arr .any),84,768,[(.pointer none),(.int .i64 0),(.int .i64 0),(.int .i64 0),(.int .i64 0),(.int .i64 0),(.int .i64 0),(.slice none 0 0),(.slice none 0 0),(.int .i64 0),(.int .i64 0),(.int .i64 0),(.int .i64 0),(.int .i64 0),(.int .i64 0),(.slice none 0 0),(.slice none 0 0),(.slice none 0 0)]++List.replicate 65 (.int .i64 0)++[(.slice none 0 0)]⟩,aP,aP,aP,aP,aP,aP,aP,aP,aP,ND,aP,aP,aP,aP,aP,aP,aP,aP,aP,aP,⟨.other,(.sc .any),1,0,[(.tuple #[(.int .i64 0),(.bool .false)])]⟩,aP,aP,aP,aP,⟨.ptr 190,(.sc .ptr),1,8,[(.pointer none)]⟩,⟨.other,(.sc .any),1,0,[(.tuple #[(.pointer none),(.int .i64 0)])]⟩,aP,aP,aP,aP,aP,aP,aP,aP,aP,⟨.other,(.sc .any),1,0,[(.tuple #[(.int .i64 0),(.slice none 0 0),(.bool .false)])]⟩,aP,aP,aP,aP,aP,aP,aP,aP,aP,aP,aP,aP,aP,aP,aP,NB,⟨.other,(.sc .any),1,0,[(.tuple #[(.int .i64 0),(.int .i64 0)])]⟩,aP,aP,aP,aP,aP,aP,ND,aP,aP,⟨.other,(.sc .any),1,0,[(.tuple #[(.slice none 0 0),(.int .i64 0)])]⟩,aP,⟨.ptr 228,(.sc .ptr),1,8,[(.pointer none)]⟩,aP,aP,aP,⟨.struct [(0,24),(3,101),(4,65)],(.agg [(.int .i64),(.int .i64),(.int .i64),(.int .u32),.slc]),5,56,[(.int .i64 0),(.int .i64 0),(.int .i64 0),(.int .u32 0),(.slice none 0 0)]⟩,⟨.struct [(0,24),(3,101),(4,65)],(.agg [(.int .i64),(.int .i64),(.int .i64),(.int .u32),.slc]),5,56,[(.int .i64 0),(.int .i64 0),(.int .i64 0),(.int .u32 0),(.slice none 0 0)]⟩,⟨.cpx,(.sc (.cpx .f64)),1,16,[(.complex Go.FloatKind.f64 0 0)]⟩,aP,⟨.slice 198,(.sc .slc),1,24,[(.slice none 0 0)]⟩,⟨.array 64 4,(.arr .bool),64,64,List.replicate 64 (.bool .false)⟩,⟨.flt,(.sc (.flt .f64)),1,8,[(.float Go.FloatKind.f64 0)]⟩,aP,⟨.struct [(0,3),(1,195)],(.agg [(.int .i64),(.flt .f64)]),2,16,[(.int .i64 0),(.float Go.FloatKind.f64 0)]⟩,⟨.struct [(0,3),(1,195)],(.agg [(.int .i64),(.flt .f64)]),2,16,[(.int .i64 0),(.float Go.FloatKind.f64 0)]⟩,aP,aP,aP,aP,aP,aP,aP,⟨.mp,(.sc .mp),1,8,[(.map none)]⟩,NF,NF,aP,aP,aP,ND,aP,aP,aP,⟨.ptr 3,(.sc .ptr),1,8,[(.pointer none)]⟩,aP,aP,aP,aP,aP,aP,⟨.array 255 5,(.arr (.int .u8)),255,255,List.replicate 255 (.int .u8 0)⟩,aP,⟨.array 256 3,(.arr (.int .i64)),256,2048,List.replicate 256 (.int .i64 0)⟩,aP,⟨.struct [(0,223),(255,225)],(.arr .any),511,2304,List.replicate 255 (.int .u8 0)++List.replicate 256 (.int .i64 0)⟩,⟨.struct [(0,223),(255,225)],(.arr .any),511,2304,List.replicate 255 (.int .u8 0)++List.replicate 256 (.int .i64 0)⟩,aP,aP,⟨.ptr 234,(.sc .ptr),1,8,[(.pointer none)]⟩,aP,⟨.struct [(0,191),(1,191),(2,3),(3,3),(4,4)],(.agg [(.cpx .f64),(.cpx .f64),(.int .i64),(.int .i64),.bool]),5,56,[(.complex Go.FloatKind.f64 0 0),(.complex Go.FloatKind.f64 0 0),(.int .i64 0),(.int .i64 0),(.bool .false)]⟩,⟨.struct [(0,191),(1,191),(2,3),(3,3),(4,4)],(.agg [(.cpx .f64),(.cpx .f64),(.int .i64),(.int .i64),.bool]),5,56,[(.complex Go.FloatKind.f64 0 0),(.complex Go.FloatKind.f64 0 0),(.int .i64 0),(.int .i64 0),(.bool .false)]⟩,aP,aP,⟨.ptr 268,(.sc .ptr),1,8,[(.pointer none)]⟩,aP,aP,aP,aP,aP,aP,aP,aP,aP,aP,aP,⟨.ptr 212,(.sc .ptr),1,8,[(.pointer none)]⟩,⟨.other,(.sc .any),1,0,[(.tuple #[(.int .i64 0),(.int .i64 0)])]⟩,aP,aP,aP,aP,aP,aP,aP,aP,aP,aP,aP,aP,aP,aP,aP,aP,⟨.struct [(0,180)],(.agg [(.int .u64)]),1,8,[(.int .u64 0)]⟩,⟨.struct [(0,180)],(.agg [(.int .u64)]),1,8,[(.int .u64 0)]⟩,aP,aP,aP,aP,aP,aP,aP,aP,aP,⟨.struct [(0,17),(1,17),(2,17),(3,9)],(.agg [.ptr,.ptr,.ptr,.str]),4,40,[(.pointer none),(.pointer none),(.pointer none),(.string ⟨#[]⟩)]⟩,⟨.struct [(0,17),(1,17),(2,17),(3,9)],(.agg [.ptr,.ptr,.ptr,.str]),4,40,[(.pointer none),(.pointer none),(.pointer none),(.string ⟨#[]⟩)]⟩,⟨.array 0 16,(.arr .ptr),0,0,[]⟩,⟨.struct [(0,280)],(.agg []),0,0,[]⟩,⟨.struct [(0,280)],(.agg []),0,0,[]⟩,NC,NC,aP,⟨.ptr 5,(.sc .ptr),1,8,[(.pointer none)]⟩,O5,O5,⟨.struct [(0,12),(1,12),(2,101),(3,283),(4,5),(5,5),(6,284),(7,285),(8,286),(9,287),(10,288)],(.agg [(.int .u64),(.int .u64),(.int .u32),(.int .u8),(.int .u8),(.int .u8),(.int .u8),.fn,.ptr,(.int .i32),(.int .i32)]),11,48,[(.int .u64 0),(.int .u64 0),(.int .u32 0),(.int .u8 0),(.int .u8 0),(.int .u8 0),(.int .u8 0),.nilFunc,(.pointer none),(.int .i32 0),(.int .i32 0)]⟩,⟨.struct [(0,12),(1,12),(2,101),(3,283),(4,5),(5,5),(6,284),(7,285),(8,286),(9,287),(10,288)],(.agg [(.int .u64),(.int .u64),(.int .u32),(.int .u8),(.int .u8),(.int .u8),(.int .u8),.fn,.ptr,(.int .i32),(.int .i32)]),11,48,[(.int .u64 0),(.int .u64 0),(.int .u32 0),(.int .u8 0),(.int .u8 0),(.int .u8 0),(.int .u8 0),.nilFunc,(.pointer none),(.int .i32 0),(.int .i32 0)]⟩,⟨.other,(.sc .any),1,8,[(.pointer none)]⟩]
noncomputable def C:Ctx:={P:=Tryz.prog,T:=NH,tup:=[(0,[]),(25,[(.agg [(.int .i64),(.int .i64),(.int .i64)]),(.sc (.int .i64)),(.sc .slc)]),(29,[(.sc .ptr),(.sc (.int .i64))]),(59,[(.sc .slc),(.sc .bool)]),(92,[(.sc .slc),(.sc .bool)]),(104,[(.agg [(.int .i64),(.int .i64),(.int .i64),(.int .i64),(.int .i64),(.int .i64),(.int .u32),.slc]),(.sc .bool)]),(140,[(.sc (.int .i64)),(.sc .bool)]),(146,[(.sc .ptr),(.sc (.int .i64))]),(156,[(.sc (.int .i64)),(.sc .slc),(.sc .bool)]),(173,[(.sc (.int .i64)),(.sc (.int .i64))]),(183,[(.sc .slc),(.sc (.int .i64))]),(250,[(.sc (.int .i64)),(.sc (.int .i64))])],fns:=[false,false]++List.replicate 239 true++List.replicate 18 false}
theorem PG:(List.range C.T.length).map (jB.seen C.P)=C.T.map jB.told:=by kernel_rfl
theorem Od:C.P.follows .mixedOrders=true:=by kernel_rfl
theorem PH:(C.P.funcs.toList.map fun f=>!(f.name== "runtime.NumGoroutine")&&f.body.isSome)=C.fns:=by kernel_rfl
theorem ag:C.Ok:={NH:=PG,mixed:=Od,fns:=PH}
abbrev iF:FuncId:=4
noncomputable def iQ (c_0:Sl) (n_1:Int) (x_2:Int) (gone_3:Int) (R:Value→Heap→Prop) (h:Heap):Prop:=
 af Tryz.prog 5 #[(.slice c_0.ptr c_0.len c_0.cap)] (.many [(.agg [(.int .i64),(.int .i64),(.int .i64)]),(.sc (.int .i64)),(.sc .slc)]) h fun r1 h1=>
 aK Tryz.prog (Instr.alloc 24 true (.tuple #[])) h1 fun a2 h2=>
 ae Tryz.prog (Instr.storeAt 24 (.pointer (some a2)) (.agg #[(.int .i64 r1.1.1),(.int .i64 r1.1.2.1),(.int .i64 r1.1.2.2)])) h2 fun _ h3=>
 aZ (σ:=Option Addr×Int) (fun s10 h10=>
 aZ (σ:=Unit) (fun _ h11=>
 ∃x12:Int,cellOf h11 a2=some (.int .i64 x12)∧
 ∃x13:Int,cellOf h11 (a2.add 2)=some (.int .i64 x13)∧
 af Tryz.prog 8 #[(.int .i64 n_1),(.int .i64 (IntKind.wrap .i64 ((IntKind.wrap .i64 ((2:Int)*x12))*x13)))] (.one (.sc (.int .i64))) h11 fun r14 h12=>
 af Tryz.prog 17 #[(.int .i64 r14),(.int .i64 x_2)] (.one (.sc .slc)) h12 fun r15 h13=>
 af Tryz.prog 16 #[(.pointer s10.1),(.string fU),(.slice r15.ptr r15.len r15.cap)] (.one (.sc (.int .i64))) h13 fun r16 h14=>
 af Tryz.prog 8 #[(.int .i64 gone_3),(.int .i64 (2:Int))] (.one (.sc (.int .i64))) h14 fun r17 h15=>
 af Tryz.prog 14 #[(.pointer s10.1)] (.one (.agg [(.int .i64),(.int .i64),(.int .i64),(.int .i64),(.int .i64),(.int .i64),.slc,.slc])) h15 fun r18 h16=>
 af Tryz.prog 20 #[(.pointer s10.1),(.int .i64 (0:Int)),(.int .i64 (0:Int))] (.one (.sc .slc)) h16 fun r19 h17=>
 aK Tryz.prog (Instr.alloc 42 true (.tuple #[])) h17 fun a20 h18=>
 ae Tryz.prog (Instr.storeAt 42 (.pointer (some a20)) (.agg #[(.int .i64 r18.1),(.int .i64 r18.2.1),(.int .i64 r18.2.2.1),(.int .i64 r18.2.2.2.1),(.int .i64 r18.2.2.2.2.1),(.int .i64 r18.2.2.2.2.2.1),(.slice r18.2.2.2.2.2.2.1.ptr r18.2.2.2.2.2.2.1.len r18.2.2.2.2.2.2.1.cap),(.slice r18.2.2.2.2.2.2.2.ptr r18.2.2.2.2.2.2.2.len r18.2.2.2.2.2.2.2.cap)])) h18 fun _ h19=>
 aZ (σ:=Unit) (fun _ h24=>
 aZ (σ:=Unit) (fun _ h27=>
 af Tryz.prog 20 #[(.pointer s10.1),(.int .i64 (0:Int)),(.int .i64 (0:Int))] (.one (.sc .slc)) h27 fun r30 h28=>
 Br (r16==(0:Int)) (Br (((r30.len:Nat):Int)==(1:Int)) (∃a31:Addr,(r30.ptr=some a31∧0≤(0:Int)∧(0:Int)<((r30.len:Nat):Int))∧
 ∃x32:Sl,cellOf h28 (a31.add ((0:Int).toNat*1))=some (.slice x32.ptr x32.len x32.cap)∧
 ∃a33:Addr,(r19.ptr=some a33∧0≤(IntKind.wrap .i64 ((1:Int)-r17))∧(IntKind.wrap .i64 ((1:Int)-r17))<((r19.len:Nat):Int))∧
 ∃x34:Sl,cellOf h28 (a33.add ((IntKind.wrap .i64 ((1:Int)-r17)).toNat*1))=some (.slice x34.ptr x34.len x34.cap)∧
 af Tryz.prog 10 #[(.slice x32.ptr x32.len x32.cap),(.slice x34.ptr x34.len x34.cap)] (.one (.sc .bool)) h28 fun r35 h29=>
 (ak.ok [] h29)∧
 Br r35 ((af Tryz.prog 14 #[(.pointer s10.1)] (.one (.agg [(.int .i64),(.int .i64),(.int .i64),(.int .i64),(.int .i64),(.int .i64),.slc,.slc])) h29 fun r36 h30=>
 (ak.ok [] h30)∧
 az Tryz.prog (Instr.buildSlice 22 1 #[(0,(.int .i64 (IntKind.wrap .i64 ((1:Int)-r17))))]) (.one (.sc .slc)) h30 fun v37 h31=>
 (ak.ok [] h31)∧
 af Tryz.prog 10 #[(.slice r36.2.2.2.2.2.2.1.ptr r36.2.2.2.2.2.2.1.len r36.2.2.2.2.2.2.1.cap),(.slice v37.ptr v37.len v37.cap)] (.one (.sc .bool)) h31 fun r38 h32=>
 (ak.ok [] h32)∧
 Br r38 (af Tryz.prog 22 #[(.pointer s10.1),(.int .i64 (IntKind.wrap .i64 ((1:Int)-r17)))] (.one (.sc (.int .i64))) h32 fun r39 h33=>
 (ak.ok [] h33)∧
 Br (r39==(7:Int)) (af Tryz.prog 19 #[] (.one (.sc .bool)) h33 fun r40 h34=>
 (ak.ok [] h34)∧
 R (.bool r40) h34) ((ak.ok [] h33)∧
 R (.bool false) h33)) ((ak.ok [] h32)∧
 (ak.ok [] h32)∧
 R (.bool false) h32))∧(az Tryz.prog (Instr.buildSlice 22 1 #[(0,(.int .i64 (IntKind.wrap .i64 ((1:Int)-r17))))]) (.one (.sc .slc)) h29 fun v41 h35=>
 (ak.ok [] h35)∧
 af Tryz.prog 14 #[(.pointer s10.1)] (.one (.agg [(.int .i64),(.int .i64),(.int .i64),(.int .i64),(.int .i64),(.int .i64),.slc,.slc])) h35 fun r42 h36=>
 (ak.ok [] h36)∧
 af Tryz.prog 10 #[(.slice r42.2.2.2.2.2.2.1.ptr r42.2.2.2.2.2.2.1.len r42.2.2.2.2.2.2.1.cap),(.slice v41.ptr v41.len v41.cap)] (.one (.sc .bool)) h36 fun r43 h37=>
 (ak.ok [] h37)∧
 Br r43 (af Tryz.prog 22 #[(.pointer s10.1),(.int .i64 (IntKind.wrap .i64 ((1:Int)-r17)))] (.one (.sc (.int .i64))) h37 fun r44 h38=>
 (ak.ok [] h38)∧
 Br (r44==(7:Int)) (af Tryz.prog 19 #[] (.one (.sc .bool)) h38 fun r45 h39=>
 (ak.ok [] h39)∧
 R (.bool r45) h39) ((ak.ok [] h38)∧
 R (.bool false) h38)) ((ak.ok [] h37)∧
 (ak.ok [] h37)∧
 R (.bool false) h37))) (((ak.ok [] h29)∧
 (ak.ok [] h29)∧
 (ak.ok [] h29)∧
 (ak.ok [] h29)∧
 (ak.ok [] h29)∧
 R (.bool false) h29)∧((ak.ok [] h29)∧
 (ak.ok [] h29)∧
 (ak.ok [] h29)∧
 (ak.ok [] h29)∧
 (ak.ok [] h29)∧
 R (.bool false) h29))) ((ak.ok [] h28)∧
 ((ak.ok [] h28)∧
 (ak.ok [] h28)∧
 (ak.ok [] h28)∧
 (ak.ok [] h28)∧
 (ak.ok [] h28)∧
 R (.bool false) h28)∧((ak.ok [] h28)∧
 (ak.ok [] h28)∧
 (ak.ok [] h28)∧
 (ak.ok [] h28)∧
 (ak.ok [] h28)∧
 R (.bool false) h28))) (Br (r16==(8:Int)) (Br (((r30.len:Nat):Int)==(1:Int)) (∃a46:Addr,(r30.ptr=some a46∧0≤(0:Int)∧(0:Int)<((r30.len:Nat):Int))∧
 ∃x47:Sl,cellOf h28 (a46.add ((0:Int).toNat*1))=some (.slice x47.ptr x47.len x47.cap)∧
 ∃a48:Addr,(r19.ptr=some a48∧0≤(IntKind.wrap .i64 ((1:Int)-r17))∧(IntKind.wrap .i64 ((1:Int)-r17))<((r19.len:Nat):Int))∧
 ∃x49:Sl,cellOf h28 (a48.add ((IntKind.wrap .i64 ((1:Int)-r17)).toNat*1))=some (.slice x49.ptr x49.len x49.cap)∧
 af Tryz.prog 10 #[(.slice x47.ptr x47.len x47.cap),(.slice x49.ptr x49.len x49.cap)] (.one (.sc .bool)) h28 fun r50 h40=>
 (ak.ok [] h40)∧
 Br r50 ((af Tryz.prog 14 #[(.pointer s10.1)] (.one (.agg [(.int .i64),(.int .i64),(.int .i64),(.int .i64),(.int .i64),(.int .i64),.slc,.slc])) h40 fun r51 h41=>
 (ak.ok [] h41)∧
 az Tryz.prog (Instr.buildSlice 22 1 #[(0,(.int .i64 (IntKind.wrap .i64 ((1:Int)-r17))))]) (.one (.sc .slc)) h41 fun v52 h42=>
 (ak.ok [] h42)∧
 af Tryz.prog 10 #[(.slice r51.2.2.2.2.2.2.1.ptr r51.2.2.2.2.2.2.1.len r51.2.2.2.2.2.2.1.cap),(.slice v52.ptr v52.len v52.cap)] (.one (.sc .bool)) h42 fun r53 h43=>
 (ak.ok [] h43)∧
 Br r53 (af Tryz.prog 22 #[(.pointer s10.1),(.int .i64 (IntKind.wrap .i64 ((1:Int)-r17)))] (.one (.sc (.int .i64))) h43 fun r54 h44=>
 (ak.ok [] h44)∧
 Br (r54==(7:Int)) (af Tryz.prog 19 #[] (.one (.sc .bool)) h44 fun r55 h45=>
 (ak.ok [] h45)∧
 R (.bool r55) h45) ((ak.ok [] h44)∧
 R (.bool false) h44)) ((ak.ok [] h43)∧
 (ak.ok [] h43)∧
 R (.bool false) h43))∧(az Tryz.prog (Instr.buildSlice 22 1 #[(0,(.int .i64 (IntKind.wrap .i64 ((1:Int)-r17))))]) (.one (.sc .slc)) h40 fun v56 h46=>
 (ak.ok [] h46)∧
 af Tryz.prog 14 #[(.pointer s10.1)] (.one (.agg [(.int .i64),(.int .i64),(.int .i64),(.int .i64),(.int .i64),(.int .i64),.slc,.slc])) h46 fun r57 h47=>
 (ak.ok [] h47)∧
 af Tryz.prog 10 #[(.slice r57.2.2.2.2.2.2.1.ptr r57.2.2.2.2.2.2.1.len r57.2.2.2.2.2.2.1.cap),(.slice v56.ptr v56.len v56.cap)] (.one (.sc .bool)) h47 fun r58 h48=>
 (ak.ok [] h48)∧
 Br r58 (af Tryz.prog 22 #[(.pointer s10.1),(.int .i64 (IntKind.wrap .i64 ((1:Int)-r17)))] (.one (.sc (.int .i64))) h48 fun r59 h49=>
 (ak.ok [] h49)∧
 Br (r59==(7:Int)) (af Tryz.prog 19 #[] (.one (.sc .bool)) h49 fun r60 h50=>
 (ak.ok [] h50)∧
 R (.bool r60) h50) ((ak.ok [] h49)∧
 R (.bool false) h49)) ((ak.ok [] h48)∧
 (ak.ok [] h48)∧
 R (.bool false) h48))) (((ak.ok [] h40)∧
 (ak.ok [] h40)∧
 (ak.ok [] h40)∧
 (ak.ok [] h40)∧
 (ak.ok [] h40)∧
 R (.bool false) h40)∧((ak.ok [] h40)∧
 (ak.ok [] h40)∧
 (ak.ok [] h40)∧
 (ak.ok [] h40)∧
 (ak.ok [] h40)∧
 R (.bool false) h40))) ((ak.ok [] h28)∧
 ((ak.ok [] h28)∧
 (ak.ok [] h28)∧
 (ak.ok [] h28)∧
 (ak.ok [] h28)∧
 (ak.ok [] h28)∧
 R (.bool false) h28)∧((ak.ok [] h28)∧
 (ak.ok [] h28)∧
 (ak.ok [] h28)∧
 (ak.ok [] h28)∧
 (ak.ok [] h28)∧
 R (.bool false) h28))) ((ak.ok [] h28)∧
 ((ak.ok [] h28)∧
 (ak.ok [] h28)∧
 (ak.ok [] h28)∧
 (ak.ok [] h28)∧
 (ak.ok [] h28)∧
 R (.bool false) h28)∧((ak.ok [] h28)∧
 (ak.ok [] h28)∧
 (ak.ok [] h28)∧
 (ak.ok [] h28)∧
 (ak.ok [] h28)∧
 R (.bool false) h28))))
 (fun K4=>
 Br (((r19.len:Nat):Int) !=(2:Int)) (R (.bool false) h24) (af Tryz.prog 22 #[(.pointer s10.1),(.int .i64 r17)] (.one (.sc (.int .i64))) h24 fun r27 h25=>
 Br (r27 !=(0:Int)) (R (.bool false) h25) (af Tryz.prog 12 #[(.pointer s10.1),(.int .i64 r17)] (.one (.sc .ptr)) h25 fun r28 h26=>
 Br (!(Option.isNone r28))
 (R (.bool false) h26)
 (K4 () h26)))))
 (fun K3=>
 af Tryz.prog 21 #[(.pointer s10.1),(.int .i64 r17)] (.one (.sc (.int .i64))) h19 fun r21 h20=>
 (ak.ok [] h20)∧
 Br (r21 !=(0:Int)) ((ak.ok [] h20)∧
 (ak.ok [] h20)∧
 (ak.ok [] h20)∧
 R (.bool false) h20) (af Tryz.prog 22 #[(.pointer s10.1),(.int .i64 (IntKind.wrap .i64 ((1:Int)-r17)))] (.one (.sc (.int .i64))) h20 fun r22 h21=>
 (ak.ok [] h21)∧
 Br (r22 !=(7:Int)) ((ak.ok [] h21)∧
 (ak.ok [] h21)∧
 R (.bool false) h21) (∃x23:Int×Int×Int×Int×Int×Int×Sl×Sl,ai h21 a20 0 [(.int .i64 x23.1),(.int .i64 x23.2.1),(.int .i64 x23.2.2.1),(.int .i64 x23.2.2.2.1),(.int .i64 x23.2.2.2.2.1),(.int .i64 x23.2.2.2.2.2.1),(.slice x23.2.2.2.2.2.2.1.ptr x23.2.2.2.2.2.2.1.len x23.2.2.2.2.2.2.1.cap),(.slice x23.2.2.2.2.2.2.2.ptr x23.2.2.2.2.2.2.2.len x23.2.2.2.2.2.2.2.cap)]∧
 af Tryz.prog 14 #[(.pointer s10.1)] (.one (.agg [(.int .i64),(.int .i64),(.int .i64),(.int .i64),(.int .i64),(.int .i64),.slc,.slc])) h21 fun r24 h22=>
 (ak.ok [(a20,(.int .i64 x23.1)),(a20.add 1,(.int .i64 x23.2.1)),(a20.add 2,(.int .i64 x23.2.2.1)),(a20.add 3,(.int .i64 x23.2.2.2.1)),(a20.add 4,(.int .i64 x23.2.2.2.2.1)),(a20.add 5,(.int .i64 x23.2.2.2.2.2.1)),(a20.add 6,(.slice x23.2.2.2.2.2.2.1.ptr x23.2.2.2.2.2.2.1.len x23.2.2.2.2.2.2.1.cap)),(a20.add 7,(.slice x23.2.2.2.2.2.2.2.ptr x23.2.2.2.2.2.2.2.len x23.2.2.2.2.2.2.2.cap))] h22)∧
 af Tryz.prog 23 #[(.agg #[(.int .i64 r24.1),(.int .i64 r24.2.1),(.int .i64 r24.2.2.1),(.int .i64 r24.2.2.2.1),(.int .i64 r24.2.2.2.2.1),(.int .i64 r24.2.2.2.2.2.1),(.slice r24.2.2.2.2.2.2.1.ptr r24.2.2.2.2.2.2.1.len r24.2.2.2.2.2.2.1.cap),(.slice r24.2.2.2.2.2.2.2.ptr r24.2.2.2.2.2.2.2.len r24.2.2.2.2.2.2.2.cap)]),(.agg #[(.int .i64 x23.1),(.int .i64 x23.2.1),(.int .i64 x23.2.2.1),(.int .i64 x23.2.2.2.1),(.int .i64 x23.2.2.2.2.1),(.int .i64 x23.2.2.2.2.2.1),(.slice x23.2.2.2.2.2.2.1.ptr x23.2.2.2.2.2.2.1.len x23.2.2.2.2.2.2.1.cap),(.slice x23.2.2.2.2.2.2.2.ptr x23.2.2.2.2.2.2.2.len x23.2.2.2.2.2.2.2.cap)])] (.one (.sc .bool)) h22 fun r25 h23=>
 (ak.ok [] h23)∧
 Br (!r25)
 (R (.bool false) h23)
 (K3 () h23)))))
 (fun K2=>
 Br (s10.2 !=(0:Int)) (R (.bool false) h10) (Br (Option.isNone s10.1)
 (R (.bool false) h10)
 (K2 () h10))))
 (fun K1=>
 ∃x3:Int×Int×Int,ai h3 a2 0 [(.int .i64 x3.1),(.int .i64 x3.2.1),(.int .i64 x3.2.2)]∧
 (af Tryz.prog 7 #[] (.one (.sc .ptr)) h3 fun r4 h4=>
 (ak.ok [(a2,(.int .i64 x3.1)),(a2.add 1,(.int .i64 x3.2.1)),(a2.add 2,(.int .i64 x3.2.2))] h4)∧
 az Tryz.prog (Instr.buildSlice 22 2 #[(0,(.int .i64 (300:Int))),(1,(.int .i64 (300:Int)))]) (.one (.sc .slc)) h4 fun v5 h5=>
 (ak.ok [(a2,(.int .i64 x3.1)),(a2.add 1,(.int .i64 x3.2.1)),(a2.add 2,(.int .i64 x3.2.2))] h5)∧
 af Tryz.prog 6 #[(.agg #[(.int .i64 x3.1),(.int .i64 x3.2.1),(.int .i64 x3.2.2)]),(.int .i64 r1.2.1),(.pointer r4),(.slice v5.ptr v5.len v5.cap)] (.many [(.sc .ptr),(.sc (.int .i64))]) h5 fun r6 h6=>
 (ak.ok [] h6)∧
 K1 (r6.1,r6.2) h6)∧(az Tryz.prog (Instr.buildSlice 22 2 #[(0,(.int .i64 (300:Int))),(1,(.int .i64 (300:Int)))]) (.one (.sc .slc)) h3 fun v7 h7=>
 (ak.ok [(a2,(.int .i64 x3.1)),(a2.add 1,(.int .i64 x3.2.1)),(a2.add 2,(.int .i64 x3.2.2))] h7)∧
 af Tryz.prog 7 #[] (.one (.sc .ptr)) h7 fun r8 h8=>
 (ak.ok [(a2,(.int .i64 x3.1)),(a2.add 1,(.int .i64 x3.2.1)),(a2.add 2,(.int .i64 x3.2.2))] h8)∧
 af Tryz.prog 6 #[(.agg #[(.int .i64 x3.1),(.int .i64 x3.2.1),(.int .i64 x3.2.2)]),(.int .i64 r1.2.1),(.pointer r8),(.slice v7.ptr v7.len v7.cap)] (.many [(.sc .ptr),(.sc (.int .i64))]) h8 fun r9 h9=>
 (ak.ok [] h9)∧
 K1 (r9.1,r9.2) h9))
theorem mg (c_0:Sl) (n_1:Int) (x_2:Int) (gone_3:Int) {R:Value→Heap→Prop} {h:Heap} (hm:iQ c_0 n_1 x_2 gone_3 R h):ab Tryz.prog 4 #[(.slice c_0.ptr c_0.len c_0.cap),(.int .i64 n_1),(.int .i64 x_2),(.int .i64 gone_3)] h R:=aq ag Tryz.func4 (.two .n (.two .n (.two (.join [(12,(.sc .ptr)),(13,(.sc (.int .i64)))] [(12,14),(24,32)] .n) (.two (.join [] [(8,9),(32,38)] .n) (.two .n (.two .n (.two .n (.two (.join [] [(8,9),(56,74)] .n) (.two (.join [] [(8,9),(74,89)] .n) .n))))))))) hm
abbrev pr:FuncId:=5
noncomputable def kg (l_0:Sl) (R:Value→Heap→Prop) (h:Heap):Prop:=
 aK Tryz.prog (Instr.alloc 24 true (.tuple #[])) h fun a1 h1=>
 af Tryz.prog 25 #[(.slice l_0.ptr l_0.len l_0.cap),(.int .i64 (0:Int))] (.one (.sc (.int .i64))) h1 fun r2 h2=>
 af Tryz.prog 25 #[(.slice l_0.ptr l_0.len l_0.cap),(.int .i64 (1:Int))] (.one (.sc (.int .i64))) h2 fun r3 h3=>
 af Tryz.prog 25 #[(.slice l_0.ptr l_0.len l_0.cap),(.int .i64 (2:Int))] (.one (.sc (.int .i64))) h3 fun r4 h4=>
 af Tryz.prog 24 #[(.int .i64 r2),(.int .i64 r3),(.int .i64 r4)] (.one (.agg [(.int .i64),(.int .i64),(.int .i64)])) h4 fun r5 h5=>
 aK Tryz.prog (Instr.alloc 24 true (.tuple #[])) h5 fun a6 h6=>
 ae Tryz.prog (Instr.storeAt 24 (.pointer (some a6)) (.agg #[(.int .i64 r5.1),(.int .i64 r5.2.1),(.int .i64 r5.2.2)])) h6 fun _ h7=>
 aO (σ:=Sl×Int) (fun s7 K1 h8=>
 af Tryz.prog 25 #[(.slice l_0.ptr l_0.len l_0.cap),(.int .i64 (4:Int))] (.one (.sc (.int .i64))) h8 fun r8 h9=>
 af Tryz.prog 8 #[(.int .i64 r8),(.int .i64 (4:Int))] (.one (.sc (.int .i64))) h9 fun r9 h10=>
 Br (decide (s7.2<(IntKind.wrap .i64 ((2:Int)+r9))))
 (af Tryz.prog 25 #[(.slice l_0.ptr l_0.len l_0.cap),(.int .i64 (IntKind.wrap .i64 ((5:Int)+s7.2)))] (.one (.sc (.int .i64))) h10 fun r10 h11=>
 af Tryz.prog 8 #[(.int .i64 r10),(.int .i64 (50:Int))] (.one (.sc (.int .i64))) h11 fun r11 h12=>
 az Tryz.prog (Instr.buildSlice 22 1 #[(0,(.int .i64 (IntKind.wrap .i64 ((8:Int)+r11))))]) (.one (.sc .slc)) h12 fun v12 h13=>
 az Tryz.prog (Builtin.append_ #[22,22] 22 #[(.slice s7.1.ptr s7.1.len s7.1.cap),(.slice v12.ptr v12.len v12.cap)]) (.one (.sc .slc)) h13 fun v13 h14=>
 K1 ((⟨v13.ptr,v13.len,v13.cap⟩:Sl),IntKind.wrap .i64 (s7.2+(1:Int))) h14)
 (∃x14:Int×Int×Int,ai h10 a6 0 [(.int .i64 x14.1),(.int .i64 x14.2.1),(.int .i64 x14.2.2)]∧
 af Tryz.prog 25 #[(.slice l_0.ptr l_0.len l_0.cap),(.int .i64 (3:Int))] (.one (.sc (.int .i64))) h10 fun r15 h15=>
 (ak.ok [(a6,(.int .i64 x14.1)),(a6.add 1,(.int .i64 x14.2.1)),(a6.add 2,(.int .i64 x14.2.2))] h15)∧
 af Tryz.prog 8 #[(.int .i64 r15),(.int .i64 (7:Int))] (.one (.sc (.int .i64))) h15 fun r16 h16=>
 (ak.ok [(a6,(.int .i64 x14.1)),(a6.add 1,(.int .i64 x14.2.1)),(a6.add 2,(.int .i64 x14.2.2))] h16)∧
 ae Tryz.prog (Instr.storeAt 24 (.pointer (some a1)) (.agg #[(.int .i64 x14.1),(.int .i64 x14.2.1),(.int .i64 x14.2.2)])) h16 fun _ h17=>
 (ak.ok [] h17)∧
 ∃res17:Int×Int×Int,ai h17 a1 0 [(.int .i64 res17.1),(.int .i64 res17.2.1),(.int .i64 res17.2.2)]∧
 R (.tuple #[(.agg #[(.int .i64 res17.1),(.int .i64 res17.2.1),(.int .i64 res17.2.2)]),(.int .i64 r16),(.slice s7.1.ptr s7.1.len s7.1.cap)]) h17)) ((⟨none,0,0⟩:Sl),(0:Int)) h7
theorem oI (l_0:Sl) {R:Value→Heap→Prop} {h:Heap} (hm:kg l_0 R h):ab Tryz.prog 5 #[(.slice l_0.ptr l_0.len l_0.cap)] h R:=aq ag Tryz.func5 (.two .n (.two .n (.two .n (.two .n (.two (.two .n (.inn (.loop [(7,(.sc .slc)),(8,(.sc (.int .i64)))] [(7,9),(16,35)] .n))) .n))))) hm
abbrev qB:FuncId:=6
noncomputable def rL (p_0:Int×Int×Int) (extra_1:Int) (pw_2:Option Addr) (cells_3:Sl) (R:Value→Heap→Prop) (h:Heap):Prop:=
 aK Tryz.prog (Instr.box 24 (.agg #[(.int .i64 p_0.1),(.int .i64 p_0.2.1),(.int .i64 p_0.2.2)])) h fun a1 h1=>
 af Tryz.prog 26 #[(.slice cells_3.ptr cells_3.len cells_3.cap)] (.many [(.sc .slc),(.sc .bool)]) h1 fun r2 h2=>
 aZ (σ:=Unit) (fun _ h4=>
 aZ (σ:=Option Addr) (fun s10 h7=>
 aO (σ:=Int) (fun s11 K3 h8=>
 Br (decide (s11<((r2.1.len:Nat):Int)))
 (∃a12:Addr,(r2.1.ptr=some a12∧0≤s11∧s11<((r2.1.len:Nat):Int))∧
 ∃x13:Int,cellOf h8 (a12.add (s11.toNat*1))=some (.int .i64 x13)∧
 ∃a14:Addr,(cells_3.ptr=some a14∧0≤x13∧x13<((cells_3.len:Nat):Int))∧
 ∃x15:Int,cellOf h8 (a14.add (x13.toNat*1))=some (.int .i64 x15)∧
 ∃a16:Addr,(s10=some a16)∧
 ∃x17:Int×Int×Int×Int×Int×Int×Sl×Sl,ai h8 a16 0 [(.int .i64 x17.1),(.int .i64 x17.2.1),(.int .i64 x17.2.2.1),(.int .i64 x17.2.2.2.1),(.int .i64 x17.2.2.2.2.1),(.int .i64 x17.2.2.2.2.2.1),(.slice x17.2.2.2.2.2.2.1.ptr x17.2.2.2.2.2.2.1.len x17.2.2.2.2.2.2.1.cap),(.slice x17.2.2.2.2.2.2.2.ptr x17.2.2.2.2.2.2.2.len x17.2.2.2.2.2.2.2.cap)]∧
 af Tryz.prog 29 #[(.agg #[(.int .i64 x17.1),(.int .i64 x17.2.1),(.int .i64 x17.2.2.1),(.int .i64 x17.2.2.2.1),(.int .i64 x17.2.2.2.2.1),(.int .i64 x17.2.2.2.2.2.1),(.slice x17.2.2.2.2.2.2.1.ptr x17.2.2.2.2.2.2.1.len x17.2.2.2.2.2.2.1.cap),(.slice x17.2.2.2.2.2.2.2.ptr x17.2.2.2.2.2.2.2.len x17.2.2.2.2.2.2.2.cap)])] (.one (.sc .slc)) h8 fun r18 h9=>
 (ak.ok [(a14.add (x13.toNat*1),(.int .i64 x15))] h9)∧
 Br (decide (x15<((r18.len:Nat):Int)))
 (R (.tuple #[(.pointer none),(.int .i64 (7:Int))]) h9)
 (K3 (IntKind.wrap .i64 (s11+(1:Int))) h9))
 (aO (σ:=Int) (fun s19 K4 h10=>
 Br (decide (s19<((r2.1.len:Nat):Int)))
 (∃a20:Addr,(r2.1.ptr=some a20∧0≤s19∧s19<((r2.1.len:Nat):Int))∧
 ∃x21:Int,cellOf h10 (a20.add (s19.toNat*1))=some (.int .i64 x21)∧
 ∃a22:Addr,(cells_3.ptr=some a22∧0≤x21∧x21<((cells_3.len:Nat):Int))∧
 ∃x23:Int,cellOf h10 (a22.add (x21.toNat*1))=some (.int .i64 x23)∧
 ∃a24:Addr,(s10=some a24)∧
 af Tryz.prog 30 #[(.int .i64 x23),(.pointer pw_2)] (.one (.sc .ptr)) h10 fun r25 h11=>
 (ak.ok [] h11)∧
 (0≤x21∧x21<((64:Nat):Int))∧
 ae Tryz.prog (Instr.storeAt 37 (.pointer (some ((a24.add 10).add (x21.toNat*1)))) (.pointer r25)) h11 fun _ h12=>
 (ak.ok [] h12)∧
 K4 (IntKind.wrap .i64 (s19+(1:Int))) h12)
 (∃a26:Addr,(s10=some a26)∧
 ∃x27:Int×Int×Int×Int×Int×Int×Sl×Sl,ai h10 a26 0 [(.int .i64 x27.1),(.int .i64 x27.2.1),(.int .i64 x27.2.2.1),(.int .i64 x27.2.2.2.1),(.int .i64 x27.2.2.2.2.1),(.int .i64 x27.2.2.2.2.2.1),(.slice x27.2.2.2.2.2.2.1.ptr x27.2.2.2.2.2.2.1.len x27.2.2.2.2.2.2.1.cap),(.slice x27.2.2.2.2.2.2.2.ptr x27.2.2.2.2.2.2.2.len x27.2.2.2.2.2.2.2.cap)]∧
 af Tryz.prog 32 #[(.agg #[(.int .i64 x27.1),(.int .i64 x27.2.1),(.int .i64 x27.2.2.1),(.int .i64 x27.2.2.2.1),(.int .i64 x27.2.2.2.2.1),(.int .i64 x27.2.2.2.2.2.1),(.slice x27.2.2.2.2.2.2.1.ptr x27.2.2.2.2.2.2.1.len x27.2.2.2.2.2.2.1.cap),(.slice x27.2.2.2.2.2.2.2.ptr x27.2.2.2.2.2.2.2.len x27.2.2.2.2.2.2.2.cap)]),(.slice r2.1.ptr r2.1.len r2.1.cap)] (.one (.sc .slc)) h10 fun r28 h13=>
 af Tryz.prog 31 #[(.func (.func 12) #[(.pointer s10)] #[]),(.slice r28.ptr r28.len r28.cap)] (.one (.sc (.int .i64))) h13 fun r29 h14=>
 Br (r29 !=(0:Int))
 (R (.tuple #[(.pointer none),(.int .i64 r29)]) h14)
 (R (.tuple #[(.pointer s10),(.int .i64 (0:Int))]) h14))) (0:Int) h8)) (0:Int) h7)
 (fun K2=>
 ∃x6:Int×Int×Int,ai h4 a1 0 [(.int .i64 x6.1),(.int .i64 x6.2.1),(.int .i64 x6.2.2)]∧
 af Tryz.prog 28 #[(.pointer pw_2)] (.one (.sc (.int .i64))) h4 fun r7 h5=>
 (ak.ok [(a1,(.int .i64 x6.1)),(a1.add 1,(.int .i64 x6.2.1)),(a1.add 2,(.int .i64 x6.2.2))] h5)∧
 ∃v8:Value,(ar Tryz.prog (Instr.build 64 #[(0,(.agg #[(.int .i64 (1:Int)),(.int .i64 (0:Int)),(.int .i64 x6.1),(.int .i64 x6.2.1),(.int .i64 x6.2.2),(.int .i64 extra_1),(.slice r2.1.ptr r2.1.len r2.1.cap),(.slice none 0 0)])),(1,(.pointer pw_2)),(2,(.int .i64 r7))]) v8)∧
 aK Tryz.prog (Instr.box 64 v8) h5 fun a9 h6=>
 (ak.ok [(a1,(.int .i64 x6.1)),(a1.add 1,(.int .i64 x6.2.1)),(a1.add 2,(.int .i64 x6.2.2))] h6)∧
 K2 (some a9) h6))
 (fun K1=>
 Br (!r2.2) (R (.tuple #[(.pointer none),(.int .i64 (1:Int))]) h2) (∃x3:Int×Int×Int,ai h2 a1 0 [(.int .i64 x3.1),(.int .i64 x3.2.1),(.int .i64 x3.2.2)]∧
 af Tryz.prog 27 #[(.agg #[(.int .i64 x3.1),(.int .i64 x3.2.1),(.int .i64 x3.2.2)])] (.one (.sc .bool)) h2 fun r4 h3=>
 Br (!r4) (R (.tuple #[(.pointer none),(.int .i64 (1:Int))]) h3) (Br (decide (extra_1<(0:Int))) (R (.tuple #[(.pointer none),(.int .i64 (1:Int))]) h3) (Br (decide (extra_1>(16:Int))) (R (.tuple #[(.pointer none),(.int .i64 (1:Int))]) h3) (Br (Option.isNone pw_2)
 (R (.tuple #[(.pointer none),(.int .i64 (1:Int))]) h3)
 (K1 () h3))))))
theorem y6 (p_0:Int×Int×Int) (extra_1:Int) (pw_2:Option Addr) (cells_3:Sl) {R:Value→Heap→Prop} {h:Heap} (hm:rL p_0 extra_1 pw_2 cells_3 R h):ab Tryz.prog 6 #[(.agg #[(.int .i64 p_0.1),(.int .i64 p_0.2.1),(.int .i64 p_0.2.2)]),(.int .i64 extra_1),(.pointer pw_2),(.slice cells_3.ptr cells_3.len cells_3.cap)] h R:=aq ag Tryz.func6 (.two .n (.two .n (.two (.join [] [(8,10),(23,42)] .n) (.two (.join [(12,(.sc .ptr))] [(12,13),(42,51)] .n) (.two (.two .n (.inn (.loop [(53,(.sc (.int .i64)))] [(8,10),(14,15),(53,69)] .n))) (.two (.two .n (.inn (.loop [(71,(.sc (.int .i64)))] [(16,17),(71,87)] .n))) .n)))))) hm
abbrev Fg:FuncId:=7
noncomputable def xY (R:Value→Heap→Prop) (h:Heap):Prop:=
 aK Tryz.prog (Instr.box 72 (.agg #[(.bool false),(.bool false),(.int .i64 (0:Int)),(.int .i64 (0:Int))])) h fun a1 h1=>
 R (.pointer (some a1)) h1
theorem DK {R:Value→Heap→Prop} {h:Heap} (hm:xY R h):ab Tryz.prog 7 #[] h R:=aq ag Tryz.func7 .n hm
abbrev pv:FuncId:=8
noncomputable def kh (x_0:Int) (n_1:Int) (R:Value→Heap→Prop) (h:Heap):Prop:=
 (n_1≠0)∧
 aZ (σ:=Int) (fun s1 h1=>
 R (.int .i64 s1) h1)
 (fun K1=>
 Br (decide ((Int.tmod x_0 n_1)<(0:Int)))
 (K1 (IntKind.wrap .i64 ((Int.tmod x_0 n_1)+n_1)) h)
 (K1 (Int.tmod x_0 n_1) h))
theorem oJ (x_0:Int) (n_1:Int) {R:Value→Heap→Prop} {h:Heap} (hm:kh x_0 n_1 R h):ab Tryz.prog 8 #[(.int .i64 x_0),(.int .i64 n_1)] h R:=aq ag Tryz.func8 (.two .n (.two .n (.two (.join [(0,(.sc (.int .i64)))] [(0,1),(8,13)] .n) .n))) hm
abbrev Fh:FuncId:=9
noncomputable def xZ (s_0:Option Addr) (slot_1:Int) (cells_2:Int) (R:Value→Heap→Prop) (h:Heap):Prop:=
 af Tryz.prog 33 #[(.pointer s_0)] (.one (.sc .bool)) h fun r1 h1=>
 Br r1
 (R (.int .i64 (14:Int)) h1)
 (af Tryz.prog 14 #[(.pointer s_0)] (.one (.agg [(.int .i64),(.int .i64),(.int .i64),(.int .i64),(.int .i64),(.int .i64),.slc,.slc])) h1 fun r2 h2=>
 aK Tryz.prog (Instr.alloc 42 true (.tuple #[])) h2 fun a3 h3=>
 ae Tryz.prog (Instr.storeAt 42 (.pointer (some a3)) (.agg #[(.int .i64 r2.1),(.int .i64 r2.2.1),(.int .i64 r2.2.2.1),(.int .i64 r2.2.2.2.1),(.int .i64 r2.2.2.2.2.1),(.int .i64 r2.2.2.2.2.2.1),(.slice r2.2.2.2.2.2.2.1.ptr r2.2.2.2.2.2.2.1.len r2.2.2.2.2.2.2.1.cap),(.slice r2.2.2.2.2.2.2.2.ptr r2.2.2.2.2.2.2.2.len r2.2.2.2.2.2.2.2.cap)])) h3 fun _ h4=>
 af Tryz.prog 34 #[(.int .i64 slot_1),(.int .i64 cells_2)] (.one (.sc .bool)) h4 fun r4 h5=>
 Br (!r4)
 (R (.int .i64 (1:Int)) h5)
 (∃x5:Sl,cellOf h5 (a3.add 6)=some (.slice x5.ptr x5.len x5.cap)∧
 af Tryz.prog 35 #[(.slice x5.ptr x5.len x5.cap),(.int .i64 slot_1)] (.one (.sc .bool)) h5 fun r6 h6=>
 Br r6
 (R (.int .i64 (4:Int)) h6)
 (∃x7:Int,cellOf h6 a3=some (.int .i64 x7)∧
 Br (decide (x7≥(2147483647:Int)))
 (R (.int .i64 (7:Int)) h6)
 (af Tryz.prog 37 #[(.pointer s_0)] (.one (.sc .ptr)) h6 fun r8 h7=>
 af Tryz.prog 30 #[(.int .i64 cells_2),(.pointer r8)] (.one (.sc .ptr)) h7 fun r9 h8=>
 af Tryz.prog 36 #[(.pointer s_0),(.int .i64 slot_1),(.pointer r9)] (.many []) h8 fun _ h9=>
 ∃x11:Int,cellOf h9 a3=some (.int .i64 x11)∧
 ae Tryz.prog (Instr.storeAt 3 (.pointer (some a3)) (.int .i64 (IntKind.wrap .i64 (x11+(1:Int))))) h9 fun _ h10=>
 ∃x12:Sl,cellOf h10 (a3.add 6)=some (.slice x12.ptr x12.len x12.cap)∧
 az Tryz.prog (Instr.buildSlice 22 1 #[(0,(.int .i64 slot_1))]) (.one (.sc .slc)) h10 fun v13 h11=>
 az Tryz.prog (Builtin.append_ #[22,22] 22 #[(.slice x12.ptr x12.len x12.cap),(.slice v13.ptr v13.len v13.cap)]) (.one (.sc .slc)) h11 fun v14 h12=>
 ae Tryz.prog (Instr.storeAt 22 (.pointer (some (a3.add 6))) (.slice v14.ptr v14.len v14.cap)) h12 fun _ h13=>
 ∃x15:Sl,cellOf h13 (a3.add 6)=some (.slice x15.ptr x15.len x15.cap)∧
 af Tryz.prog 38 #[(.slice x15.ptr x15.len x15.cap)] (.many []) h13 fun _ h14=>
 ∃x17:Int×Int×Int×Int×Int×Int×Sl×Sl,ai h14 a3 0 [(.int .i64 x17.1),(.int .i64 x17.2.1),(.int .i64 x17.2.2.1),(.int .i64 x17.2.2.2.1),(.int .i64 x17.2.2.2.2.1),(.int .i64 x17.2.2.2.2.2.1),(.slice x17.2.2.2.2.2.2.1.ptr x17.2.2.2.2.2.2.1.len x17.2.2.2.2.2.2.1.cap),(.slice x17.2.2.2.2.2.2.2.ptr x17.2.2.2.2.2.2.2.len x17.2.2.2.2.2.2.2.cap)]∧
 af Tryz.prog 39 #[(.pointer s_0),(.agg #[(.int .i64 x17.1),(.int .i64 x17.2.1),(.int .i64 x17.2.2.1),(.int .i64 x17.2.2.2.1),(.int .i64 x17.2.2.2.2.1),(.int .i64 x17.2.2.2.2.2.1),(.slice x17.2.2.2.2.2.2.1.ptr x17.2.2.2.2.2.2.1.len x17.2.2.2.2.2.2.1.cap),(.slice x17.2.2.2.2.2.2.2.ptr x17.2.2.2.2.2.2.2.len x17.2.2.2.2.2.2.2.cap)])] (.one (.sc (.int .i64))) h14 fun r18 h15=>
 aZ (σ:=Unit) (fun _ h17=>
 R (.int .i64 r18) h17)
 (fun K1=>
 Br (r18==(7:Int))
 (af Tryz.prog 36 #[(.pointer s_0),(.int .i64 slot_1),(.pointer none)] (.many []) h15 fun _ h16=>
 K1 () h16)
 (K1 () h15))))))
theorem DL (s_0:Option Addr) (slot_1:Int) (cells_2:Int) {R:Value→Heap→Prop} {h:Heap} (hm:xZ s_0 slot_1 cells_2 R h):ab Tryz.prog 9 #[(.pointer s_0),(.int .i64 slot_1),(.int .i64 cells_2)] h R:=aq ag Tryz.func9 (.two .n (.two .n (.two .n (.two .n (.two .n (.two .n (.two .n (.two .n (.two .n (.two (.join [] [(50,55)] .n) .n)))))))))) hm
abbrev n9:FuncId:=10
noncomputable def jD (a_0:Sl) (b_1:Sl) (R:Value→Heap→Prop) (h:Heap):Prop:=
 Br (((a_0.len:Nat):Int) !=((b_1.len:Nat):Int))
 (R (.bool false) h)
 (aO (σ:=Int) (fun s1 K1 h1=>
 Br (decide (s1<((a_0.len:Nat):Int)))
 (∃a2:Addr,(a_0.ptr=some a2∧0≤s1∧s1<((a_0.len:Nat):Int))∧
 ∃x3:Int,cellOf h1 (a2.add (s1.toNat*1))=some (.int .i64 x3)∧
 ∃a4:Addr,(b_1.ptr=some a4∧0≤s1∧s1<((b_1.len:Nat):Int))∧
 ∃x5:Int,cellOf h1 (a4.add (s1.toNat*1))=some (.int .i64 x5)∧
 Br (x3 !=x5)
 (R (.bool false) h1)
 (K1 (IntKind.wrap .i64 (s1+(1:Int))) h1))
 (R (.bool true) h1)) (0:Int) h)
theorem nu (a_0:Sl) (b_1:Sl) {R:Value→Heap→Prop} {h:Heap} (hm:jD a_0 b_1 R h):ab Tryz.prog 10 #[(.slice a_0.ptr a_0.len a_0.cap),(.slice b_1.ptr b_1.len b_1.cap)] h R:=aq ag Tryz.func10 (.two .n (.two .n (.two (.two .n (.inn (.loop [(13,(.sc (.int .i64)))] [(4,6),(13,26)] .n))) .n))) hm
abbrev uR:FuncId:=11
noncomputable def nv (s_0:Option Addr) (R:Value→Heap→Prop) (h:Heap):Prop:=
 Br (Option.isNone s_0)
 (R (.slice none 0 0) h)
 (∃a1:Addr,(s_0=some a1)∧
 ∃x2:Sl,cellOf h (a1.add 6)=some (.slice x2.ptr x2.len x2.cap)∧
 af Tryz.prog 40 #[(.func (.func 12) #[(.pointer s_0)] #[]),(.slice x2.ptr x2.len x2.cap)] (.one (.sc .slc)) h fun r3 h1=>
 R (.slice r3.ptr r3.len r3.cap) h1)
theorem tk (s_0:Option Addr) {R:Value→Heap→Prop} {h:Heap} (hm:nv s_0 R h):ab Tryz.prog 11 #[(.pointer s_0)] h R:=aq ag Tryz.func11 .n hm
abbrev bQ:FuncId:=12
noncomputable def mi (s_0:Option Addr) (slot_1:Int) (R:Value→Heap→Prop) (h:Heap):Prop:=
 aZ (σ:=Unit) (fun _ h1=>
 ∃a2:Addr,(s_0=some a2)∧
 (0≤slot_1∧slot_1<((64:Nat):Int))∧
 ∃x3:Option Addr,cellOf h1 ((a2.add 10).add (slot_1.toNat*1))=some (.pointer x3)∧
 R (.pointer x3) h1)
 (fun K1=>
 Br (Option.isNone s_0) (R (.pointer none) h) (Br (decide (slot_1<(0:Int))) (R (.pointer none) h) (Br (decide (slot_1≥(64:Int)))
 (R (.pointer none) h)
 (K1 () h))))
theorem rM (s_0:Option Addr) (slot_1:Int) {R:Value→Heap→Prop} {h:Heap} (hm:mi s_0 slot_1 R h):ab Tryz.prog 12 #[(.pointer s_0),(.int .i64 slot_1)] h R:=aq ag Tryz.func12 (.two .n (.two (.join [] [(4,15)] .n) .n)) hm
abbrev uS:FuncId:=13
noncomputable def nw (d_0:Option Addr) (R:Value→Heap→Prop) (h:Heap):Prop:=
 Br (Option.isNone d_0)
 (R (.int .i64 (0:Int)) h)
 (∃a1:Addr,(d_0=some a1)∧
 ∃x2:Int,cellOf h (a1.add 1)=some (.int .i64 x2)∧
 R (.int .i64 x2) h)
theorem tl (d_0:Option Addr) {R:Value→Heap→Prop} {h:Heap} (hm:nw d_0 R h):ab Tryz.prog 13 #[(.pointer d_0)] h R:=aq ag Tryz.func13 .n hm
abbrev gJ:FuncId:=14
noncomputable def ie (s_0:Option Addr) (R:Value→Heap→Prop) (h:Heap):Prop:=
 aK Tryz.prog (Instr.alloc 42 true (.tuple #[])) h fun a1 h1=>
 Br (Option.isNone s_0)
 (ae Tryz.prog (Instr.storeAt 42 (.pointer (some a1)) (.agg #[(.int .i64 (0:Int)),(.int .i64 (0:Int)),(.int .i64 (0:Int)),(.int .i64 (0:Int)),(.int .i64 (0:Int)),(.int .i64 (0:Int)),(.slice none 0 0),(.slice none 0 0)])) h1 fun _ h2=>
 ∃res2:Int×Int×Int×Int×Int×Int×Sl×Sl,ai h2 a1 0 [(.int .i64 res2.1),(.int .i64 res2.2.1),(.int .i64 res2.2.2.1),(.int .i64 res2.2.2.2.1),(.int .i64 res2.2.2.2.2.1),(.int .i64 res2.2.2.2.2.2.1),(.slice res2.2.2.2.2.2.2.1.ptr res2.2.2.2.2.2.2.1.len res2.2.2.2.2.2.2.1.cap),(.slice res2.2.2.2.2.2.2.2.ptr res2.2.2.2.2.2.2.2.len res2.2.2.2.2.2.2.2.cap)]∧
 R (.agg #[(.int .i64 res2.1),(.int .i64 res2.2.1),(.int .i64 res2.2.2.1),(.int .i64 res2.2.2.2.1),(.int .i64 res2.2.2.2.2.1),(.int .i64 res2.2.2.2.2.2.1),(.slice res2.2.2.2.2.2.2.1.ptr res2.2.2.2.2.2.2.1.len res2.2.2.2.2.2.2.1.cap),(.slice res2.2.2.2.2.2.2.2.ptr res2.2.2.2.2.2.2.2.len res2.2.2.2.2.2.2.2.cap)]) h2)
 (∃a3:Addr,(s_0=some a3)∧
 ∃x4:Int×Int×Int×Int×Int×Int×Sl×Sl,ai h1 a3 0 [(.int .i64 x4.1),(.int .i64 x4.2.1),(.int .i64 x4.2.2.1),(.int .i64 x4.2.2.2.1),(.int .i64 x4.2.2.2.2.1),(.int .i64 x4.2.2.2.2.2.1),(.slice x4.2.2.2.2.2.2.1.ptr x4.2.2.2.2.2.2.1.len x4.2.2.2.2.2.2.1.cap),(.slice x4.2.2.2.2.2.2.2.ptr x4.2.2.2.2.2.2.2.len x4.2.2.2.2.2.2.2.cap)]∧
 af Tryz.prog 41 #[(.agg #[(.int .i64 x4.1),(.int .i64 x4.2.1),(.int .i64 x4.2.2.1),(.int .i64 x4.2.2.2.1),(.int .i64 x4.2.2.2.2.1),(.int .i64 x4.2.2.2.2.2.1),(.slice x4.2.2.2.2.2.2.1.ptr x4.2.2.2.2.2.2.1.len x4.2.2.2.2.2.2.1.cap),(.slice x4.2.2.2.2.2.2.2.ptr x4.2.2.2.2.2.2.2.len x4.2.2.2.2.2.2.2.cap)])] (.one (.agg [(.int .i64),(.int .i64),(.int .i64),(.int .i64),(.int .i64),(.int .i64),.slc,.slc])) h1 fun r5 h3=>
 ae Tryz.prog (Instr.storeAt 42 (.pointer (some a1)) (.agg #[(.int .i64 r5.1),(.int .i64 r5.2.1),(.int .i64 r5.2.2.1),(.int .i64 r5.2.2.2.1),(.int .i64 r5.2.2.2.2.1),(.int .i64 r5.2.2.2.2.2.1),(.slice r5.2.2.2.2.2.2.1.ptr r5.2.2.2.2.2.2.1.len r5.2.2.2.2.2.2.1.cap),(.slice r5.2.2.2.2.2.2.2.ptr r5.2.2.2.2.2.2.2.len r5.2.2.2.2.2.2.2.cap)])) h3 fun _ h4=>
 ∃res6:Int×Int×Int×Int×Int×Int×Sl×Sl,ai h4 a1 0 [(.int .i64 res6.1),(.int .i64 res6.2.1),(.int .i64 res6.2.2.1),(.int .i64 res6.2.2.2.1),(.int .i64 res6.2.2.2.2.1),(.int .i64 res6.2.2.2.2.2.1),(.slice res6.2.2.2.2.2.2.1.ptr res6.2.2.2.2.2.2.1.len res6.2.2.2.2.2.2.1.cap),(.slice res6.2.2.2.2.2.2.2.ptr res6.2.2.2.2.2.2.2.len res6.2.2.2.2.2.2.2.cap)]∧
 R (.agg #[(.int .i64 res6.1),(.int .i64 res6.2.1),(.int .i64 res6.2.2.1),(.int .i64 res6.2.2.2.1),(.int .i64 res6.2.2.2.2.1),(.int .i64 res6.2.2.2.2.2.1),(.slice res6.2.2.2.2.2.2.1.ptr res6.2.2.2.2.2.2.1.len res6.2.2.2.2.2.2.1.cap),(.slice res6.2.2.2.2.2.2.2.ptr res6.2.2.2.2.2.2.2.len res6.2.2.2.2.2.2.2.cap)]) h4)
theorem jT (s_0:Option Addr) {R:Value→Heap→Prop} {h:Heap} (hm:ie s_0 R h):ab Tryz.prog 14 #[(.pointer s_0)] h R:=aq ag Tryz.func14 .n hm
abbrev ny:FuncId:=16
noncomputable def om (s_0:Option Addr) (name_1:ByteArray) (b_2:Sl) (R:Value→Heap→Prop) (h:Heap):Prop:=
 af Tryz.prog 47 #[(.pointer s_0),(.string name_1),(.slice b_2.ptr b_2.len b_2.cap)] (.one (.sc (.int .i64))) h fun r1 h1=>
 Br (r1 !=(0:Int))
 (R (.int .i64 r1) h1)
 (∃a2:Addr,(s_0=some a2)∧
 ∃x3:Int,cellOf h1 (a2.add 1)=some (.int .i64 x3)∧
 aK Tryz.prog (Instr.alloc 89 true (.tuple #[])) h1 fun a4 h2=>
 ae Tryz.prog (Instr.storeAt 89 (.pointer (some a4)) (.agg #[(.string name_1),(.int .i64 x3),(.int .i64 ((b_2.len:Nat):Int)),(.slice none 0 0)])) h2 fun _ h3=>
 aZ (σ:=Sl×Bool) (fun s12 h6=>
 Br (!s12.2)
 (R (.int .i64 (8:Int)) h6)
 (ae Tryz.prog (Instr.storeAt 22 (.pointer (some (a4.add 3))) (.slice s12.1.ptr s12.1.len s12.1.cap)) h6 fun _ h7=>
 ∃x13:ByteArray×Int×Int×Sl,ai h7 a4 0 [(.string x13.1),(.int .i64 x13.2.1),(.int .i64 x13.2.2.1),(.slice x13.2.2.2.ptr x13.2.2.2.len x13.2.2.2.cap)]∧
 af Tryz.prog 50 #[(.pointer s_0),(.agg #[(.string x13.1),(.int .i64 x13.2.1),(.int .i64 x13.2.2.1),(.slice x13.2.2.2.ptr x13.2.2.2.len x13.2.2.2.cap)]),(.slice b_2.ptr b_2.len b_2.cap)] (.many [(.sc .slc),(.sc .bool)]) h7 fun r14 h8=>
 aK Tryz.prog (Instr.alloc 69 true (.tuple #[])) h8 fun a15 h9=>
 ae Tryz.prog (Instr.storeAt 69 (.pointer (some a15)) (.slice r14.1.ptr r14.1.len r14.1.cap)) h9 fun _ h10=>
 Br (!r14.2)
 (R (.int .i64 (8:Int)) h10)
 (aZ (σ:=Addr×Sl) (fun s27 h22=>
 ∃x28:Int×Int×Int×Int×Int×Int×Sl×Sl,ai h22 s27.1 0 [(.int .i64 x28.1),(.int .i64 x28.2.1),(.int .i64 x28.2.2.1),(.int .i64 x28.2.2.2.1),(.int .i64 x28.2.2.2.2.1),(.int .i64 x28.2.2.2.2.2.1),(.slice x28.2.2.2.2.2.2.1.ptr x28.2.2.2.2.2.2.1.len x28.2.2.2.2.2.2.1.cap),(.slice x28.2.2.2.2.2.2.2.ptr x28.2.2.2.2.2.2.2.len x28.2.2.2.2.2.2.2.cap)]∧
 af Tryz.prog 29 #[(.agg #[(.int .i64 x28.1),(.int .i64 x28.2.1),(.int .i64 x28.2.2.1),(.int .i64 x28.2.2.2.1),(.int .i64 x28.2.2.2.2.1),(.int .i64 x28.2.2.2.2.2.1),(.slice x28.2.2.2.2.2.2.1.ptr x28.2.2.2.2.2.2.1.len x28.2.2.2.2.2.2.1.cap),(.slice x28.2.2.2.2.2.2.2.ptr x28.2.2.2.2.2.2.2.len x28.2.2.2.2.2.2.2.cap)])] (.one (.sc .slc)) h22 fun r29 h23=>
 aK Tryz.prog (Instr.alloc 3 true (.tuple #[])) h23 fun a30 h24=>
 ae Tryz.prog (Instr.storeAt 3 (.pointer (some a30)) (.int .i64 ((r29.len:Nat):Int))) h24 fun _ h25=>
 af Tryz.prog 53 #[(.pointer s_0),(.slice s27.2.ptr s27.2.len s27.2.cap),(.func (.func 52) #[] #[(.pointer (some a30)),(.pointer (some a15))])] (.one (.sc .bool)) h25 fun r31 h26=>
 Br (!r31)
 (R (.int .i64 (7:Int)) h26)
 (af Tryz.prog 54 #[(.pointer s_0),(.slice s27.2.ptr s27.2.len s27.2.cap),(.func (.func 52) #[] #[(.pointer (some a30)),(.pointer (some a15))])] (.one (.sc (.int .i64))) h26 fun r32 h27=>
 Br (r32 !=(0:Int))
 (R (.int .i64 r32) h27)
 (∃x33:Sl,cellOf h27 a15=some (.slice x33.ptr x33.len x33.cap)∧
 af Tryz.prog 31 #[(.func (.func 12) #[(.pointer s_0)] #[]),(.slice x33.ptr x33.len x33.cap)] (.one (.sc (.int .i64))) h27 fun r34 h28=>
 Br (r34 !=(0:Int))
 (R (.int .i64 r34) h28)
 (∃x35:Int×Int×Int×Int×Int×Int×Sl×Sl,ai h28 s27.1 0 [(.int .i64 x35.1),(.int .i64 x35.2.1),(.int .i64 x35.2.2.1),(.int .i64 x35.2.2.2.1),(.int .i64 x35.2.2.2.2.1),(.int .i64 x35.2.2.2.2.2.1),(.slice x35.2.2.2.2.2.2.1.ptr x35.2.2.2.2.2.2.1.len x35.2.2.2.2.2.2.1.cap),(.slice x35.2.2.2.2.2.2.2.ptr x35.2.2.2.2.2.2.2.len x35.2.2.2.2.2.2.2.cap)]∧
 af Tryz.prog 55 #[(.pointer s_0),(.agg #[(.int .i64 x35.1),(.int .i64 x35.2.1),(.int .i64 x35.2.2.1),(.int .i64 x35.2.2.2.1),(.int .i64 x35.2.2.2.2.1),(.int .i64 x35.2.2.2.2.2.1),(.slice x35.2.2.2.2.2.2.1.ptr x35.2.2.2.2.2.2.1.len x35.2.2.2.2.2.2.1.cap),(.slice x35.2.2.2.2.2.2.2.ptr x35.2.2.2.2.2.2.2.len x35.2.2.2.2.2.2.2.cap)]),(.slice s27.2.ptr s27.2.len s27.2.cap)] (.one (.sc (.int .i64))) h28 fun r36 h29=>
 R (.int .i64 r36) h29))))
 (fun K2=>
 ∃a16:Addr,(s_0=some a16)∧
 ∃x17:Int×Int×Int×Int×Int×Int×Sl×Sl,ai h10 a16 0 [(.int .i64 x17.1),(.int .i64 x17.2.1),(.int .i64 x17.2.2.1),(.int .i64 x17.2.2.2.1),(.int .i64 x17.2.2.2.2.1),(.int .i64 x17.2.2.2.2.2.1),(.slice x17.2.2.2.2.2.2.1.ptr x17.2.2.2.2.2.2.1.len x17.2.2.2.2.2.2.1.cap),(.slice x17.2.2.2.2.2.2.2.ptr x17.2.2.2.2.2.2.2.len x17.2.2.2.2.2.2.2.cap)]∧
 ∃x18:ByteArray×Int×Int×Sl,ai h10 a4 0 [(.string x18.1),(.int .i64 x18.2.1),(.int .i64 x18.2.2.1),(.slice x18.2.2.2.ptr x18.2.2.2.len x18.2.2.2.cap)]∧
 (af Tryz.prog 51 #[(.agg #[(.int .i64 x17.1),(.int .i64 x17.2.1),(.int .i64 x17.2.2.1),(.int .i64 x17.2.2.2.1),(.int .i64 x17.2.2.2.2.1),(.int .i64 x17.2.2.2.2.2.1),(.slice x17.2.2.2.2.2.2.1.ptr x17.2.2.2.2.2.2.1.len x17.2.2.2.2.2.2.1.cap),(.slice x17.2.2.2.2.2.2.2.ptr x17.2.2.2.2.2.2.2.len x17.2.2.2.2.2.2.2.cap)]),(.agg #[(.string x18.1),(.int .i64 x18.2.1),(.int .i64 x18.2.2.1),(.slice x18.2.2.2.ptr x18.2.2.2.len x18.2.2.2.cap)])] (.one (.agg [(.int .i64),(.int .i64),(.int .i64),(.int .i64),(.int .i64),(.int .i64),.slc,.slc])) h10 fun r19 h11=>
 (ak.ok [] h11)∧
 (af Tryz.prog 11 #[(.pointer s_0)] (.one (.sc .slc)) h11 fun r20 h12=>
 (ak.ok [] h12)∧
 aK Tryz.prog (Instr.alloc 42 true (.tuple #[])) h12 fun a21 h13=>
 (ak.ok [] h13)∧
 ae Tryz.prog (Instr.storeAt 42 (.pointer (some a21)) (.agg #[(.int .i64 r19.1),(.int .i64 r19.2.1),(.int .i64 r19.2.2.1),(.int .i64 r19.2.2.2.1),(.int .i64 r19.2.2.2.2.1),(.int .i64 r19.2.2.2.2.2.1),(.slice r19.2.2.2.2.2.2.1.ptr r19.2.2.2.2.2.2.1.len r19.2.2.2.2.2.2.1.cap),(.slice r19.2.2.2.2.2.2.2.ptr r19.2.2.2.2.2.2.2.len r19.2.2.2.2.2.2.2.cap)])) h13 fun _ h14=>
 (ak.ok [] h14)∧
 K2 (a21,(⟨r20.ptr,r20.len,r20.cap⟩:Sl)) h14)∧(aK Tryz.prog (Instr.alloc 42 true (.tuple #[])) h11 fun a22 h15=>
 (ak.ok [] h15)∧
 af Tryz.prog 11 #[(.pointer s_0)] (.one (.sc .slc)) h15 fun r23 h16=>
 (ak.ok [] h16)∧
 ae Tryz.prog (Instr.storeAt 42 (.pointer (some a22)) (.agg #[(.int .i64 r19.1),(.int .i64 r19.2.1),(.int .i64 r19.2.2.1),(.int .i64 r19.2.2.2.1),(.int .i64 r19.2.2.2.2.1),(.int .i64 r19.2.2.2.2.2.1),(.slice r19.2.2.2.2.2.2.1.ptr r19.2.2.2.2.2.2.1.len r19.2.2.2.2.2.2.1.cap),(.slice r19.2.2.2.2.2.2.2.ptr r19.2.2.2.2.2.2.2.len r19.2.2.2.2.2.2.2.cap)])) h16 fun _ h17=>
 (ak.ok [] h17)∧
 K2 (a22,(⟨r23.ptr,r23.len,r23.cap⟩:Sl)) h17))∧(aK Tryz.prog (Instr.alloc 42 true (.tuple #[])) h10 fun a24 h18=>
 (ak.ok [(a4,(.string x18.1)),(a4.add 1,(.int .i64 x18.2.1)),(a4.add 2,(.int .i64 x18.2.2.1)),(a4.add 3,(.slice x18.2.2.2.ptr x18.2.2.2.len x18.2.2.2.cap)),(a16,(.int .i64 x17.1)),(a16.add 1,(.int .i64 x17.2.1)),(a16.add 2,(.int .i64 x17.2.2.1)),(a16.add 3,(.int .i64 x17.2.2.2.1)),(a16.add 4,(.int .i64 x17.2.2.2.2.1)),(a16.add 5,(.int .i64 x17.2.2.2.2.2.1)),(a16.add 6,(.slice x17.2.2.2.2.2.2.1.ptr x17.2.2.2.2.2.2.1.len x17.2.2.2.2.2.2.1.cap)),(a16.add 7,(.slice x17.2.2.2.2.2.2.2.ptr x17.2.2.2.2.2.2.2.len x17.2.2.2.2.2.2.2.cap))] h18)∧
 af Tryz.prog 51 #[(.agg #[(.int .i64 x17.1),(.int .i64 x17.2.1),(.int .i64 x17.2.2.1),(.int .i64 x17.2.2.2.1),(.int .i64 x17.2.2.2.2.1),(.int .i64 x17.2.2.2.2.2.1),(.slice x17.2.2.2.2.2.2.1.ptr x17.2.2.2.2.2.2.1.len x17.2.2.2.2.2.2.1.cap),(.slice x17.2.2.2.2.2.2.2.ptr x17.2.2.2.2.2.2.2.len x17.2.2.2.2.2.2.2.cap)]),(.agg #[(.string x18.1),(.int .i64 x18.2.1),(.int .i64 x18.2.2.1),(.slice x18.2.2.2.ptr x18.2.2.2.len x18.2.2.2.cap)])] (.one (.agg [(.int .i64),(.int .i64),(.int .i64),(.int .i64),(.int .i64),(.int .i64),.slc,.slc])) h18 fun r25 h19=>
 (ak.ok [] h19)∧
 af Tryz.prog 11 #[(.pointer s_0)] (.one (.sc .slc)) h19 fun r26 h20=>
 (ak.ok [] h20)∧
 ae Tryz.prog (Instr.storeAt 42 (.pointer (some a24)) (.agg #[(.int .i64 r25.1),(.int .i64 r25.2.1),(.int .i64 r25.2.2.1),(.int .i64 r25.2.2.2.1),(.int .i64 r25.2.2.2.2.1),(.int .i64 r25.2.2.2.2.2.1),(.slice r25.2.2.2.2.2.2.1.ptr r25.2.2.2.2.2.2.1.len r25.2.2.2.2.2.2.1.cap),(.slice r25.2.2.2.2.2.2.2.ptr r25.2.2.2.2.2.2.2.len r25.2.2.2.2.2.2.2.cap)])) h20 fun _ h21=>
 (ak.ok [] h21)∧
 K2 (a24,(⟨r26.ptr,r26.len,r26.cap⟩:Sl)) h21)))))
 (fun K1=>
 ∃a5:Addr,(s_0=some a5)∧
 ∃x6:Int×Int×Int,ai h3 (a5.add 2) 0 [(.int .i64 x6.1),(.int .i64 x6.2.1),(.int .i64 x6.2.2)]∧
 ∃x7:Int,cellOf h3 (a4.add 1)=some (.int .i64 x7)∧
 ∃a8:Addr,(s_0=some a8)∧
 ∃x9:Int×Int×Int,ai h3 (a8.add 2) 0 [(.int .i64 x9.1),(.int .i64 x9.2.1),(.int .i64 x9.2.2)]∧
 af Tryz.prog 49 #[(.agg #[(.int .i64 x9.1),(.int .i64 x9.2.1),(.int .i64 x9.2.2)]),(.int .i64 ((b_2.len:Nat):Int))] (.one (.sc (.int .i64))) h3 fun r10 h4=>
 (ak.ok [(a4.add 1,(.int .i64 x7)),(a5.add 2,(.int .i64 x6.1)),((a5.add 2).add 1,(.int .i64 x6.2.1)),((a5.add 2).add 2,(.int .i64 x6.2.2))] h4)∧
 af Tryz.prog 48 #[(.agg #[(.int .i64 x6.1),(.int .i64 x6.2.1),(.int .i64 x6.2.2)]),(.int .i64 x7),(.int .i64 r10)] (.many [(.sc .slc),(.sc .bool)]) h4 fun r11 h5=>
 (ak.ok [] h5)∧
 K1 ((⟨r11.1.ptr,r11.1.len,r11.1.cap⟩:Sl),r11.2) h5))
theorem uT (s_0:Option Addr) (name_1:ByteArray) (b_2:Sl) {R:Value→Heap→Prop} {h:Heap} (hm:om s_0 name_1 b_2 R h):ab Tryz.prog 16 #[(.pointer s_0),(.string name_1),(.slice b_2.ptr b_2.len b_2.cap)] h R:=aq ag Tryz.func16 (.two .n (.two .n (.two .n (.two (.join [(9,(.sc .slc)),(10,(.sc .bool))] [(9,11),(34,53)] .n) (.two .n (.two .n (.two .n (.two .n (.two (.join [(12,(.sc .adr)),(13,(.sc .slc))] [(12,14),(66,74)] .n) .n))))))))) hm
abbrev q8:FuncId:=17
noncomputable def kV (n_0:Int) (x_1:Int) (R:Value→Heap→Prop) (h:Heap):Prop:=
 aO (σ:=Sl×Int) (fun s1 K1 h1=>
 Br (decide (s1.2<n_0))
 (((7:Int)≠0)∧
 (0≤(Int.tmod s1.2 (7:Int)))∧
 az Tryz.prog (Instr.buildSlice 46 1 #[(0,(.int .u8 (IntKind.wrap .u8 (IntKind.wrap .i64 ((Int.fdiv x_1 (2^min (Int.tmod s1.2 (7:Int)).toNat (IntKind.bits .i64)))+(IntKind.wrap .i64 (s1.2*(IntKind.wrap .i64 ((BitVec.ofInt (IntKind.bits .i64) x_1|||(BitVec.ofInt (IntKind.bits .i64) (1:Int))).toNat:Nat)))))))))]) (.one (.sc .slc)) h1 fun v2 h2=>
 az Tryz.prog (Builtin.append_ #[46,46] 46 #[(.slice s1.1.ptr s1.1.len s1.1.cap),(.slice v2.ptr v2.len v2.cap)]) (.one (.sc .slc)) h2 fun v3 h3=>
 K1 ((⟨v3.ptr,v3.len,v3.cap⟩:Sl),IntKind.wrap .i64 (s1.2+(1:Int))) h3)
 (R (.slice s1.1.ptr s1.1.len s1.1.cap) h1)) ((⟨none,0,0⟩:Sl),(0:Int)) h
theorem qg (n_0:Int) (x_1:Int) {R:Value→Heap→Prop} {h:Heap} (hm:kV n_0 x_1 R h):ab Tryz.prog 17 #[(.int .i64 n_0),(.int .i64 x_1)] h R:=aq ag Tryz.func17 (.two .n (.two .n (.two (.two .n (.inn (.loop [(5,(.sc .slc)),(6,(.sc (.int .i64)))] [(5,25)] .n))) .n))) hm
abbrev jE:FuncId:=18
noncomputable def mI (d_0:Option Addr) (m_1:Int×Int×Int×Int×Int×Int×Sl×Sl) (R:Value→Heap→Prop) (h:Heap):Prop:=
 aK Tryz.prog (Instr.box 42 (.agg #[(.int .i64 m_1.1),(.int .i64 m_1.2.1),(.int .i64 m_1.2.2.1),(.int .i64 m_1.2.2.2.1),(.int .i64 m_1.2.2.2.2.1),(.int .i64 m_1.2.2.2.2.2.1),(.slice m_1.2.2.2.2.2.2.1.ptr m_1.2.2.2.2.2.2.1.len m_1.2.2.2.2.2.2.1.cap),(.slice m_1.2.2.2.2.2.2.2.ptr m_1.2.2.2.2.2.2.2.len m_1.2.2.2.2.2.2.2.cap)])) h fun a1 h1=>
 af Tryz.prog 43 #[(.pointer d_0)] (.one (.sc .slc)) h1 fun r2 h2=>
 aO (σ:=Sl×Int) (fun s3 K1 h3=>
 Br (decide ((IntKind.wrap .i64 (s3.2+(1:Int)))≥((r2.len:Nat):Int)))
 (af Tryz.prog 58 #[(.slice s3.1.ptr s3.1.len s3.1.cap),(.func (.func 59) #[] #[])] (.many []) h3 fun _ h4=>
 af Tryz.prog 60 #[(.slice s3.1.ptr s3.1.len s3.1.cap),(.func (.func 61) #[] #[])] (.one (.sc .slc)) h4 fun r5 h5=>
 R (.slice r5.ptr r5.len r5.cap) h5)
 (aZ (σ:=Sl) (fun s16 h12=>
 K1 ((⟨s16.ptr,s16.len,s16.cap⟩:Sl),IntKind.wrap .i64 (s3.2+(1:Int))) h12)
 (fun K2=>
 ∃a6:Addr,(r2.ptr=some a6∧0≤(IntKind.wrap .i64 (s3.2+(1:Int)))∧(IntKind.wrap .i64 (s3.2+(1:Int)))<((r2.len:Nat):Int))∧
 ∃x7:Sl,cellOf h3 (a6.add ((IntKind.wrap .i64 (s3.2+(1:Int))).toNat*1))=some (.slice x7.ptr x7.len x7.cap)∧
 af Tryz.prog 56 #[(.slice x7.ptr x7.len x7.cap)] (.many [(.agg [(.int .i64),(.int .i64),(.int .i64),(.int .i64),(.int .i64),(.int .i64),(.int .u32),.slc]),(.sc .bool)]) h3 fun r8 h6=>
 aK Tryz.prog (Instr.alloc 103 true (.tuple #[])) h6 fun a9 h7=>
 ae Tryz.prog (Instr.storeAt 103 (.pointer (some a9)) (.agg #[(.int .i64 r8.1.1),(.int .i64 r8.1.2.1),(.int .i64 r8.1.2.2.1),(.int .i64 r8.1.2.2.2.1),(.int .i64 r8.1.2.2.2.2.1),(.int .i64 r8.1.2.2.2.2.2.1),(.int .u32 r8.1.2.2.2.2.2.2.1),(.slice r8.1.2.2.2.2.2.2.2.ptr r8.1.2.2.2.2.2.2.2.len r8.1.2.2.2.2.2.2.2.cap)])) h7 fun _ h8=>
 Br r8.2 (∃x10:Int×Int×Int×Int×Int×Int×Sl×Sl,ai h8 a1 0 [(.int .i64 x10.1),(.int .i64 x10.2.1),(.int .i64 x10.2.2.1),(.int .i64 x10.2.2.2.1),(.int .i64 x10.2.2.2.2.1),(.int .i64 x10.2.2.2.2.2.1),(.slice x10.2.2.2.2.2.2.1.ptr x10.2.2.2.2.2.2.1.len x10.2.2.2.2.2.2.1.cap),(.slice x10.2.2.2.2.2.2.2.ptr x10.2.2.2.2.2.2.2.len x10.2.2.2.2.2.2.2.cap)]∧
 ∃x11:Int×Int×Int×Int×Int×Int×Int×Sl,ai h8 a9 0 [(.int .i64 x11.1),(.int .i64 x11.2.1),(.int .i64 x11.2.2.1),(.int .i64 x11.2.2.2.1),(.int .i64 x11.2.2.2.2.1),(.int .i64 x11.2.2.2.2.2.1),(.int .u32 x11.2.2.2.2.2.2.1),(.slice x11.2.2.2.2.2.2.2.ptr x11.2.2.2.2.2.2.2.len x11.2.2.2.2.2.2.2.cap)]∧
 af Tryz.prog 57 #[(.agg #[(.int .i64 x10.1),(.int .i64 x10.2.1),(.int .i64 x10.2.2.1),(.int .i64 x10.2.2.2.1),(.int .i64 x10.2.2.2.2.1),(.int .i64 x10.2.2.2.2.2.1),(.slice x10.2.2.2.2.2.2.1.ptr x10.2.2.2.2.2.2.1.len x10.2.2.2.2.2.2.1.cap),(.slice x10.2.2.2.2.2.2.2.ptr x10.2.2.2.2.2.2.2.len x10.2.2.2.2.2.2.2.cap)]),(.agg #[(.int .i64 x11.1),(.int .i64 x11.2.1),(.int .i64 x11.2.2.1),(.int .i64 x11.2.2.2.1),(.int .i64 x11.2.2.2.2.1),(.int .i64 x11.2.2.2.2.2.1),(.int .u32 x11.2.2.2.2.2.2.1),(.slice x11.2.2.2.2.2.2.2.ptr x11.2.2.2.2.2.2.2.len x11.2.2.2.2.2.2.2.cap)])] (.one (.sc .bool)) h8 fun r12 h9=>
 Br r12
 (∃x13:Int×Int×Int×Int×Int×Int×Int×Sl,ai h9 a9 0 [(.int .i64 x13.1),(.int .i64 x13.2.1),(.int .i64 x13.2.2.1),(.int .i64 x13.2.2.2.1),(.int .i64 x13.2.2.2.2.1),(.int .i64 x13.2.2.2.2.2.1),(.int .u32 x13.2.2.2.2.2.2.1),(.slice x13.2.2.2.2.2.2.2.ptr x13.2.2.2.2.2.2.2.len x13.2.2.2.2.2.2.2.cap)]∧
 az Tryz.prog (Instr.buildSlice 48 1 #[(0,(.agg #[(.int .i64 x13.1),(.int .i64 x13.2.1),(.int .i64 x13.2.2.1),(.int .i64 x13.2.2.2.1),(.int .i64 x13.2.2.2.2.1),(.int .i64 x13.2.2.2.2.2.1),(.int .u32 x13.2.2.2.2.2.2.1),(.slice x13.2.2.2.2.2.2.2.ptr x13.2.2.2.2.2.2.2.len x13.2.2.2.2.2.2.2.cap)]))]) (.one (.sc .slc)) h9 fun v14 h10=>
 az Tryz.prog (Builtin.append_ #[48,48] 48 #[(.slice s3.1.ptr s3.1.len s3.1.cap),(.slice v14.ptr v14.len v14.cap)]) (.one (.sc .slc)) h10 fun v15 h11=>
 K2 (⟨v15.ptr,v15.len,v15.cap⟩:Sl) h11)
 (K2 (⟨s3.1.ptr,s3.1.len,s3.1.cap⟩:Sl) h9)) (K2 (⟨s3.1.ptr,s3.1.len,s3.1.cap⟩:Sl) h8)))) ((⟨none,0,0⟩:Sl),(-1:Int)) h2
theorem px (d_0:Option Addr) (m_1:Int×Int×Int×Int×Int×Int×Sl×Sl) {R:Value→Heap→Prop} {h:Heap} (hm:mI d_0 m_1 R h):ab Tryz.prog 18 #[(.pointer d_0),(.agg #[(.int .i64 m_1.1),(.int .i64 m_1.2.1),(.int .i64 m_1.2.2.1),(.int .i64 m_1.2.2.2.1),(.int .i64 m_1.2.2.2.2.1),(.int .i64 m_1.2.2.2.2.2.1),(.slice m_1.2.2.2.2.2.2.1.ptr m_1.2.2.2.2.2.2.1.len m_1.2.2.2.2.2.2.1.cap),(.slice m_1.2.2.2.2.2.2.2.ptr m_1.2.2.2.2.2.2.2.len m_1.2.2.2.2.2.2.2.cap)])] h R:=aq ag Tryz.func18 (.two .n (.scope 0 [(6,(.sc .slc)),(7,(.sc (.int .i64)))] [(4,5),(6,10),(12,40)] [.n,.n,.n] [(.two .n (.two .n (.two (.join [(6,(.sc .slc))] [(6,7),(8,10),(18,36)] .n) .n)))] [(1,[.n])])) hm
abbrev py:FuncId:=19
noncomputable def ki (R:Value→Heap→Prop) (h:Heap):Prop:=
 af Tryz.prog 7 #[] (.one (.sc .ptr)) h fun r1 h1=>
 az Tryz.prog (Instr.buildSlice 22 1 #[(0,(.int .i64 (5:Int)))]) (.one (.sc .slc)) h1 fun v2 h2=>
 af Tryz.prog 6 #[(.agg #[(.int .i64 (1:Int)),(.int .i64 (1:Int)),(.int .i64 (1:Int))]),(.int .i64 (0:Int)),(.pointer r1),(.slice v2.ptr v2.len v2.cap)] (.many [(.sc .ptr),(.sc (.int .i64))]) h2 fun r3 h3=>
 Br (r3.2==(0:Int)) (af Tryz.prog 21 #[(.pointer r3.1),(.int .i64 (3:Int))] (.one (.sc (.int .i64))) h3 fun r4 h4=>
 Br (r4==(5:Int)) (af Tryz.prog 9 #[(.pointer r3.1),(.int .i64 (0:Int)),(.int .i64 (5:Int))] (.one (.sc (.int .i64))) h4 fun r5 h5=>
 R (.bool (r5==(4:Int))) h5) (R (.bool false) h4)) (R (.bool false) h3)
theorem oK {R:Value→Heap→Prop} {h:Heap} (hm:ki R h):ab Tryz.prog 19 #[] h R:=aq ag Tryz.func19 .n hm
abbrev lH:FuncId:=20
noncomputable def mj (s_0:Option Addr) (object_1:Int) (block_2:Int) (R:Value→Heap→Prop) (h:Heap):Prop:=
 af Tryz.prog 11 #[(.pointer s_0)] (.one (.sc .slc)) h fun r1 h1=>
 aO (σ:=Sl×Int) (fun s2 K1 h2=>
 Br (decide (s2.2<((r1.len:Nat):Int)))
 (∃a3:Addr,(r1.ptr=some a3∧0≤s2.2∧s2.2<((r1.len:Nat):Int))∧
 ∃x4:Int,cellOf h2 (a3.add (s2.2.toNat*1))=some (.int .i64 x4)∧
 az Tryz.prog (Instr.buildSlice 22 1 #[(0,(.int .i64 x4))]) (.one (.sc .slc)) h2 fun v5 h3=>
 ∃a6:Addr,(s_0=some a6)∧
 ∃x7:Int×Int×Int×Int×Int×Int×Sl×Sl,ai h3 a6 0 [(.int .i64 x7.1),(.int .i64 x7.2.1),(.int .i64 x7.2.2.1),(.int .i64 x7.2.2.2.1),(.int .i64 x7.2.2.2.2.1),(.int .i64 x7.2.2.2.2.2.1),(.slice x7.2.2.2.2.2.2.1.ptr x7.2.2.2.2.2.2.1.len x7.2.2.2.2.2.2.1.cap),(.slice x7.2.2.2.2.2.2.2.ptr x7.2.2.2.2.2.2.2.len x7.2.2.2.2.2.2.2.cap)]∧
 af Tryz.prog 62 #[(.func (.func 12) #[(.pointer s_0)] #[]),(.slice v5.ptr v5.len v5.cap),(.agg #[(.int .i64 x7.1),(.int .i64 x7.2.1),(.int .i64 x7.2.2.1),(.int .i64 x7.2.2.2.1),(.int .i64 x7.2.2.2.2.1),(.int .i64 x7.2.2.2.2.2.1),(.slice x7.2.2.2.2.2.2.1.ptr x7.2.2.2.2.2.2.1.len x7.2.2.2.2.2.2.1.cap),(.slice x7.2.2.2.2.2.2.2.ptr x7.2.2.2.2.2.2.2.len x7.2.2.2.2.2.2.2.cap)]),(.int .i64 object_1),(.int .i64 block_2)] (.one (.sc .slc)) h3 fun r8 h4=>
 aO (σ:=Sl×Int) (fun s9 K2 h5=>
 Br (decide (s9.2<((r8.len:Nat):Int)))
 (∃a10:Addr,(r8.ptr=some a10∧0≤s9.2∧s9.2<((r8.len:Nat):Int))∧
 ∃x11:Int×Sl,ai h5 (a10.add (s9.2.toNat*2)) 0 [(.int .i64 x11.1),(.slice x11.2.ptr x11.2.len x11.2.cap)]∧
 aK Tryz.prog (Instr.alloc 114 true (.tuple #[])) h5 fun a12 h6=>
 ae Tryz.prog (Instr.storeAt 114 (.pointer (some a12)) (.agg #[(.int .i64 x11.1),(.slice x11.2.ptr x11.2.len x11.2.cap)])) h6 fun _ h7=>
 ∃x13:Int,cellOf h7 a12=some (.int .i64 x13)∧
 az Tryz.prog (Instr.buildSlice 22 1 #[(0,(.int .i64 x13))]) (.one (.sc .slc)) h7 fun v14 h8=>
 az Tryz.prog (Builtin.append_ #[22,22] 22 #[(.slice s9.1.ptr s9.1.len s9.1.cap),(.slice v14.ptr v14.len v14.cap)]) (.one (.sc .slc)) h8 fun v15 h9=>
 K2 ((⟨v15.ptr,v15.len,v15.cap⟩:Sl),IntKind.wrap .i64 (s9.2+(1:Int))) h9)
 (az Tryz.prog (Instr.buildSlice 52 1 #[(0,(.slice s9.1.ptr s9.1.len s9.1.cap))]) (.one (.sc .slc)) h5 fun v16 h10=>
 az Tryz.prog (Builtin.append_ #[52,52] 52 #[(.slice s2.1.ptr s2.1.len s2.1.cap),(.slice v16.ptr v16.len v16.cap)]) (.one (.sc .slc)) h10 fun v17 h11=>
 K1 ((⟨v17.ptr,v17.len,v17.cap⟩:Sl),IntKind.wrap .i64 (s2.2+(1:Int))) h11)) ((⟨none,0,0⟩:Sl),(0:Int)) h4)
 (R (.slice s2.1.ptr s2.1.len s2.1.cap) h2)) ((⟨none,0,0⟩:Sl),(0:Int)) h1
theorem rN (s_0:Option Addr) (object_1:Int) (block_2:Int) {R:Value→Heap→Prop} {h:Heap} (hm:mj s_0 object_1 block_2 R h):ab Tryz.prog 20 #[(.pointer s_0),(.int .i64 object_1),(.int .i64 block_2)] h R:=aq ag Tryz.func20 (.two .n (.two .n (.two (.two .n (.inn (.loop [(7,(.sc .slc)),(16,(.sc (.int .i64)))] [(7,8),(9,11),(12,13),(16,47)] (.two .n (.two .n (.two (.inn (.two .n (.two .n (.two (.two .n (.inn (.loop [(10,(.sc .slc)),(32,(.sc (.int .i64)))] [(10,11),(12,13),(32,42)] .n))) .n)))) .n)))))) .n))) hm
abbrev oa:FuncId:=21
noncomputable def pz (s_0:Option Addr) (slot_1:Int) (R:Value→Heap→Prop) (h:Heap):Prop:=
 af Tryz.prog 33 #[(.pointer s_0)] (.one (.sc .bool)) h fun r1 h1=>
 Br r1
 (R (.int .i64 (14:Int)) h1)
 (af Tryz.prog 11 #[(.pointer s_0)] (.one (.sc .slc)) h1 fun r2 h2=>
 af Tryz.prog 35 #[(.slice r2.ptr r2.len r2.cap),(.int .i64 slot_1)] (.one (.sc .bool)) h2 fun r3 h3=>
 Br (!r3)
 (R (.int .i64 (5:Int)) h3)
 (af Tryz.prog 12 #[(.pointer s_0),(.int .i64 slot_1)] (.one (.sc .ptr)) h3 fun r4 h4=>
 af Tryz.prog 63 #[(.pointer r4)] (.many []) h4 fun _ h5=>
 R (.int .i64 (0:Int)) h5))
theorem rO (s_0:Option Addr) (slot_1:Int) {R:Value→Heap→Prop} {h:Heap} (hm:pz s_0 slot_1 R h):ab Tryz.prog 21 #[(.pointer s_0),(.int .i64 slot_1)] h R:=aq ag Tryz.func21 .n hm
abbrev qC:FuncId:=22
noncomputable def rP (s_0:Option Addr) (slot_1:Int) (R:Value→Heap→Prop) (h:Heap):Prop:=
 aK Tryz.prog (Instr.box 3 (.int .i64 slot_1)) h fun a1 h1=>
 af Tryz.prog 33 #[(.pointer s_0)] (.one (.sc .bool)) h1 fun r2 h2=>
 Br r2
 (R (.int .i64 (14:Int)) h2)
 (af Tryz.prog 14 #[(.pointer s_0)] (.one (.agg [(.int .i64),(.int .i64),(.int .i64),(.int .i64),(.int .i64),(.int .i64),.slc,.slc])) h2 fun r3 h3=>
 aK Tryz.prog (Instr.alloc 42 true (.tuple #[])) h3 fun a4 h4=>
 ae Tryz.prog (Instr.storeAt 42 (.pointer (some a4)) (.agg #[(.int .i64 r3.1),(.int .i64 r3.2.1),(.int .i64 r3.2.2.1),(.int .i64 r3.2.2.2.1),(.int .i64 r3.2.2.2.2.1),(.int .i64 r3.2.2.2.2.2.1),(.slice r3.2.2.2.2.2.2.1.ptr r3.2.2.2.2.2.2.1.len r3.2.2.2.2.2.2.1.cap),(.slice r3.2.2.2.2.2.2.2.ptr r3.2.2.2.2.2.2.2.len r3.2.2.2.2.2.2.2.cap)])) h4 fun _ h5=>
 ∃x5:Sl,cellOf h5 (a4.add 6)=some (.slice x5.ptr x5.len x5.cap)∧
 ∃x6:Int,cellOf h5 a1=some (.int .i64 x6)∧
 af Tryz.prog 35 #[(.slice x5.ptr x5.len x5.cap),(.int .i64 x6)] (.one (.sc .bool)) h5 fun r7 h6=>
 Br (!r7)
 (R (.int .i64 (5:Int)) h6)
 (aK Tryz.prog (Instr.alloc 115 true (.tuple #[])) h6 fun a8 h7=>
 ae Tryz.prog (Instr.storeAt 115 (.pointer (some a8)) (.func (.func 64) #[] #[(.pointer (some a1))])) h7 fun _ h8=>
 aZ (σ:=Option Addr) (fun s13 h11=>
 af Tryz.prog 11 #[(.pointer s_0)] (.one (.sc .slc)) h11 fun r14 h12=>
 af Tryz.prog 65 #[(.slice r14.ptr r14.len r14.cap),(.func (.func 66) #[] #[(.pointer (some a8))])] (.one (.sc .slc)) h12 fun r15 h13=>
 ∃a16:Addr,(s13=some a16)∧
 ae Tryz.prog (Instr.storeAt 22 (.pointer (some (a16.add 17))) (.slice r15.ptr r15.len r15.cap)) h13 fun _ h14=>
 aZ (σ:=Unit) (fun _ h15=>
 ∃a21:Addr,(s13=some a21)∧
 ∃x22:Int,cellOf h15 (a21.add 9)=some (.int .i64 x22)∧
 ∃a23:Addr,(s13=some a23)∧
 ae Tryz.prog (Instr.storeAt 3 (.pointer (some (a23.add 9))) (.int .i64 (IntKind.wrap .i64 (x22+(1:Int))))) h15 fun _ h16=>
 ∃a24:Addr,(s13=some a24)∧
 ∃x25:Sl,cellOf h16 ((a24.add 9).add 6)=some (.slice x25.ptr x25.len x25.cap)∧
 af Tryz.prog 65 #[(.slice x25.ptr x25.len x25.cap),(.func (.func 67) #[] #[(.pointer (some a8))])] (.one (.sc .slc)) h16 fun r26 h17=>
 ∃a27:Addr,(s13=some a27)∧
 ae Tryz.prog (Instr.storeAt 22 (.pointer (some ((a27.add 9).add 6))) (.slice r26.ptr r26.len r26.cap)) h17 fun _ h18=>
 ∃a28:Addr,(s13=some a28)∧
 ∃x29:Int×Int×Int×Int×Int×Int×Sl×Sl,ai h18 (a28.add 9) 0 [(.int .i64 x29.1),(.int .i64 x29.2.1),(.int .i64 x29.2.2.1),(.int .i64 x29.2.2.2.1),(.int .i64 x29.2.2.2.2.1),(.int .i64 x29.2.2.2.2.2.1),(.slice x29.2.2.2.2.2.2.1.ptr x29.2.2.2.2.2.2.1.len x29.2.2.2.2.2.2.1.cap),(.slice x29.2.2.2.2.2.2.2.ptr x29.2.2.2.2.2.2.2.len x29.2.2.2.2.2.2.2.cap)]∧
 af Tryz.prog 29 #[(.agg #[(.int .i64 x29.1),(.int .i64 x29.2.1),(.int .i64 x29.2.2.1),(.int .i64 x29.2.2.2.1),(.int .i64 x29.2.2.2.2.1),(.int .i64 x29.2.2.2.2.2.1),(.slice x29.2.2.2.2.2.2.1.ptr x29.2.2.2.2.2.2.1.len x29.2.2.2.2.2.2.1.cap),(.slice x29.2.2.2.2.2.2.2.ptr x29.2.2.2.2.2.2.2.len x29.2.2.2.2.2.2.2.cap)])] (.one (.sc .slc)) h18 fun r30 h19=>
 ∃a31:Addr,(s13=some a31)∧
 ae Tryz.prog (Instr.storeAt 3 (.pointer (some (a31.add 18))) (.int .i64 ((r30.len:Nat):Int))) h19 fun _ h20=>
 ∃x32:Int,cellOf h20 a1=some (.int .i64 x32)∧
 af Tryz.prog 68 #[(.pointer s13),(.int .i64 x32)] (.one (.sc .bool)) h20 fun r33 h21=>
 Br (!r33)
 (R (.int .i64 (7:Int)) h21)
 (∃a34:Addr,(s13=some a34)∧
 ∃x35:Sl,cellOf h21 (a34.add 17)=some (.slice x35.ptr x35.len x35.cap)∧
 aO (σ:=Int) (fun s36 K3 h22=>
 Br (decide (s36<((x35.len:Nat):Int)))
 (∃a37:Addr,(x35.ptr=some a37∧0≤s36∧s36<((x35.len:Nat):Int))∧
 ∃x38:Int,cellOf h22 (a37.add (s36.toNat*1))=some (.int .i64 x38)∧
 aZ (σ:=Int) (fun s46 h25=>
 Br (s46 !=(0:Int))
 (R (.int .i64 s46) h25)
 (K3 (IntKind.wrap .i64 (s36+(1:Int))) h25))
 (fun K4=>
 ∃x39:Int×Int×Int×Int×Int×Int×Sl×Sl,ai h22 a4 0 [(.int .i64 x39.1),(.int .i64 x39.2.1),(.int .i64 x39.2.2.1),(.int .i64 x39.2.2.2.1),(.int .i64 x39.2.2.2.2.1),(.int .i64 x39.2.2.2.2.2.1),(.slice x39.2.2.2.2.2.2.1.ptr x39.2.2.2.2.2.2.1.len x39.2.2.2.2.2.2.1.cap),(.slice x39.2.2.2.2.2.2.2.ptr x39.2.2.2.2.2.2.2.len x39.2.2.2.2.2.2.2.cap)]∧
 ∃a40:Addr,(s13=some a40)∧
 ∃x41:Int,cellOf h22 (a40.add 18)=some (.int .i64 x41)∧
 ∃a42:Addr,(s13=some a42)∧
 (0≤x38∧x38<((64:Nat):Int))∧
 ∃x43:Int,cellOf h22 ((a42.add 19).add (x38.toNat*1))=some (.int .i64 x43)∧
 af Tryz.prog 12 #[(.pointer s_0),(.int .i64 x38)] (.one (.sc .ptr)) h22 fun r44 h23=>
 (ak.ok [((a42.add 19).add (x38.toNat*1),(.int .i64 x43)),(a40.add 18,(.int .i64 x41)),(a4,(.int .i64 x39.1)),(a4.add 1,(.int .i64 x39.2.1)),(a4.add 2,(.int .i64 x39.2.2.1)),(a4.add 3,(.int .i64 x39.2.2.2.1)),(a4.add 4,(.int .i64 x39.2.2.2.2.1)),(a4.add 5,(.int .i64 x39.2.2.2.2.2.1)),(a4.add 6,(.slice x39.2.2.2.2.2.2.1.ptr x39.2.2.2.2.2.2.1.len x39.2.2.2.2.2.2.1.cap)),(a4.add 7,(.slice x39.2.2.2.2.2.2.2.ptr x39.2.2.2.2.2.2.2.len x39.2.2.2.2.2.2.2.cap))] h23)∧
 af Tryz.prog 69 #[(.pointer r44),(.agg #[(.int .i64 x39.1),(.int .i64 x39.2.1),(.int .i64 x39.2.2.1),(.int .i64 x39.2.2.2.1),(.int .i64 x39.2.2.2.2.1),(.int .i64 x39.2.2.2.2.2.1),(.slice x39.2.2.2.2.2.2.1.ptr x39.2.2.2.2.2.2.1.len x39.2.2.2.2.2.2.1.cap),(.slice x39.2.2.2.2.2.2.2.ptr x39.2.2.2.2.2.2.2.len x39.2.2.2.2.2.2.2.cap)]),(.int .i64 (IntKind.wrap .i64 (x41+x43)))] (.one (.sc (.int .i64))) h23 fun r45 h24=>
 (ak.ok [((a42.add 19).add (x38.toNat*1),(.int .i64 x43)),(a40.add 18,(.int .i64 x41))] h24)∧
 K4 r45 h24))
 (∃a47:Addr,(s13=some a47)∧
 ∃x48:Sl,cellOf h22 (a47.add 83)=some (.slice x48.ptr x48.len x48.cap)∧
 af Tryz.prog 31 #[(.func (.func 12) #[(.pointer s_0)] #[]),(.slice x48.ptr x48.len x48.cap)] (.one (.sc (.int .i64))) h22 fun r49 h26=>
 Br (r49 !=(0:Int))
 (R (.int .i64 r49) h26)
 (∃a50:Addr,(s13=some a50)∧
 ∃x51:Int×Int×Int×Int×Int×Int×Sl×Sl,ai h26 (a50.add 9) 0 [(.int .i64 x51.1),(.int .i64 x51.2.1),(.int .i64 x51.2.2.1),(.int .i64 x51.2.2.2.1),(.int .i64 x51.2.2.2.2.1),(.int .i64 x51.2.2.2.2.2.1),(.slice x51.2.2.2.2.2.2.1.ptr x51.2.2.2.2.2.2.1.len x51.2.2.2.2.2.2.1.cap),(.slice x51.2.2.2.2.2.2.2.ptr x51.2.2.2.2.2.2.2.len x51.2.2.2.2.2.2.2.cap)]∧
 af Tryz.prog 39 #[(.pointer s_0),(.agg #[(.int .i64 x51.1),(.int .i64 x51.2.1),(.int .i64 x51.2.2.1),(.int .i64 x51.2.2.2.1),(.int .i64 x51.2.2.2.2.1),(.int .i64 x51.2.2.2.2.2.1),(.slice x51.2.2.2.2.2.2.1.ptr x51.2.2.2.2.2.2.1.len x51.2.2.2.2.2.2.1.cap),(.slice x51.2.2.2.2.2.2.2.ptr x51.2.2.2.2.2.2.2.len x51.2.2.2.2.2.2.2.cap)])] (.one (.sc (.int .i64))) h26 fun r52 h27=>
 Br (r52 !=(0:Int))
 (R (.int .i64 r52) h27)
 (∃x53:Int,cellOf h27 a1=some (.int .i64 x53)∧
 af Tryz.prog 36 #[(.pointer s_0),(.int .i64 x53),(.pointer none)] (.many []) h27 fun _ h28=>
 R (.int .i64 (0:Int)) h28)))) (0:Int) h21))
 (fun K2=>
 ∃a17:Addr,(s13=some a17)∧
 ∃x18:Sl,cellOf h14 (a17.add 17)=some (.slice x18.ptr x18.len x18.cap)∧
 Br (((x18.len:Nat):Int)==(0:Int)) (R (.int .i64 (7:Int)) h14) (∃x19:Int,cellOf h14 a4=some (.int .i64 x19)∧
 Br (decide (x19≥(2147483647:Int)))
 (R (.int .i64 (7:Int)) h14)
 (K2 () h14))))
 (fun K1=>
 ∃x9:Int×Int×Int×Int×Int×Int×Sl×Sl,ai h8 a4 0 [(.int .i64 x9.1),(.int .i64 x9.2.1),(.int .i64 x9.2.2.1),(.int .i64 x9.2.2.2.1),(.int .i64 x9.2.2.2.2.1),(.int .i64 x9.2.2.2.2.2.1),(.slice x9.2.2.2.2.2.2.1.ptr x9.2.2.2.2.2.2.1.len x9.2.2.2.2.2.2.1.cap),(.slice x9.2.2.2.2.2.2.2.ptr x9.2.2.2.2.2.2.2.len x9.2.2.2.2.2.2.2.cap)]∧
 af Tryz.prog 14 #[(.pointer s_0)] (.one (.agg [(.int .i64),(.int .i64),(.int .i64),(.int .i64),(.int .i64),(.int .i64),.slc,.slc])) h8 fun r10 h9=>
 (ak.ok [(a4,(.int .i64 x9.1)),(a4.add 1,(.int .i64 x9.2.1)),(a4.add 2,(.int .i64 x9.2.2.1)),(a4.add 3,(.int .i64 x9.2.2.2.1)),(a4.add 4,(.int .i64 x9.2.2.2.2.1)),(a4.add 5,(.int .i64 x9.2.2.2.2.2.1)),(a4.add 6,(.slice x9.2.2.2.2.2.2.1.ptr x9.2.2.2.2.2.2.1.len x9.2.2.2.2.2.2.1.cap)),(a4.add 7,(.slice x9.2.2.2.2.2.2.2.ptr x9.2.2.2.2.2.2.2.len x9.2.2.2.2.2.2.2.cap))] h9)∧
 ∃v11:Value,(ar Tryz.prog (Instr.build 119 #[(0,(.pointer s_0)),(1,(.agg #[(.int .i64 x9.1),(.int .i64 x9.2.1),(.int .i64 x9.2.2.1),(.int .i64 x9.2.2.2.1),(.int .i64 x9.2.2.2.2.1),(.int .i64 x9.2.2.2.2.2.1),(.slice x9.2.2.2.2.2.2.1.ptr x9.2.2.2.2.2.2.1.len x9.2.2.2.2.2.2.1.cap),(.slice x9.2.2.2.2.2.2.2.ptr x9.2.2.2.2.2.2.2.len x9.2.2.2.2.2.2.2.cap)])),(2,(.agg #[(.int .i64 r10.1),(.int .i64 r10.2.1),(.int .i64 r10.2.2.1),(.int .i64 r10.2.2.2.1),(.int .i64 r10.2.2.2.2.1),(.int .i64 r10.2.2.2.2.2.1),(.slice r10.2.2.2.2.2.2.1.ptr r10.2.2.2.2.2.2.1.len r10.2.2.2.2.2.2.1.cap),(.slice r10.2.2.2.2.2.2.2.ptr r10.2.2.2.2.2.2.2.len r10.2.2.2.2.2.2.2.cap)]))]) v11)∧
 aK Tryz.prog (Instr.box 119 v11) h9 fun a12 h10=>
 (ak.ok [(a4,(.int .i64 x9.1)),(a4.add 1,(.int .i64 x9.2.1)),(a4.add 2,(.int .i64 x9.2.2.1)),(a4.add 3,(.int .i64 x9.2.2.2.1)),(a4.add 4,(.int .i64 x9.2.2.2.2.1)),(a4.add 5,(.int .i64 x9.2.2.2.2.2.1)),(a4.add 6,(.slice x9.2.2.2.2.2.2.1.ptr x9.2.2.2.2.2.2.1.len x9.2.2.2.2.2.2.1.cap)),(a4.add 7,(.slice x9.2.2.2.2.2.2.2.ptr x9.2.2.2.2.2.2.2.len x9.2.2.2.2.2.2.2.cap))] h10)∧
 K1 (some a12) h10)))
theorem y7 (s_0:Option Addr) (slot_1:Int) {R:Value→Heap→Prop} {h:Heap} (hm:rP s_0 slot_1 R h):ab Tryz.prog 22 #[(.pointer s_0),(.int .i64 slot_1)] h R:=aq ag Tryz.func22 (.two .n (.two .n (.two .n (.two .n (.two .n (.two (.join [(7,(.sc .ptr))] [(7,8),(23,29)] .n) (.two .n (.two (.join [] [(4,5),(36,47)] .n) (.two .n (.two .n (.two .n (.two .n (.two (.two .n (.inn (.loop [(85,(.sc (.int .i64)))] [(4,5),(9,11),(85,109)] (.two .n (.two .n (.two (.inn (.two .n (.two (.join [(10,(.sc (.int .i64)))] [(10,11),(89,105)] .n) .n))) .n)))))) .n))))))))))))) hm
abbrev nz:FuncId:=23
noncomputable def jl (a_0:Int×Int×Int×Int×Int×Int×Sl×Sl) (b_1:Int×Int×Int×Int×Int×Int×Sl×Sl) (R:Value→Heap→Prop) (h:Heap):Prop:=
 aK Tryz.prog (Instr.box 42 (.agg #[(.int .i64 a_0.1),(.int .i64 a_0.2.1),(.int .i64 a_0.2.2.1),(.int .i64 a_0.2.2.2.1),(.int .i64 a_0.2.2.2.2.1),(.int .i64 a_0.2.2.2.2.2.1),(.slice a_0.2.2.2.2.2.2.1.ptr a_0.2.2.2.2.2.2.1.len a_0.2.2.2.2.2.2.1.cap),(.slice a_0.2.2.2.2.2.2.2.ptr a_0.2.2.2.2.2.2.2.len a_0.2.2.2.2.2.2.2.cap)])) h fun a1 h1=>
 aK Tryz.prog (Instr.box 42 (.agg #[(.int .i64 b_1.1),(.int .i64 b_1.2.1),(.int .i64 b_1.2.2.1),(.int .i64 b_1.2.2.2.1),(.int .i64 b_1.2.2.2.2.1),(.int .i64 b_1.2.2.2.2.2.1),(.slice b_1.2.2.2.2.2.2.1.ptr b_1.2.2.2.2.2.2.1.len b_1.2.2.2.2.2.2.1.cap),(.slice b_1.2.2.2.2.2.2.2.ptr b_1.2.2.2.2.2.2.2.len b_1.2.2.2.2.2.2.2.cap)])) h1 fun a2 h2=>
 aZ (σ:=Unit) (fun _ h4=>
 ∃x18:Sl,cellOf h4 (a1.add 7)=some (.slice x18.ptr x18.len x18.cap)∧
 aO (σ:=Int) (fun s19 K2 h5=>
 Br (decide (s19<((x18.len:Nat):Int)))
 (aZ (σ:=Addr×Addr) (fun s30 h14=>
 ∃x31:ByteArray,cellOf h14 s30.1=some (.string x31)∧
 ∃x32:ByteArray,cellOf h14 s30.2=some (.string x32)∧
 Br (!(x31.toList==x32.toList)) (R (.bool false) h14) (∃x33:Int,cellOf h14 (s30.1.add 1)=some (.int .i64 x33)∧
 ∃x34:Int,cellOf h14 (s30.2.add 1)=some (.int .i64 x34)∧
 Br (x33 !=x34) (R (.bool false) h14) (∃x35:Int,cellOf h14 (s30.1.add 2)=some (.int .i64 x35)∧
 ∃x36:Int,cellOf h14 (s30.2.add 2)=some (.int .i64 x36)∧
 Br (x35 !=x36) (R (.bool false) h14) (∃x37:Sl,cellOf h14 (s30.1.add 3)=some (.slice x37.ptr x37.len x37.cap)∧
 ∃x38:Sl,cellOf h14 (s30.2.add 3)=some (.slice x38.ptr x38.len x38.cap)∧
 af Tryz.prog 10 #[(.slice x37.ptr x37.len x37.cap),(.slice x38.ptr x38.len x38.cap)] (.one (.sc .bool)) h14 fun r39 h15=>
 Br (!r39)
 (R (.bool false) h15)
 (K2 (IntKind.wrap .i64 (s19+(1:Int))) h15)))))
 (fun K3=>
 ∃x20:Sl,cellOf h5 (a1.add 7)=some (.slice x20.ptr x20.len x20.cap)∧
 ∃a21:Addr,(x20.ptr=some a21∧0≤s19∧s19<((x20.len:Nat):Int))∧
 ∃x22:ByteArray×Int×Int×Sl,ai h5 (a21.add (s19.toNat*4)) 0 [(.string x22.1),(.int .i64 x22.2.1),(.int .i64 x22.2.2.1),(.slice x22.2.2.2.ptr x22.2.2.2.len x22.2.2.2.cap)]∧
 ∃x23:Sl,cellOf h5 (a2.add 7)=some (.slice x23.ptr x23.len x23.cap)∧
 ∃a24:Addr,(x23.ptr=some a24∧0≤s19∧s19<((x23.len:Nat):Int))∧
 ∃x25:ByteArray×Int×Int×Sl,ai h5 (a24.add (s19.toNat*4)) 0 [(.string x25.1),(.int .i64 x25.2.1),(.int .i64 x25.2.2.1),(.slice x25.2.2.2.ptr x25.2.2.2.len x25.2.2.2.cap)]∧
 (aK Tryz.prog (Instr.alloc 89 true (.tuple #[])) h5 fun a26 h6=>
 (ak.ok [(a24.add (s19.toNat*4),(.string x25.1)),((a24.add (s19.toNat*4)).add 1,(.int .i64 x25.2.1)),((a24.add (s19.toNat*4)).add 2,(.int .i64 x25.2.2.1)),((a24.add (s19.toNat*4)).add 3,(.slice x25.2.2.2.ptr x25.2.2.2.len x25.2.2.2.cap)),(a2.add 7,(.slice x23.ptr x23.len x23.cap)),(a21.add (s19.toNat*4),(.string x22.1)),((a21.add (s19.toNat*4)).add 1,(.int .i64 x22.2.1)),((a21.add (s19.toNat*4)).add 2,(.int .i64 x22.2.2.1)),((a21.add (s19.toNat*4)).add 3,(.slice x22.2.2.2.ptr x22.2.2.2.len x22.2.2.2.cap)),(a1.add 7,(.slice x20.ptr x20.len x20.cap))] h6)∧
 aK Tryz.prog (Instr.alloc 89 true (.tuple #[])) h6 fun a27 h7=>
 (ak.ok [(a24.add (s19.toNat*4),(.string x25.1)),((a24.add (s19.toNat*4)).add 1,(.int .i64 x25.2.1)),((a24.add (s19.toNat*4)).add 2,(.int .i64 x25.2.2.1)),((a24.add (s19.toNat*4)).add 3,(.slice x25.2.2.2.ptr x25.2.2.2.len x25.2.2.2.cap)),(a2.add 7,(.slice x23.ptr x23.len x23.cap)),(a21.add (s19.toNat*4),(.string x22.1)),((a21.add (s19.toNat*4)).add 1,(.int .i64 x22.2.1)),((a21.add (s19.toNat*4)).add 2,(.int .i64 x22.2.2.1)),((a21.add (s19.toNat*4)).add 3,(.slice x22.2.2.2.ptr x22.2.2.2.len x22.2.2.2.cap)),(a1.add 7,(.slice x20.ptr x20.len x20.cap))] h7)∧
 ae Tryz.prog (Instr.storeAt 89 (.pointer (some a26)) (.agg #[(.string x22.1),(.int .i64 x22.2.1),(.int .i64 x22.2.2.1),(.slice x22.2.2.2.ptr x22.2.2.2.len x22.2.2.2.cap)])) h7 fun _ h8=>
 (ak.ok [(a24.add (s19.toNat*4),(.string x25.1)),((a24.add (s19.toNat*4)).add 1,(.int .i64 x25.2.1)),((a24.add (s19.toNat*4)).add 2,(.int .i64 x25.2.2.1)),((a24.add (s19.toNat*4)).add 3,(.slice x25.2.2.2.ptr x25.2.2.2.len x25.2.2.2.cap)),(a2.add 7,(.slice x23.ptr x23.len x23.cap))] h8)∧
 ae Tryz.prog (Instr.storeAt 89 (.pointer (some a27)) (.agg #[(.string x25.1),(.int .i64 x25.2.1),(.int .i64 x25.2.2.1),(.slice x25.2.2.2.ptr x25.2.2.2.len x25.2.2.2.cap)])) h8 fun _ h9=>
 (ak.ok [] h9)∧
 K3 (a26,a27) h9)∧(aK Tryz.prog (Instr.alloc 89 true (.tuple #[])) h5 fun a28 h10=>
 (ak.ok [(a24.add (s19.toNat*4),(.string x25.1)),((a24.add (s19.toNat*4)).add 1,(.int .i64 x25.2.1)),((a24.add (s19.toNat*4)).add 2,(.int .i64 x25.2.2.1)),((a24.add (s19.toNat*4)).add 3,(.slice x25.2.2.2.ptr x25.2.2.2.len x25.2.2.2.cap)),(a2.add 7,(.slice x23.ptr x23.len x23.cap)),(a21.add (s19.toNat*4),(.string x22.1)),((a21.add (s19.toNat*4)).add 1,(.int .i64 x22.2.1)),((a21.add (s19.toNat*4)).add 2,(.int .i64 x22.2.2.1)),((a21.add (s19.toNat*4)).add 3,(.slice x22.2.2.2.ptr x22.2.2.2.len x22.2.2.2.cap)),(a1.add 7,(.slice x20.ptr x20.len x20.cap))] h10)∧
 aK Tryz.prog (Instr.alloc 89 true (.tuple #[])) h10 fun a29 h11=>
 (ak.ok [(a24.add (s19.toNat*4),(.string x25.1)),((a24.add (s19.toNat*4)).add 1,(.int .i64 x25.2.1)),((a24.add (s19.toNat*4)).add 2,(.int .i64 x25.2.2.1)),((a24.add (s19.toNat*4)).add 3,(.slice x25.2.2.2.ptr x25.2.2.2.len x25.2.2.2.cap)),(a2.add 7,(.slice x23.ptr x23.len x23.cap)),(a21.add (s19.toNat*4),(.string x22.1)),((a21.add (s19.toNat*4)).add 1,(.int .i64 x22.2.1)),((a21.add (s19.toNat*4)).add 2,(.int .i64 x22.2.2.1)),((a21.add (s19.toNat*4)).add 3,(.slice x22.2.2.2.ptr x22.2.2.2.len x22.2.2.2.cap)),(a1.add 7,(.slice x20.ptr x20.len x20.cap))] h11)∧
 ae Tryz.prog (Instr.storeAt 89 (.pointer (some a29)) (.agg #[(.string x22.1),(.int .i64 x22.2.1),(.int .i64 x22.2.2.1),(.slice x22.2.2.2.ptr x22.2.2.2.len x22.2.2.2.cap)])) h11 fun _ h12=>
 (ak.ok [(a24.add (s19.toNat*4),(.string x25.1)),((a24.add (s19.toNat*4)).add 1,(.int .i64 x25.2.1)),((a24.add (s19.toNat*4)).add 2,(.int .i64 x25.2.2.1)),((a24.add (s19.toNat*4)).add 3,(.slice x25.2.2.2.ptr x25.2.2.2.len x25.2.2.2.cap)),(a2.add 7,(.slice x23.ptr x23.len x23.cap))] h12)∧
 ae Tryz.prog (Instr.storeAt 89 (.pointer (some a28)) (.agg #[(.string x25.1),(.int .i64 x25.2.1),(.int .i64 x25.2.2.1),(.slice x25.2.2.2.ptr x25.2.2.2.len x25.2.2.2.cap)])) h12 fun _ h13=>
 (ak.ok [] h13)∧
 K3 (a29,a28) h13)))
 (R (.bool true) h5)) (0:Int) h4)
 (fun K1=>
 ∃x3:Int,cellOf h2 a1=some (.int .i64 x3)∧
 ∃x4:Int,cellOf h2 a2=some (.int .i64 x4)∧
 Br (x3 !=x4) (R (.bool false) h2) (∃x5:Int,cellOf h2 (a1.add 1)=some (.int .i64 x5)∧
 ∃x6:Int,cellOf h2 (a2.add 1)=some (.int .i64 x6)∧
 Br (x5 !=x6) (R (.bool false) h2) (∃x7:Int×Int×Int,ai h2 (a1.add 2) 0 [(.int .i64 x7.1),(.int .i64 x7.2.1),(.int .i64 x7.2.2)]∧
 ∃x8:Int×Int×Int,ai h2 (a2.add 2) 0 [(.int .i64 x8.1),(.int .i64 x8.2.1),(.int .i64 x8.2.2)]∧
 ∃b9:Bool,(iB Tryz.prog .neq 24 (.tmp 22) (.tmp 24) (.agg #[(.int .i64 x7.1),(.int .i64 x7.2.1),(.int .i64 x7.2.2)]) (.agg #[(.int .i64 x8.1),(.int .i64 x8.2.1),(.int .i64 x8.2.2)]) (.bool b9))∧
 Br b9 (R (.bool false) h2) (∃x10:Int,cellOf h2 (a1.add 5)=some (.int .i64 x10)∧
 ∃x11:Int,cellOf h2 (a2.add 5)=some (.int .i64 x11)∧
 Br (x10 !=x11) (R (.bool false) h2) (∃x12:Sl,cellOf h2 (a1.add 6)=some (.slice x12.ptr x12.len x12.cap)∧
 ∃x13:Sl,cellOf h2 (a2.add 6)=some (.slice x13.ptr x13.len x13.cap)∧
 af Tryz.prog 10 #[(.slice x12.ptr x12.len x12.cap),(.slice x13.ptr x13.len x13.cap)] (.one (.sc .bool)) h2 fun r14 h3=>
 Br (!r14) (R (.bool false) h3) (∃x15:Sl,cellOf h3 (a1.add 7)=some (.slice x15.ptr x15.len x15.cap)∧
 ∃x16:Sl,cellOf h3 (a2.add 7)=some (.slice x16.ptr x16.len x16.cap)∧
 Br (((x15.len:Nat):Int) !=((x16.len:Nat):Int))
 (R (.bool false) h3)
 (K1 () h3)))))))
theorem mJ (a_0:Int×Int×Int×Int×Int×Int×Sl×Sl) (b_1:Int×Int×Int×Int×Int×Int×Sl×Sl) {R:Value→Heap→Prop} {h:Heap} (hm:jl a_0 b_1 R h):ab Tryz.prog 23 #[(.agg #[(.int .i64 a_0.1),(.int .i64 a_0.2.1),(.int .i64 a_0.2.2.1),(.int .i64 a_0.2.2.2.1),(.int .i64 a_0.2.2.2.2.1),(.int .i64 a_0.2.2.2.2.2.1),(.slice a_0.2.2.2.2.2.2.1.ptr a_0.2.2.2.2.2.2.1.len a_0.2.2.2.2.2.2.1.cap),(.slice a_0.2.2.2.2.2.2.2.ptr a_0.2.2.2.2.2.2.2.len a_0.2.2.2.2.2.2.2.cap)]),(.agg #[(.int .i64 b_1.1),(.int .i64 b_1.2.1),(.int .i64 b_1.2.2.1),(.int .i64 b_1.2.2.2.1),(.int .i64 b_1.2.2.2.2.1),(.int .i64 b_1.2.2.2.2.2.1),(.slice b_1.2.2.2.2.2.2.1.ptr b_1.2.2.2.2.2.2.1.len b_1.2.2.2.2.2.2.1.cap),(.slice b_1.2.2.2.2.2.2.2.ptr b_1.2.2.2.2.2.2.2.len b_1.2.2.2.2.2.2.2.cap)])] h R:=aq ag Tryz.func23 (.two .n (.two (.join [] [(4,5),(8,51)] .n) (.two (.two .n (.inn (.loop [(54,(.sc (.int .i64)))] [(4,8),(54,95)] (.two .n (.two .n (.two (.inn (.two .n (.two (.join [(6,(.sc .adr)),(7,(.sc .adr))] [(6,8),(57,67)] .n) .n))) .n)))))) .n))) hm
abbrev qh:FuncId:=24
noncomputable def kC (a_0:Int) (b_1:Int) (c_2:Int) (R:Value→Heap→Prop) (h:Heap):Prop:=
 aK Tryz.prog (Instr.alloc 24 true (.tuple #[])) h fun a1 h1=>
 af Tryz.prog 8 #[(.int .i64 a_0),(.int .i64 (6:Int))] (.one (.sc (.int .i64))) h1 fun r2 h2=>
 af Tryz.prog 8 #[(.int .i64 b_1),(.int .i64 (3:Int))] (.one (.sc (.int .i64))) h2 fun r3 h3=>
 af Tryz.prog 8 #[(.int .i64 c_2),(.int .i64 (9:Int))] (.one (.sc (.int .i64))) h3 fun r4 h4=>
 ae Tryz.prog (Instr.storeAt 24 (.pointer (some a1)) (.agg #[(.int .i64 (IntKind.wrap .i64 ((1:Int)+r2))),(.int .i64 (IntKind.wrap .i64 ((1:Int)+r3))),(.int .i64 (IntKind.wrap .i64 ((1:Int)+r4)))])) h4 fun _ h5=>
 ∃res5:Int×Int×Int,ai h5 a1 0 [(.int .i64 res5.1),(.int .i64 res5.2.1),(.int .i64 res5.2.2)]∧
 R (.agg #[(.int .i64 res5.1),(.int .i64 res5.2.1),(.int .i64 res5.2.2)]) h5
theorem pA (a_0:Int) (b_1:Int) (c_2:Int) {R:Value→Heap→Prop} {h:Heap} (hm:kC a_0 b_1 c_2 R h):ab Tryz.prog 24 #[(.int .i64 a_0),(.int .i64 b_1),(.int .i64 c_2)] h R:=aq ag Tryz.func24 .n hm
abbrev rQ:FuncId:=25
noncomputable def lI (l_0:Sl) (k_1:Int) (R:Value→Heap→Prop) (h:Heap):Prop:=
 Br (decide (k_1<((l_0.len:Nat):Int)))
 (∃a1:Addr,(l_0.ptr=some a1∧0≤k_1∧k_1<((l_0.len:Nat):Int))∧
 ∃x2:Int,cellOf h (a1.add (k_1.toNat*1))=some (.int .i64 x2)∧
 R (.int .i64 x2) h)
 (R (.int .i64 (0:Int)) h)
theorem q9 (l_0:Sl) (k_1:Int) {R:Value→Heap→Prop} {h:Heap} (hm:lI l_0 k_1 R h):ab Tryz.prog 25 #[(.slice l_0.ptr l_0.len l_0.cap),(.int .i64 k_1)] h R:=aq ag Tryz.func25 .n hm
abbrev Af:FuncId:=26
noncomputable def rR (cells_0:Sl) (R:Value→Heap→Prop) (h:Heap):Prop:=
 aO (σ:=Sl×Int) (fun s1 K1 h1=>
 Br (decide (s1.2<((cells_0.len:Nat):Int)))
 (∃a2:Addr,(cells_0.ptr=some a2∧0≤s1.2∧s1.2<((cells_0.len:Nat):Int))∧
 ∃x3:Int,cellOf h1 (a2.add (s1.2.toNat*1))=some (.int .i64 x3)∧
 aZ (σ:=Unit) (fun _ h2=>
 Br (decide (x3>(0:Int)))
 (az Tryz.prog (Instr.buildSlice 22 1 #[(0,(.int .i64 s1.2))]) (.one (.sc .slc)) h2 fun v5 h3=>
 az Tryz.prog (Builtin.append_ #[22,22] 22 #[(.slice s1.1.ptr s1.1.len s1.1.cap),(.slice v5.ptr v5.len v5.cap)]) (.one (.sc .slc)) h3 fun v6 h4=>
 K1 ((⟨v6.ptr,v6.len,v6.cap⟩:Sl),IntKind.wrap .i64 (s1.2+(1:Int))) h4)
 (K1 ((⟨s1.1.ptr,s1.1.len,s1.1.cap⟩:Sl),IntKind.wrap .i64 (s1.2+(1:Int))) h2))
 (fun K2=>
 Br (decide (x3<(0:Int))) (R (.tuple #[(.slice none 0 0),(.bool false)]) h1) (Br (decide (x3>(512:Int)))
 (R (.tuple #[(.slice none 0 0),(.bool false)]) h1)
 (K2 () h1))))
 (Br (decide (((cells_0.len:Nat):Int)≤(64:Int))) (R (.tuple #[(.slice s1.1.ptr s1.1.len s1.1.cap),(.bool (decide (((s1.1.len:Nat):Int)>(0:Int))))]) h1) (R (.tuple #[(.slice s1.1.ptr s1.1.len s1.1.cap),(.bool false)]) h1))) ((⟨none,0,0⟩:Sl),(0:Int)) h
theorem y8 (cells_0:Sl) {R:Value→Heap→Prop} {h:Heap} (hm:rR cells_0 R h):ab Tryz.prog 26 #[(.slice cells_0.ptr cells_0.len cells_0.cap)] h R:=aq ag Tryz.func26 (.two .n (.two .n (.two (.two .n (.inn (.loop [(4,(.sc .slc)),(9,(.sc (.int .i64)))] [(2,7),(9,27)] (.two .n (.two .n (.two (.inn (.two .n (.two (.join [] [(2,4),(14,20)] .n) .n))) .n)))))) .n))) hm
abbrev Jt:FuncId:=27
noncomputable def C9 (p_0:Int×Int×Int) (R:Value→Heap→Prop) (h:Heap):Prop:=
 aK Tryz.prog (Instr.box 24 (.agg #[(.int .i64 p_0.1),(.int .i64 p_0.2.1),(.int .i64 p_0.2.2)])) h fun a1 h1=>
 ∃x2:Int,cellOf h1 a1=some (.int .i64 x2)∧
 Br (decide (x2≥(1:Int))) (∃x3:Int,cellOf h1 a1=some (.int .i64 x3)∧
 Br (decide (x3≤(16:Int))) (∃x4:Int,cellOf h1 (a1.add 1)=some (.int .i64 x4)∧
 Br (decide (x4≥(1:Int))) (∃x5:Int,cellOf h1 (a1.add 1)=some (.int .i64 x5)∧
 Br (decide (x5≤(4:Int))) (∃x6:Int,cellOf h1 (a1.add 2)=some (.int .i64 x6)∧
 Br (decide (x6≥(1:Int))) (∃x7:Int,cellOf h1 (a1.add 2)=some (.int .i64 x7)∧
 R (.bool (decide (x7≤(24:Int)))) h1) (R (.bool false) h1)) (R (.bool false) h1)) (R (.bool false) h1)) (R (.bool false) h1)) (R (.bool false) h1)
theorem G8 (p_0:Int×Int×Int) {R:Value→Heap→Prop} {h:Heap} (hm:C9 p_0 R h):ab Tryz.prog 27 #[(.agg #[(.int .i64 p_0.1),(.int .i64 p_0.2.1),(.int .i64 p_0.2.2)])] h R:=aq ag Tryz.func27 .n hm
abbrev uU:FuncId:=28
noncomputable def nA (p_0:Option Addr) (R:Value→Heap→Prop) (h:Heap):Prop:=
 Br (Option.isNone p_0)
 (R (.int .i64 (0:Int)) h)
 (∃a1:Addr,(p_0=some a1)∧
 ∃x2:Int,cellOf h (a1.add 3)=some (.int .i64 x2)∧
 R (.int .i64 x2) h)
theorem tm (p_0:Option Addr) {R:Value→Heap→Prop} {h:Heap} (hm:nA p_0 R h):ab Tryz.prog 28 #[(.pointer p_0)] h R:=aq ag Tryz.func28 .n hm
end Go.Proofs.YtkciobclldnoiaaGreat
