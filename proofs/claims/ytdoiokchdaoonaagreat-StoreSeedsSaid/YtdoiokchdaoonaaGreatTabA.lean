/- Part of the proofs that the laws of this seat answer true whatever the input reads, and leave it as it was; no condition. -/
import Derived.Test.YtdoiokchdaoonaaGreatPlA
import Derived.Test.YtdoiokchdaoonaaGreatProg
set_option linter.unusedVariables false
set_option linter.unusedSimpArgs false
namespace Go.Proofs.YtdoiokchdaoonaaGreat
open Go Go.Vc Go.Proofs
set_option maxRecDepth 1000000
def iZ:ByteArray:=⟨#[105,116]⟩
abbrev aF:Nat:=3
abbrev aB:Nat:=5
abbrev J8:Nat:=9
abbrev aS:Nat:=23
abbrev fW:Nat:=24
abbrev vk:Nat:=35
abbrev aP:Nat:=45
abbrev zx:Nat:=48
abbrev ao:Nat:=50
abbrev aQ:Nat:=54
abbrev Em:Nat:=58
abbrev vl:Nat:=62
abbrev bj:Nat:=71
abbrev eu:Nat:=77
abbrev Bg:Nat:=78
abbrev du:Nat:=82
abbrev cA:Nat:=101
abbrev xK:Nat:=113
abbrev fe:Nat:=116
abbrev bG:Nat:=123
abbrev jx:Nat:=131
abbrev aG:Nat:=149
abbrev xL:Nat:=161
abbrev tG:Nat:=171
abbrev dM:Nat:=179
abbrev zy:Nat:=182
abbrev fK:Nat:=186
abbrev En:Nat:=215
abbrev Iw:Nat:=217
abbrev mN:Nat:=220
abbrev dv:Nat:=226
abbrev dq:Nat:=269
abbrev aI:TI:=⟨.fn,(.sc .fn),1,8,[.nilFunc]⟩
abbrev KX:TI:=⟨.int .i64,(.sc (.int .i64)),1,8,[(.int .i64 0)]⟩
abbrev KY:TI:=⟨.int .u8,(.sc (.int .u8)),1,1,[(.int .u8 0)]⟩
abbrev Mr:TI:=⟨.str,(.sc .str),1,16,[(.string ⟨#[]⟩)]⟩
abbrev KZ:TI:=⟨.int .u64,(.sc (.int .u64)),1,8,[(.int .u64 0)]⟩
abbrev Ms:TI:=⟨.int .i32,(.sc (.int .i32)),1,4,[(.int .i32 0)]⟩
abbrev K0:TI:=⟨.struct [(0,4),(1,4),(2,3),(3,3)],(.agg [.bool,.bool,(.int .i64),(.int .i64)]),4,24,[(.bool .false),(.bool .false),(.int .i64 0),(.int .i64 0)]⟩
abbrev Mt:TI:=⟨.other,(.sc .any),1,0,[(.tuple #[(.pointer none),(.int .i64 0)])]⟩
abbrev Ix:TI:=⟨.struct [(0,3),(1,45)],(.agg [(.int .i64),.slc]),2,32,[(.int .i64 0),(.slice none 0 0)]⟩
noncomputable def K9:iN:=[⟨.other,(.sc .any),1,0,[(.tuple #[])]⟩,aI,KX,KX,⟨.bool,(.sc .bool),1,1,[(.bool .false)]⟩,KY,KY,⟨.struct [(0,2),(1,3),(2,4),(3,6)],(.agg [(.int .i64),(.int .i64),.bool,(.int .u8)]),4,24,[(.int .i64 0),(.int .i64 0),(.bool .false),(.int .u8 0)]⟩,⟨.struct [(0,2),(1,3),(2,4),(3,6)],(.agg [(.int .i64),(.int .i64),.bool,(.int .u8)]),4,24,[(.int .i64 0),(.int .i64 0),(.bool .false),(.int .u8 0)]⟩,Mr,Mr,Mr,KZ,⟨.struct [(0,9),(1,12)],(.agg [.str,(.int .u64)]),2,24,[(.string ⟨#[]⟩),(.int .u64 0)]⟩,⟨.struct [(0,9),(1,12)],(.agg [.str,(.int .u64)]),2,24,[(.string ⟨#[]⟩),(.int .u64 0)]⟩,⟨.ptr 289,(.sc .ptr),1,8,[(.pointer none)]⟩,⟨.ptr 292,(.sc .ptr),1,8,[(.pointer none)]⟩,⟨.ptr 299,(.sc .ptr),1,8,[(.pointer none)]⟩,⟨.struct [(0,17)],(.agg [.ptr]),1,8,[(.pointer none)]⟩,⟨.struct [(0,17)],(.agg [.ptr]),1,8,[(.pointer none)]⟩,⟨.other,(.sc .any),1,16,[.nilIface]⟩,Ms,⟨.struct [(0,3),(1,3),(2,3)],(.agg [(.int .i64),(.int .i64),(.int .i64)]),3,24,[(.int .i64 0),(.int .i64 0),(.int .i64 0)]⟩,⟨.struct [(0,3),(1,3),(2,3)],(.agg [(.int .i64),(.int .i64),(.int .i64)]),3,24,[(.int .i64 0),(.int .i64 0),(.int .i64 0)]⟩,⟨.slice 3,(.sc .slc),1,24,[(.slice none 0 0)]⟩,aI,⟨.other,(.sc .any),1,0,[(.tuple #[(.agg #[(.int .i64 0),(.int .i64 0),(.int .i64 0)]),(.int .i64 0),(.slice none 0 0)])]⟩,aI,aI,⟨.ptr 71,(.sc .ptr),1,8,[(.pointer none)]⟩,aI,⟨.ptr 33,(.sc .ptr),1,8,[(.pointer none)]⟩,K0,K0,aI,⟨.ptr 77,(.sc .ptr),1,8,[(.pointer none)]⟩,KX,Mt,aI,aI,⟨.ptr 89,(.sc .ptr),1,8,[(.pointer none)]⟩,Mt,aI,aI,aI,⟨.slice 5,(.sc .slc),1,24,[(.slice none 0 0)]⟩,aI,aI,⟨.slice 54,(.sc .slc),1,24,[(.slice none 0 0)]⟩,⟨.struct [(0,3),(1,3),(2,23),(5,3),(6,24),(7,48)],(.agg [(.int .i64),(.int .i64),(.int .i64),(.int .i64),(.int .i64),(.int .i64),.slc,.slc]),8,96,[(.int .i64 0),(.int .i64 0),(.int .i64 0),(.int .i64 0),(.int .i64 0),(.int .i64 0),(.slice none 0 0),(.slice none 0 0)]⟩,⟨.struct [(0,3),(1,3),(2,23),(5,3),(6,24),(7,48)],(.agg [(.int .i64),(.int .i64),(.int .i64),(.int .i64),(.int .i64),(.int .i64),.slc,.slc]),8,96,[(.int .i64 0),(.int .i64 0),(.int .i64 0),(.int .i64 0),(.int .i64 0),(.int .i64 0),(.slice none 0 0),(.slice none 0 0)]⟩,aI,aI,⟨.struct [(0,9),(1,3),(2,3),(3,24)],(.agg [.str,(.int .i64),(.int .i64),.slc]),4,56,[(.string ⟨#[]⟩),(.int .i64 0),(.int .i64 0),(.slice none 0 0)]⟩,⟨.struct [(0,9),(1,3),(2,3),(3,24)],(.agg [.str,(.int .i64),(.int .i64),.slc]),4,56,[(.string ⟨#[]⟩),(.int .i64 0),(.int .i64 0),(.slice none 0 0)]⟩,aI,⟨.int .u32,(.sc (.int .u32)),1,4,[(.int .u32 0)]⟩,aI,⟨.slice 24,(.sc .slc),1,24,[(.slice none 0 0)]⟩,aI,aI,aI,⟨.ptr 123,(.sc .ptr),1,8,[(.pointer none)]⟩,aI,aI,aI,⟨.slice 9,(.sc .slc),1,24,[(.slice none 0 0)]⟩,aI,aI,aI,K0,K0,⟨.other,(.sc .any),1,0,[(.tuple #[(.slice none 0 0),(.bool .false)])]⟩,aI,aI,⟨.array 64 62,(.arr .ptr),64,512,List.replicate 64 (.pointer none)⟩,⟨.struct [(0,50),(8,29),(9,3),(10,75)],(.arr .any),74,624,[(.int .i64 0),(.int .i64 0),(.int .i64 0),(.int .i64 0),(.int .i64 0),(.int .i64 0),(.slice none 0 0),(.slice none 0 0),(.pointer none),(.int .i64 0)]++List.replicate 64 (.pointer none)⟩,⟨.struct [(0,50),(8,29),(9,3),(10,75)],(.arr .any),74,624,[(.int .i64 0),(.int .i64 0),(.int .i64 0),(.int .i64 0),(.int .i64 0),(.int .i64 0),(.slice none 0 0),(.slice none 0 0),(.pointer none),(.int .i64 0)]++List.replicate 64 (.pointer none)⟩,⟨.slice 45,(.sc .slc),1,24,[(.slice none 0 0)]⟩,aI,aI,aI,⟨.slice 101,(.sc .slc),1,24,[(.slice none 0 0)]⟩,aI,⟨.other,(.sc .any),1,0,[(.tuple #[(.agg #[(.int .i64 0),(.int .i64 0),(.int .i64 0),(.int .i64 0),(.int .i64 0),(.int .i64 0),(.slice none 0 0),(.slice none 0 0)]),(.int .i64 0)])]⟩,aI,⟨.ptr 131,(.sc .ptr),1,8,[(.pointer none)]⟩,⟨.array 64 86,(.arr .ptr),64,512,List.replicate 64 (.pointer none)⟩,⟨.struct [(0,50),(8,31),(9,3),(10,87)],(.arr .any),74,624,[(.int .i64 0),(.int .i64 0),(.int .i64 0),(.int .i64 0),(.int .i64 0),(.int .i64 0),(.slice none 0 0),(.slice none 0 0),(.pointer none),(.int .i64 0)]++List.replicate 64 (.pointer none)⟩,⟨.struct [(0,50),(8,31),(9,3),(10,87)],(.arr .any),74,624,[(.int .i64 0),(.int .i64 0),(.int .i64 0),(.int .i64 0),(.int .i64 0),(.int .i64 0),(.slice none 0 0),(.slice none 0 0),(.pointer none),(.int .i64 0)]++List.replicate 64 (.pointer none)⟩,aI,aI,aI,aI,aI,aI,aI,⟨.other,(.sc .any),1,0,[(.tuple #[(.slice none 0 0),(.bool .false)])]⟩,aI,aI,Ix,Ix,aI,aI,aI,aI,aI,aI,aI,aI,aI,aI,aI,⟨.slice 116,(.sc .slc),1,24,[(.slice none 0 0)]⟩,aI,Ix,Ix,aI,aI,aI,aI,aI,⟨.struct [(0,29),(1,3),(2,78),(3,3),(4,78),(5,4),(6,4)],(.agg [.ptr,(.int .i64),.slc,(.int .i64),.slc,.bool,.bool]),7,80,[(.pointer none),(.int .i64 0),(.slice none 0 0),(.int .i64 0),(.slice none 0 0),(.bool .false),(.bool .false)]⟩,⟨.struct [(0,29),(1,3),(2,78),(3,3),(4,78),(5,4),(6,4)],(.agg [.ptr,(.int .i64),.slc,(.int .i64),.slc,.bool,.bool]),7,80,[(.pointer none),(.int .i64 0),(.slice none 0 0),(.int .i64 0),(.slice none 0 0),(.bool .false),(.bool .false)]⟩,aI,aI,aI,aI,aI,aI,⟨.struct [(0,3),(1,31),(2,78),(3,3),(4,4),(5,78),(6,4)],(.agg [(.int .i64),.ptr,.slc,(.int .i64),.bool,.slc,.bool]),7,88,[(.int .i64 0),(.pointer none),(.slice none 0 0),(.int .i64 0),(.bool .false),(.slice none 0 0),(.bool .false)]⟩,⟨.struct [(0,3),(1,31),(2,78),(3,3),(4,4),(5,78),(6,4)],(.agg [(.int .i64),.ptr,.slc,(.int .i64),.bool,.slc,.bool]),7,88,[(.int .i64 0),(.pointer none),(.slice none 0 0),(.int .i64 0),(.bool .false),(.slice none 0 0),(.bool .false)]⟩,⟨.slice 133,(.sc .slc),1,24,[(.slice none 0 0)]⟩,Ix,aI,aI,aI,aI,aI,aI,⟨.other,(.sc .any),1,0,[(.tuple #[(.int .i64 0),(.bool .false)])]⟩,aI,aI,aI,⟨.ptr 179,(.sc .ptr),1,8,[(.pointer none)]⟩,Mt,aI,aI,⟨.struct [(0,3),(1,3),(2,3),(3,23),(6,56),(7,45)],(.agg [(.int .i64),(.int .i64),(.int .i64),(.int .i64),(.int .i64),(.int .i64),(.int .u32),.slc]),8,80,[(.int .i64 0),(.int .i64 0),(.int .i64 0),(.int .i64 0),(.int .i64 0),(.int .i64 0),(.int .u32 0),(.slice none 0 0)]⟩,⟨.struct [(0,3),(1,3),(2,3),(3,23),(6,56),(7,45)],(.agg [(.int .i64),(.int .i64),(.int .i64),(.int .i64),(.int .i64),(.int .i64),(.int .u32),.slc]),8,80,[(.int .i64 0),(.int .i64 0),(.int .i64 0),(.int .i64 0),(.int .i64 0),(.int .i64 0),(.int .u32 0),(.slice none 0 0)]⟩,aI,aI,aI,aI,aI,aI,aI,aI,aI,aI,aI,⟨.slice 149,(.sc .slc),1,24,[(.slice none 0 0)]⟩,aI,aI,aI,aI,KZ,aI,aI,aI,aI,⟨.array 64 4,(.arr .bool),64,64,List.replicate 64 (.bool .false)⟩,aI,⟨.other,(.sc .any),1,0,[(.tuple #[(.slice none 0 0),(.int .i64 0)])]⟩,aI,⟨.ptr 220,(.sc .ptr),1,8,[(.pointer none)]⟩,aI,aI,⟨.struct [(0,23),(3,56),(4,78)],(.agg [(.int .i64),(.int .i64),(.int .i64),(.int .u32),.slc]),5,56,[(.int .i64 0),(.int .i64 0),(.int .i64 0),(.int .u32 0),(.slice none 0 0)]⟩,⟨.struct [(0,23),(3,56),(4,78)],(.agg [(.int .i64),(.int .i64),(.int .i64),(.int .u32),.slc]),5,56,[(.int .i64 0),(.int .i64 0),(.int .i64 0),(.int .u32 0),(.slice none 0 0)]⟩,⟨.cpx,(.sc (.cpx .f64)),1,16,[(.complex Go.FloatKind.f64 0 0)]⟩,aI,⟨.slice 186,(.sc .slc),1,24,[(.slice none 0 0)]⟩,⟨.flt,(.sc (.flt .f64)),1,8,[(.float Go.FloatKind.f64 0)]⟩,aI,⟨.struct [(0,3),(1,183)],(.agg [(.int .i64),(.flt .f64)]),2,16,[(.int .i64 0),(.float Go.FloatKind.f64 0)]⟩,⟨.struct [(0,3),(1,183)],(.agg [(.int .i64),(.flt .f64)]),2,16,[(.int .i64 0),(.float Go.FloatKind.f64 0)]⟩,aI,aI,aI,aI,aI,aI,aI,aI,aI,aI,aI,aI,aI,⟨.other,(.sc .any),1,0,[(.tuple #[(.agg #[(.int .i64 0),(.int .i64 0),(.int .i64 0),(.int .i64 0),(.int .i64 0),(.int .i64 0),(.int .u32 0),(.slice none 0 0)]),(.bool .false)])]⟩,aI,aI,aI,aI,aI,aI,⟨.ptr 5,(.sc .ptr),1,8,[(.pointer none)]⟩,aI,aI,aI,aI,aI,aI,aI,⟨.array 255 5,(.arr (.int .u8)),255,255,List.replicate 255 (.int .u8 0)⟩,aI,⟨.array 256 3,(.arr (.int .i64)),256,2048,List.replicate 256 (.int .i64 0)⟩,aI,⟨.struct [(0,215),(255,217)],(.arr .any),511,2304,List.replicate 255 (.int .u8 0)++List.replicate 256 (.int .i64 0)⟩,⟨.struct [(0,215),(255,217)],(.arr .any),511,2304,List.replicate 255 (.int .u8 0)++List.replicate 256 (.int .i64 0)⟩,aI,aI,⟨.ptr 226,(.sc .ptr),1,8,[(.pointer none)]⟩,aI,⟨.struct [(0,180),(1,180),(2,3),(3,3),(4,4)],(.agg [(.cpx .f64),(.cpx .f64),(.int .i64),(.int .i64),.bool]),5,56,[(.complex Go.FloatKind.f64 0 0),(.complex Go.FloatKind.f64 0 0),(.int .i64 0),(.int .i64 0),(.bool .false)]⟩,⟨.struct [(0,180),(1,180),(2,3),(3,3),(4,4)],(.agg [(.cpx .f64),(.cpx .f64),(.int .i64),(.int .i64),.bool]),5,56,[(.complex Go.FloatKind.f64 0 0),(.complex Go.FloatKind.f64 0 0),(.int .i64 0),(.int .i64 0),(.bool .false)]⟩,aI,aI,⟨.ptr 269,(.sc .ptr),1,8,[(.pointer none)]⟩,aI,aI,aI,aI,aI,aI,KX,⟨.other,(.sc .any),1,0,[(.tuple #[(.int .i64 0),(.int .i64 0)])]⟩,aI,aI,aI,aI,aI,aI,KZ,aI,⟨.other,(.sc .any),1,0,[(.tuple #[(.int .i64 0),(.slice none 0 0),(.bool .false)])]⟩,aI,aI,aI,aI,aI,aI,aI,aI,aI,aI,aI,aI,aI,aI,aI,aI,aI,aI,aI,aI,aI,⟨.struct [(0,244)],(.agg [(.int .u64)]),1,8,[(.int .u64 0)]⟩,⟨.struct [(0,244)],(.agg [(.int .u64)]),1,8,[(.int .u64 0)]⟩,KZ,aI,aI,aI,⟨.ptr 3,(.sc .ptr),1,8,[(.pointer none)]⟩,aI,aI,aI,aI,aI,aI,aI,⟨.ptr 270,(.sc .ptr),1,8,[(.pointer none)]⟩,⟨.other,(.sc .any),1,0,[(.tuple #[(.int .i64 0),(.int .i64 0)])]⟩,aI,aI,aI,aI,⟨.struct [(0,17),(1,17),(2,17),(3,9)],(.agg [.ptr,.ptr,.ptr,.str]),4,40,[(.pointer none),(.pointer none),(.pointer none),(.string ⟨#[]⟩)]⟩,⟨.struct [(0,17),(1,17),(2,17),(3,9)],(.agg [.ptr,.ptr,.ptr,.str]),4,40,[(.pointer none),(.pointer none),(.pointer none),(.string ⟨#[]⟩)]⟩,⟨.array 0 16,(.arr .ptr),0,0,[]⟩,⟨.struct [(0,290)],(.agg []),0,0,[]⟩,⟨.struct [(0,290)],(.agg []),0,0,[]⟩,KY,KY,aI,Ms,Ms,⟨.struct [(0,12),(1,12),(2,56),(3,293),(4,5),(5,5),(6,294),(7,295),(8,207),(9,296),(10,297)],(.agg [(.int .u64),(.int .u64),(.int .u32),(.int .u8),(.int .u8),(.int .u8),(.int .u8),.fn,.ptr,(.int .i32),(.int .i32)]),11,48,[(.int .u64 0),(.int .u64 0),(.int .u32 0),(.int .u8 0),(.int .u8 0),(.int .u8 0),(.int .u8 0),.nilFunc,(.pointer none),(.int .i32 0),(.int .i32 0)]⟩,⟨.struct [(0,12),(1,12),(2,56),(3,293),(4,5),(5,5),(6,294),(7,295),(8,207),(9,296),(10,297)],(.agg [(.int .u64),(.int .u64),(.int .u32),(.int .u8),(.int .u8),(.int .u8),(.int .u8),.fn,.ptr,(.int .i32),(.int .i32)]),11,48,[(.int .u64 0),(.int .u64 0),(.int .u32 0),(.int .u8 0),(.int .u8 0),(.int .u8 0),(.int .u8 0),.nilFunc,(.pointer none),(.int .i32 0),(.int .i32 0)]⟩,⟨.other,(.sc .any),1,8,[(.pointer none)]⟩]
noncomputable def C:Ctx:={P:=Tryz.prog,T:=K9,tup:=[(0,[]),(26,[(.agg [(.int .i64),(.int .i64),(.int .i64)]),(.sc (.int .i64)),(.sc .slc)]),(37,[(.sc .ptr),(.sc (.int .i64))]),(41,[(.sc .ptr),(.sc (.int .i64))]),(72,[(.sc .slc),(.sc .bool)]),(84,[(.agg [(.int .i64),(.int .i64),(.int .i64),(.int .i64),(.int .i64),(.int .i64),.slc,.slc]),(.sc (.int .i64))]),(97,[(.sc .slc),(.sc .bool)]),(140,[(.sc (.int .i64)),(.sc .bool)]),(145,[(.sc .ptr),(.sc (.int .i64))]),(173,[(.sc .slc),(.sc (.int .i64))]),(200,[(.agg [(.int .i64),(.int .i64),(.int .i64),(.int .i64),(.int .i64),(.int .i64),(.int .u32),.slc]),(.sc .bool)]),(237,[(.sc (.int .i64)),(.sc (.int .i64))]),(246,[(.sc (.int .i64)),(.sc .slc),(.sc .bool)]),(283,[(.sc (.int .i64)),(.sc (.int .i64))])],fns:=[false,false]++List.replicate 248 true++List.replicate 21 false}
theorem M5:(List.range C.T.length).map (iN.seen C.P)=C.T.map iN.told:=by kernel_rfl
theorem LI:C.P.follows .mixedOrders=true:=by kernel_rfl
theorem M6:(C.P.funcs.toList.map fun f=>!(f.name== "runtime.NumGoroutine")&&f.body.isSome)=C.fns:=by kernel_rfl
theorem ag:C.Ok:={K9:=M5,mixed:=LI,fns:=M6}
abbrev gF:FuncId:=4
noncomputable def gT (c_0:Sl) (n_1:Int) (x_2:Int) (R:Value→Heap→Prop) (h:Heap):Prop:=
 af Tryz.prog 6 #[(.slice c_0.ptr c_0.len c_0.cap)] (.many [(.agg [(.int .i64),(.int .i64),(.int .i64)]),(.sc (.int .i64)),(.sc .slc)]) h fun r1 h1=>
 aM Tryz.prog (Instr.alloc 23 true (.tuple #[])) h1 fun a2 h2=>
 ae Tryz.prog (Instr.storeAt 23 (.pointer (some a2)) (.agg #[(.int .i64 r1.1.1),(.int .i64 r1.1.2.1),(.int .i64 r1.1.2.2)])) h2 fun _ h3=>
 aK (σ:=Int) (fun s3 K1 h4=>
 Br (decide (s3<((r1.2.2.len:Nat):Int)))
 (∃a4:Addr,(r1.2.2.ptr=some a4∧0≤s3∧s3<((r1.2.2.len:Nat):Int))∧
 ae Tryz.prog (Instr.storeAt 3 (.pointer (some (a4.add (s3.toNat*1)))) (.int .i64 (300:Int))) h4 fun _ h5=>
 K1 (IntKind.wrap .i64 (s3+(1:Int))) h5)
 (aW (σ:=Option Addr×Int) (fun s8 h8=>
 aW (σ:=Unit) (fun _ h9=>
 ∃x10:Int,cellOf h9 a2=some (.int .i64 x10)∧
 ∃x11:Int,cellOf h9 (a2.add 2)=some (.int .i64 x11)∧
 af Tryz.prog 7 #[(.int .i64 n_1),(.int .i64 (IntKind.wrap .i64 ((IntKind.wrap .i64 ((IntKind.wrap .i64 ((3:Int)*x10))*x11))+(2:Int))))] (.one (.sc (.int .i64))) h9 fun r12 h10=>
 af Tryz.prog 15 #[(.int .i64 r12),(.int .i64 x_2)] (.one (.sc .slc)) h10 fun r13 h11=>
 af Tryz.prog 16 #[(.pointer s8.1),(.string iZ),(.slice r13.ptr r13.len r13.cap)] (.one (.sc (.int .i64))) h11 fun r14 h12=>
 af Tryz.prog 17 #[(.pointer s8.1)] (.one (.agg [(.int .i64),(.int .i64),(.int .i64),(.int .i64),(.int .i64),(.int .i64),.slc,.slc])) h12 fun r15 h13=>
 aM Tryz.prog (Instr.alloc 50 true (.tuple #[])) h13 fun a16 h14=>
 ae Tryz.prog (Instr.storeAt 50 (.pointer (some a16)) (.agg #[(.int .i64 r15.1),(.int .i64 r15.2.1),(.int .i64 r15.2.2.1),(.int .i64 r15.2.2.2.1),(.int .i64 r15.2.2.2.2.1),(.int .i64 r15.2.2.2.2.2.1),(.slice r15.2.2.2.2.2.2.1.ptr r15.2.2.2.2.2.2.1.len r15.2.2.2.2.2.2.1.cap),(.slice r15.2.2.2.2.2.2.2.ptr r15.2.2.2.2.2.2.2.len r15.2.2.2.2.2.2.2.cap)])) h14 fun _ h15=>
 Br (r14 !=(0:Int))
 (Br (r14==(8:Int)) (∃x17:Sl,cellOf h15 (a16.add 7)=some (.slice x17.ptr x17.len x17.cap)∧
 Br (((x17.len:Nat):Int)==(0:Int)) (∃x18:Int,cellOf h15 a16=some (.int .i64 x18)∧
 Br (x18==(1:Int)) (∃x19:Int,cellOf h15 (a16.add 1)=some (.int .i64 x19)∧
 Br (x19==(0:Int)) (af Tryz.prog 5 #[] (.one (.sc .bool)) h15 fun r20 h16=>
 R (.bool r20) h16) (R (.bool false) h15)) (R (.bool false) h15)) (R (.bool false) h15)) (R (.bool false) h15))
 (aW (σ:=Unit) (fun _ h18=>
 ∃x27:Sl,cellOf h18 (a16.add 7)=some (.slice x27.ptr x27.len x27.cap)∧
 ∃a28:Addr,(x27.ptr=some a28∧0≤(0:Int)∧(0:Int)<((x27.len:Nat):Int))∧
 ∃x29:Sl,cellOf h18 ((a28.add ((0:Int).toNat*4)).add 3)=some (.slice x29.ptr x29.len x29.cap)∧
 aK (σ:=Int) (fun s30 K5 h19=>
 Br (decide (s30<((x29.len:Nat):Int)))
 (∃a31:Addr,(x29.ptr=some a31∧0≤s30∧s30<((x29.len:Nat):Int))∧
 ∃x32:Int,cellOf h19 (a31.add (s30.toNat*1))=some (.int .i64 x32)∧
 aK (σ:=Int) (fun s33 K6 h20=>
 Br (decide (s33≤x32))
 (∃x34:Int×Int×Int,ai h20 a2 0 [(.int .i64 x34.1),(.int .i64 x34.2.1),(.int .i64 x34.2.2)]∧
 af Tryz.prog 20 #[(.int .i64 (0:Int)),(.int .i64 s30),(.int .i64 s33)] (.one (.sc (.int .u32))) h20 fun r35 h21=>
 (aw.ok [(a2,(.int .i64 x34.1)),(a2.add 1,(.int .i64 x34.2.1)),(a2.add 2,(.int .i64 x34.2.2))] h21)∧
 af Tryz.prog 19 #[(.agg #[(.int .i64 x34.1),(.int .i64 x34.2.1),(.int .i64 x34.2.2)]),(.int .u32 r35)] (.one (.sc .bool)) h21 fun r36 h22=>
 (aw.ok [] h22)∧
 Br (!(r36==(s33==x32)))
 (R (.bool false) h22)
 (K6 (IntKind.wrap .i64 (s33+(1:Int))) h22))
 (af Tryz.prog 21 #[(.pointer s8.1),(.int .i64 (0:Int)),(.int .i64 s30)] (.one (.sc .slc)) h20 fun r37 h23=>
 Br (((r37.len:Nat):Int) !=((r1.2.2.len:Nat):Int))
 (R (.bool false) h23)
 (aK (σ:=Int×Int×Int×Int) (fun s38 K7 h24=>
 Br (decide (s38.2.2.2<((r37.len:Nat):Int)))
 (∃a39:Addr,(r37.ptr=some a39∧0≤s38.2.2.2∧s38.2.2.2<((r37.len:Nat):Int))∧
 ∃x40:Sl,cellOf h24 (a39.add (s38.2.2.2.toNat*1))=some (.slice x40.ptr x40.len x40.cap)∧
 K7 ((if((x40.len:Nat):Int)<s38.1 then((x40.len:Nat):Int)else s38.1),(if((x40.len:Nat):Int)>s38.2.1 then((x40.len:Nat):Int)else s38.2.1),IntKind.wrap .i64 (s38.2.2.1+((x40.len:Nat):Int)),IntKind.wrap .i64 (s38.2.2.2+(1:Int))) h24)
 (Br (decide ((IntKind.wrap .i64 (s38.2.1-s38.1))>(1:Int))) (R (.bool false) h24) (∃x41:Int,cellOf h24 a2=some (.int .i64 x41)∧
 Br (s38.2.2.1 !=(IntKind.wrap .i64 (x41+r1.2.1)))
 (R (.bool false) h24)
 (K5 (IntKind.wrap .i64 (s30+(1:Int))) h24)))) ((1000:Int),(0:Int),(0:Int),(0:Int)) h23))) (0:Int) h19)
 (af Tryz.prog 22 #[(.pointer s8.1)] (.one (.sc .slc)) h19 fun r42 h25=>
 aK (σ:=Int) (fun s43 K8 h26=>
 Br (decide (s43<((r42.len:Nat):Int)))
 (∃a44:Addr,(r42.ptr=some a44∧0≤s43∧s43<((r42.len:Nat):Int))∧
 ∃x45:Int,cellOf h26 (a44.add (s43.toNat*1))=some (.int .i64 x45)∧
 ∃x46:Int×Int×Int×Int×Int×Int×Sl×Sl,ai h26 a16 0 [(.int .i64 x46.1),(.int .i64 x46.2.1),(.int .i64 x46.2.2.1),(.int .i64 x46.2.2.2.1),(.int .i64 x46.2.2.2.2.1),(.int .i64 x46.2.2.2.2.2.1),(.slice x46.2.2.2.2.2.2.1.ptr x46.2.2.2.2.2.2.1.len x46.2.2.2.2.2.2.1.cap),(.slice x46.2.2.2.2.2.2.2.ptr x46.2.2.2.2.2.2.2.len x46.2.2.2.2.2.2.2.cap)]∧
 af Tryz.prog 24 #[(.pointer s8.1),(.int .i64 x45)] (.one (.sc .ptr)) h26 fun r47 h27=>
 (aw.ok [(a16,(.int .i64 x46.1)),(a16.add 1,(.int .i64 x46.2.1)),(a16.add 2,(.int .i64 x46.2.2.1)),(a16.add 3,(.int .i64 x46.2.2.2.1)),(a16.add 4,(.int .i64 x46.2.2.2.2.1)),(a16.add 5,(.int .i64 x46.2.2.2.2.2.1)),(a16.add 6,(.slice x46.2.2.2.2.2.2.1.ptr x46.2.2.2.2.2.2.1.len x46.2.2.2.2.2.2.1.cap)),(a16.add 7,(.slice x46.2.2.2.2.2.2.2.ptr x46.2.2.2.2.2.2.2.len x46.2.2.2.2.2.2.2.cap))] h27)∧
 af Tryz.prog 23 #[(.pointer r47),(.agg #[(.int .i64 x46.1),(.int .i64 x46.2.1),(.int .i64 x46.2.2.1),(.int .i64 x46.2.2.2.1),(.int .i64 x46.2.2.2.2.1),(.int .i64 x46.2.2.2.2.2.1),(.slice x46.2.2.2.2.2.2.1.ptr x46.2.2.2.2.2.2.1.len x46.2.2.2.2.2.2.1.cap),(.slice x46.2.2.2.2.2.2.2.ptr x46.2.2.2.2.2.2.2.len x46.2.2.2.2.2.2.2.cap)])] (.one (.sc .bool)) h27 fun r48 h28=>
 (aw.ok [] h28)∧
 Br (!r48) ((aw.ok [] h28)∧
 (aw.ok [] h28)∧
 R (.bool false) h28) (af Tryz.prog 24 #[(.pointer s8.1),(.int .i64 x45)] (.one (.sc .ptr)) h28 fun r49 h29=>
 (aw.ok [] h29)∧
 af Tryz.prog 25 #[(.pointer r49)] (.one (.sc (.int .i64))) h29 fun r50 h30=>
 (aw.ok [] h30)∧
 Br (r50 !=(0:Int))
 (R (.bool false) h30)
 (K8 (IntKind.wrap .i64 (s43+(1:Int))) h30)))
 (af Tryz.prog 5 #[] (.one (.sc .bool)) h26 fun r51 h31=>
 R (.bool r51) h31)) (0:Int) h25)) (0:Int) h18)
 (fun K4=>
 ∃x21:Sl,cellOf h15 (a16.add 7)=some (.slice x21.ptr x21.len x21.cap)∧
 Br (((x21.len:Nat):Int) !=(1:Int)) (R (.bool false) h15) (∃x22:Int,cellOf h15 a16=some (.int .i64 x22)∧
 Br (x22 !=(2:Int)) (R (.bool false) h15) (∃x23:Int,cellOf h15 (a16.add 1)=some (.int .i64 x23)∧
 Br (x23 !=(1:Int)) (R (.bool false) h15) (∃x24:Int×Int×Int×Int×Int×Int×Sl×Sl,ai h15 a16 0 [(.int .i64 x24.1),(.int .i64 x24.2.1),(.int .i64 x24.2.2.1),(.int .i64 x24.2.2.2.1),(.int .i64 x24.2.2.2.2.1),(.int .i64 x24.2.2.2.2.2.1),(.slice x24.2.2.2.2.2.2.1.ptr x24.2.2.2.2.2.2.1.len x24.2.2.2.2.2.2.1.cap),(.slice x24.2.2.2.2.2.2.2.ptr x24.2.2.2.2.2.2.2.len x24.2.2.2.2.2.2.2.cap)]∧
 af Tryz.prog 18 #[(.agg #[(.int .i64 x24.1),(.int .i64 x24.2.1),(.int .i64 x24.2.2.1),(.int .i64 x24.2.2.2.1),(.int .i64 x24.2.2.2.2.1),(.int .i64 x24.2.2.2.2.2.1),(.slice x24.2.2.2.2.2.2.1.ptr x24.2.2.2.2.2.2.1.len x24.2.2.2.2.2.2.1.cap),(.slice x24.2.2.2.2.2.2.2.ptr x24.2.2.2.2.2.2.2.len x24.2.2.2.2.2.2.2.cap)])] (.one (.sc .bool)) h15 fun r25 h17=>
 Br (!r25)
 (R (.bool false) h17)
 (K4 () h17)))))))
 (fun K3=>
 Br (s8.2 !=(0:Int)) (R (.bool false) h8) (Br (Option.isNone s8.1)
 (R (.bool false) h8)
 (K3 () h8))))
 (fun K2=>
 ∃x5:Int×Int×Int,ai h4 a2 0 [(.int .i64 x5.1),(.int .i64 x5.2.1),(.int .i64 x5.2.2)]∧
 af Tryz.prog 8 #[] (.one (.sc .ptr)) h4 fun r6 h6=>
 (aw.ok [(a2,(.int .i64 x5.1)),(a2.add 1,(.int .i64 x5.2.1)),(a2.add 2,(.int .i64 x5.2.2))] h6)∧
 af Tryz.prog 11 #[(.agg #[(.int .i64 x5.1),(.int .i64 x5.2.1),(.int .i64 x5.2.2)]),(.int .i64 r1.2.1),(.pointer r6),(.slice r1.2.2.ptr r1.2.2.len r1.2.2.cap)] (.many [(.sc .ptr),(.sc (.int .i64))]) h6 fun r7 h7=>
 (aw.ok [] h7)∧
 K2 (r7.1,r7.2) h7))) (0:Int) h3
theorem ky (c_0:Sl) (n_1:Int) (x_2:Int) {R:Value→Heap→Prop} {h:Heap} (hm:gT c_0 n_1 x_2 R h):ab Tryz.prog 4 #[(.slice c_0.ptr c_0.len c_0.cap),(.int .i64 n_1),(.int .i64 x_2)] h R:=al ag Tryz.func4 (.two .n (.two .n (.two (.two .n (.inn (.loop [(35,(.sc (.int .i64)))] [(10,11),(35,42)] .n))) (.two (.join [(11,(.sc .ptr)),(12,(.sc (.int .i64)))] [(11,13),(42,50)] .n) (.two (.join [] [(6,7),(50,56)] .n) (.two .n (.two .n (.two .n (.two .n (.two (.join [] [(6,7),(95,114)] .n) (.two (.two .n (.inn (.loop [(120,(.sc (.int .i64)))] [(6,7),(16,23),(24,25),(120,179)] (.two .n (.two .n (.two (.inn (.two .n (.two (.two .n (.inn (.loop [(18,(.sc (.int .i64)))] [(6,7),(18,19),(125,139)] .n))) (.two .n (.two .n (.two .n (.two (.two .n (.inn (.loop [(20,(.sc (.int .i64))),(21,(.sc (.int .i64))),(22,(.sc (.int .i64))),(149,(.sc (.int .i64)))] [(20,23),(24,25),(149,166)] .n))) .n))))))) .n)))))) (.two (.two .n (.inn (.loop [(182,(.sc (.int .i64)))] [(6,7),(26,27),(182,200)] .n))) .n)))))))))))) hm
abbrev nz:FuncId:=5
noncomputable def jy (R:Value→Heap→Prop) (h:Heap):Prop:=
 af Tryz.prog 8 #[] (.one (.sc .ptr)) h fun r1 h1=>
 av Tryz.prog (Instr.buildSlice 24 1 #[(0,(.int .i64 (5:Int)))]) (.one (.sc .slc)) h1 fun v2 h2=>
 af Tryz.prog 11 #[(.agg #[(.int .i64 (1:Int)),(.int .i64 (1:Int)),(.int .i64 (1:Int))]),(.int .i64 (0:Int)),(.pointer r1),(.slice v2.ptr v2.len v2.cap)] (.many [(.sc .ptr),(.sc (.int .i64))]) h2 fun r3 h3=>
 Br (r3.2==(0:Int)) (Br (!(Option.isNone r3.1)) (af Tryz.prog 26 #[(.pointer r3.1)] (.one (.sc .slc)) h3 fun r4 h4=>
 Br (((r4.len:Nat):Int)==(0:Int)) (af Tryz.prog 22 #[(.pointer r3.1)] (.one (.sc .slc)) h4 fun r5 h5=>
 R (.bool (((r5.len:Nat):Int)==(1:Int))) h5) (R (.bool false) h4)) (R (.bool false) h3)) (R (.bool false) h3)
theorem mO {R:Value→Heap→Prop} {h:Heap} (hm:jy R h):ab Tryz.prog 5 #[] h R:=al ag Tryz.func5 .n hm
abbrev nA:FuncId:=6
noncomputable def jz (l_0:Sl) (R:Value→Heap→Prop) (h:Heap):Prop:=
 aM Tryz.prog (Instr.alloc 23 true (.tuple #[])) h fun a1 h1=>
 af Tryz.prog 28 #[(.slice l_0.ptr l_0.len l_0.cap),(.int .i64 (0:Int))] (.one (.sc (.int .i64))) h1 fun r2 h2=>
 af Tryz.prog 28 #[(.slice l_0.ptr l_0.len l_0.cap),(.int .i64 (1:Int))] (.one (.sc (.int .i64))) h2 fun r3 h3=>
 af Tryz.prog 28 #[(.slice l_0.ptr l_0.len l_0.cap),(.int .i64 (2:Int))] (.one (.sc (.int .i64))) h3 fun r4 h4=>
 af Tryz.prog 27 #[(.int .i64 r2),(.int .i64 r3),(.int .i64 r4)] (.one (.agg [(.int .i64),(.int .i64),(.int .i64)])) h4 fun r5 h5=>
 aM Tryz.prog (Instr.alloc 23 true (.tuple #[])) h5 fun a6 h6=>
 ae Tryz.prog (Instr.storeAt 23 (.pointer (some a6)) (.agg #[(.int .i64 r5.1),(.int .i64 r5.2.1),(.int .i64 r5.2.2)])) h6 fun _ h7=>
 aK (σ:=Sl×Int) (fun s7 K1 h8=>
 af Tryz.prog 28 #[(.slice l_0.ptr l_0.len l_0.cap),(.int .i64 (4:Int))] (.one (.sc (.int .i64))) h8 fun r8 h9=>
 af Tryz.prog 7 #[(.int .i64 r8),(.int .i64 (4:Int))] (.one (.sc (.int .i64))) h9 fun r9 h10=>
 Br (decide (s7.2<(IntKind.wrap .i64 ((2:Int)+r9))))
 (af Tryz.prog 28 #[(.slice l_0.ptr l_0.len l_0.cap),(.int .i64 (IntKind.wrap .i64 ((5:Int)+s7.2)))] (.one (.sc (.int .i64))) h10 fun r10 h11=>
 af Tryz.prog 7 #[(.int .i64 r10),(.int .i64 (50:Int))] (.one (.sc (.int .i64))) h11 fun r11 h12=>
 av Tryz.prog (Instr.buildSlice 24 1 #[(0,(.int .i64 (IntKind.wrap .i64 ((8:Int)+r11))))]) (.one (.sc .slc)) h12 fun v12 h13=>
 av Tryz.prog (Builtin.append_ #[24,24] 24 #[(.slice s7.1.ptr s7.1.len s7.1.cap),(.slice v12.ptr v12.len v12.cap)]) (.one (.sc .slc)) h13 fun v13 h14=>
 K1 ((⟨v13.ptr,v13.len,v13.cap⟩:Sl),IntKind.wrap .i64 (s7.2+(1:Int))) h14)
 (∃x14:Int×Int×Int,ai h10 a6 0 [(.int .i64 x14.1),(.int .i64 x14.2.1),(.int .i64 x14.2.2)]∧
 af Tryz.prog 28 #[(.slice l_0.ptr l_0.len l_0.cap),(.int .i64 (3:Int))] (.one (.sc (.int .i64))) h10 fun r15 h15=>
 (aw.ok [(a6,(.int .i64 x14.1)),(a6.add 1,(.int .i64 x14.2.1)),(a6.add 2,(.int .i64 x14.2.2))] h15)∧
 af Tryz.prog 7 #[(.int .i64 r15),(.int .i64 (7:Int))] (.one (.sc (.int .i64))) h15 fun r16 h16=>
 (aw.ok [(a6,(.int .i64 x14.1)),(a6.add 1,(.int .i64 x14.2.1)),(a6.add 2,(.int .i64 x14.2.2))] h16)∧
 ae Tryz.prog (Instr.storeAt 23 (.pointer (some a1)) (.agg #[(.int .i64 x14.1),(.int .i64 x14.2.1),(.int .i64 x14.2.2)])) h16 fun _ h17=>
 (aw.ok [] h17)∧
 ∃res17:Int×Int×Int,ai h17 a1 0 [(.int .i64 res17.1),(.int .i64 res17.2.1),(.int .i64 res17.2.2)]∧
 R (.tuple #[(.agg #[(.int .i64 res17.1),(.int .i64 res17.2.1),(.int .i64 res17.2.2)]),(.int .i64 r16),(.slice s7.1.ptr s7.1.len s7.1.cap)]) h17)) ((⟨none,0,0⟩:Sl),(0:Int)) h7
theorem mP (l_0:Sl) {R:Value→Heap→Prop} {h:Heap} (hm:jz l_0 R h):ab Tryz.prog 6 #[(.slice l_0.ptr l_0.len l_0.cap)] h R:=al ag Tryz.func6 (.two .n (.two .n (.two .n (.two .n (.two (.two .n (.inn (.loop [(7,(.sc .slc)),(8,(.sc (.int .i64)))] [(7,9),(16,35)] .n))) .n))))) hm
abbrev nB:FuncId:=7
noncomputable def jA (x_0:Int) (n_1:Int) (R:Value→Heap→Prop) (h:Heap):Prop:=
 (n_1≠0)∧
 aW (σ:=Int) (fun s1 h1=>
 R (.int .i64 s1) h1)
 (fun K1=>
 Br (decide ((Int.tmod x_0 n_1)<(0:Int)))
 (K1 (IntKind.wrap .i64 ((Int.tmod x_0 n_1)+n_1)) h)
 (K1 (Int.tmod x_0 n_1) h))
theorem mQ (x_0:Int) (n_1:Int) {R:Value→Heap→Prop} {h:Heap} (hm:jA x_0 n_1 R h):ab Tryz.prog 7 #[(.int .i64 x_0),(.int .i64 n_1)] h R:=al ag Tryz.func7 (.two .n (.two .n (.two (.join [(0,(.sc (.int .i64)))] [(0,1),(8,13)] .n) .n))) hm
abbrev CQ:FuncId:=8
noncomputable def vF (R:Value→Heap→Prop) (h:Heap):Prop:=
 aM Tryz.prog (Instr.box 71 (.agg #[(.bool false),(.bool false),(.int .i64 (0:Int)),(.int .i64 (0:Int))])) h fun a1 h1=>
 R (.pointer (some a1)) h1
theorem Bh {R:Value→Heap→Prop} {h:Heap} (hm:vF R h):ab Tryz.prog 8 #[] h R:=al ag Tryz.func8 .n hm
abbrev xM:FuncId:=11
noncomputable def pJ (p_0:Int×Int×Int) (extra_1:Int) (pw_2:Option Addr) (cells_3:Sl) (R:Value→Heap→Prop) (h:Heap):Prop:=
 aM Tryz.prog (Instr.box 23 (.agg #[(.int .i64 p_0.1),(.int .i64 p_0.2.1),(.int .i64 p_0.2.2)])) h fun a1 h1=>
 af Tryz.prog 30 #[(.slice cells_3.ptr cells_3.len cells_3.cap)] (.many [(.sc .slc),(.sc .bool)]) h1 fun r2 h2=>
 aW (σ:=Unit) (fun _ h4=>
 aW (σ:=Option Addr) (fun s10 h7=>
 aK (σ:=Int) (fun s11 K3 h8=>
 Br (decide (s11<((r2.1.len:Nat):Int)))
 (∃a12:Addr,(r2.1.ptr=some a12∧0≤s11∧s11<((r2.1.len:Nat):Int))∧
 ∃x13:Int,cellOf h8 (a12.add (s11.toNat*1))=some (.int .i64 x13)∧
 ∃a14:Addr,(cells_3.ptr=some a14∧0≤x13∧x13<((cells_3.len:Nat):Int))∧
 ∃x15:Int,cellOf h8 (a14.add (x13.toNat*1))=some (.int .i64 x15)∧
 ∃a16:Addr,(s10=some a16)∧
 ∃x17:Int×Int×Int×Int×Int×Int×Sl×Sl,ai h8 a16 0 [(.int .i64 x17.1),(.int .i64 x17.2.1),(.int .i64 x17.2.2.1),(.int .i64 x17.2.2.2.1),(.int .i64 x17.2.2.2.2.1),(.int .i64 x17.2.2.2.2.2.1),(.slice x17.2.2.2.2.2.2.1.ptr x17.2.2.2.2.2.2.1.len x17.2.2.2.2.2.2.1.cap),(.slice x17.2.2.2.2.2.2.2.ptr x17.2.2.2.2.2.2.2.len x17.2.2.2.2.2.2.2.cap)]∧
 af Tryz.prog 33 #[(.agg #[(.int .i64 x17.1),(.int .i64 x17.2.1),(.int .i64 x17.2.2.1),(.int .i64 x17.2.2.2.1),(.int .i64 x17.2.2.2.2.1),(.int .i64 x17.2.2.2.2.2.1),(.slice x17.2.2.2.2.2.2.1.ptr x17.2.2.2.2.2.2.1.len x17.2.2.2.2.2.2.1.cap),(.slice x17.2.2.2.2.2.2.2.ptr x17.2.2.2.2.2.2.2.len x17.2.2.2.2.2.2.2.cap)])] (.one (.sc .slc)) h8 fun r18 h9=>
 (aw.ok [(a14.add (x13.toNat*1),(.int .i64 x15))] h9)∧
 Br (decide (x15<((r18.len:Nat):Int)))
 (R (.tuple #[(.pointer none),(.int .i64 (7:Int))]) h9)
 (K3 (IntKind.wrap .i64 (s11+(1:Int))) h9))
 (aK (σ:=Int) (fun s19 K4 h10=>
 Br (decide (s19<((r2.1.len:Nat):Int)))
 (∃a20:Addr,(r2.1.ptr=some a20∧0≤s19∧s19<((r2.1.len:Nat):Int))∧
 ∃x21:Int,cellOf h10 (a20.add (s19.toNat*1))=some (.int .i64 x21)∧
 ∃a22:Addr,(cells_3.ptr=some a22∧0≤x21∧x21<((cells_3.len:Nat):Int))∧
 ∃x23:Int,cellOf h10 (a22.add (x21.toNat*1))=some (.int .i64 x23)∧
 ∃a24:Addr,(s10=some a24)∧
 af Tryz.prog 34 #[(.int .i64 x23),(.pointer pw_2)] (.one (.sc .ptr)) h10 fun r25 h11=>
 (aw.ok [] h11)∧
 (0≤x21∧x21<((64:Nat):Int))∧
 ae Tryz.prog (Instr.storeAt 62 (.pointer (some ((a24.add 10).add (x21.toNat*1)))) (.pointer r25)) h11 fun _ h12=>
 (aw.ok [] h12)∧
 K4 (IntKind.wrap .i64 (s19+(1:Int))) h12)
 (∃a26:Addr,(s10=some a26)∧
 ∃x27:Int×Int×Int×Int×Int×Int×Sl×Sl,ai h10 a26 0 [(.int .i64 x27.1),(.int .i64 x27.2.1),(.int .i64 x27.2.2.1),(.int .i64 x27.2.2.2.1),(.int .i64 x27.2.2.2.2.1),(.int .i64 x27.2.2.2.2.2.1),(.slice x27.2.2.2.2.2.2.1.ptr x27.2.2.2.2.2.2.1.len x27.2.2.2.2.2.2.1.cap),(.slice x27.2.2.2.2.2.2.2.ptr x27.2.2.2.2.2.2.2.len x27.2.2.2.2.2.2.2.cap)]∧
 af Tryz.prog 36 #[(.agg #[(.int .i64 x27.1),(.int .i64 x27.2.1),(.int .i64 x27.2.2.1),(.int .i64 x27.2.2.2.1),(.int .i64 x27.2.2.2.2.1),(.int .i64 x27.2.2.2.2.2.1),(.slice x27.2.2.2.2.2.2.1.ptr x27.2.2.2.2.2.2.1.len x27.2.2.2.2.2.2.1.cap),(.slice x27.2.2.2.2.2.2.2.ptr x27.2.2.2.2.2.2.2.len x27.2.2.2.2.2.2.2.cap)]),(.slice r2.1.ptr r2.1.len r2.1.cap)] (.one (.sc .slc)) h10 fun r28 h13=>
 af Tryz.prog 35 #[(.func (.func 24) #[(.pointer s10)] #[]),(.slice r28.ptr r28.len r28.cap)] (.one (.sc (.int .i64))) h13 fun r29 h14=>
 Br (r29 !=(0:Int))
 (R (.tuple #[(.pointer none),(.int .i64 r29)]) h14)
 (R (.tuple #[(.pointer s10),(.int .i64 (0:Int))]) h14))) (0:Int) h8)) (0:Int) h7)
 (fun K2=>
 ∃x6:Int×Int×Int,ai h4 a1 0 [(.int .i64 x6.1),(.int .i64 x6.2.1),(.int .i64 x6.2.2)]∧
 af Tryz.prog 32 #[(.pointer pw_2)] (.one (.sc (.int .i64))) h4 fun r7 h5=>
 (aw.ok [(a1,(.int .i64 x6.1)),(a1.add 1,(.int .i64 x6.2.1)),(a1.add 2,(.int .i64 x6.2.2))] h5)∧
 ∃v8:Value,(ar Tryz.prog (Instr.build 77 #[(0,(.agg #[(.int .i64 (1:Int)),(.int .i64 (0:Int)),(.int .i64 x6.1),(.int .i64 x6.2.1),(.int .i64 x6.2.2),(.int .i64 extra_1),(.slice r2.1.ptr r2.1.len r2.1.cap),(.slice none 0 0)])),(1,(.pointer pw_2)),(2,(.int .i64 r7))]) v8)∧
 aM Tryz.prog (Instr.box 77 v8) h5 fun a9 h6=>
 (aw.ok [(a1,(.int .i64 x6.1)),(a1.add 1,(.int .i64 x6.2.1)),(a1.add 2,(.int .i64 x6.2.2))] h6)∧
 K2 (some a9) h6))
 (fun K1=>
 Br (!r2.2) (R (.tuple #[(.pointer none),(.int .i64 (1:Int))]) h2) (∃x3:Int×Int×Int,ai h2 a1 0 [(.int .i64 x3.1),(.int .i64 x3.2.1),(.int .i64 x3.2.2)]∧
 af Tryz.prog 31 #[(.agg #[(.int .i64 x3.1),(.int .i64 x3.2.1),(.int .i64 x3.2.2)])] (.one (.sc .bool)) h2 fun r4 h3=>
 Br (!r4) (R (.tuple #[(.pointer none),(.int .i64 (1:Int))]) h3) (Br (decide (extra_1<(0:Int))) (R (.tuple #[(.pointer none),(.int .i64 (1:Int))]) h3) (Br (decide (extra_1>(16:Int))) (R (.tuple #[(.pointer none),(.int .i64 (1:Int))]) h3) (Br (Option.isNone pw_2)
 (R (.tuple #[(.pointer none),(.int .i64 (1:Int))]) h3)
 (K1 () h3))))))
theorem wI (p_0:Int×Int×Int) (extra_1:Int) (pw_2:Option Addr) (cells_3:Sl) {R:Value→Heap→Prop} {h:Heap} (hm:pJ p_0 extra_1 pw_2 cells_3 R h):ab Tryz.prog 11 #[(.agg #[(.int .i64 p_0.1),(.int .i64 p_0.2.1),(.int .i64 p_0.2.2)]),(.int .i64 extra_1),(.pointer pw_2),(.slice cells_3.ptr cells_3.len cells_3.cap)] h R:=al ag Tryz.func11 (.two .n (.two .n (.two (.join [] [(8,10),(23,42)] .n) (.two (.join [(12,(.sc .ptr))] [(12,13),(42,51)] .n) (.two (.two .n (.inn (.loop [(53,(.sc (.int .i64)))] [(8,10),(14,15),(53,69)] .n))) (.two (.two .n (.inn (.loop [(71,(.sc (.int .i64)))] [(16,17),(71,87)] .n))) .n)))))) hm
abbrev o5:FuncId:=15
noncomputable def kc (n_0:Int) (x_1:Int) (R:Value→Heap→Prop) (h:Heap):Prop:=
 aK (σ:=Sl×Int) (fun s1 K1 h1=>
 Br (decide (s1.2<n_0))
 (((7:Int)≠0)∧
 (0≤(Int.tmod s1.2 (7:Int)))∧
 av Tryz.prog (Instr.buildSlice 45 1 #[(0,(.int .u8 (IntKind.wrap .u8 (IntKind.wrap .i64 ((Int.fdiv x_1 (2^min (Int.tmod s1.2 (7:Int)).toNat (IntKind.bits .i64)))+(IntKind.wrap .i64 (s1.2*(IntKind.wrap .i64 ((BitVec.ofInt (IntKind.bits .i64) x_1|||(BitVec.ofInt (IntKind.bits .i64) (1:Int))).toNat:Nat)))))))))]) (.one (.sc .slc)) h1 fun v2 h2=>
 av Tryz.prog (Builtin.append_ #[45,45] 45 #[(.slice s1.1.ptr s1.1.len s1.1.cap),(.slice v2.ptr v2.len v2.cap)]) (.one (.sc .slc)) h2 fun v3 h3=>
 K1 ((⟨v3.ptr,v3.len,v3.cap⟩:Sl),IntKind.wrap .i64 (s1.2+(1:Int))) h3)
 (R (.slice s1.1.ptr s1.1.len s1.1.cap) h1)) ((⟨none,0,0⟩:Sl),(0:Int)) h
theorem n5 (n_0:Int) (x_1:Int) {R:Value→Heap→Prop} {h:Heap} (hm:kc n_0 x_1 R h):ab Tryz.prog 15 #[(.int .i64 n_0),(.int .i64 x_1)] h R:=al ag Tryz.func15 (.two .n (.two .n (.two (.two .n (.inn (.loop [(5,(.sc .slc)),(6,(.sc (.int .i64)))] [(5,25)] .n))) .n))) hm
abbrev tH:FuncId:=16
noncomputable def mA (s_0:Option Addr) (name_1:ByteArray) (b_2:Sl) (R:Value→Heap→Prop) (h:Heap):Prop:=
 af Tryz.prog 47 #[(.pointer s_0),(.string name_1),(.slice b_2.ptr b_2.len b_2.cap)] (.one (.sc (.int .i64))) h fun r1 h1=>
 Br (r1 !=(0:Int))
 (R (.int .i64 r1) h1)
 (∃a2:Addr,(s_0=some a2)∧
 ∃x3:Int,cellOf h1 (a2.add 1)=some (.int .i64 x3)∧
 aM Tryz.prog (Instr.alloc 54 true (.tuple #[])) h1 fun a4 h2=>
 ae Tryz.prog (Instr.storeAt 54 (.pointer (some a4)) (.agg #[(.string name_1),(.int .i64 x3),(.int .i64 ((b_2.len:Nat):Int)),(.slice none 0 0)])) h2 fun _ h3=>
 aW (σ:=Sl×Bool) (fun s12 h6=>
 Br (!s12.2)
 (R (.int .i64 (8:Int)) h6)
 (ae Tryz.prog (Instr.storeAt 24 (.pointer (some (a4.add 3))) (.slice s12.1.ptr s12.1.len s12.1.cap)) h6 fun _ h7=>
 ∃x13:ByteArray×Int×Int×Sl,ai h7 a4 0 [(.string x13.1),(.int .i64 x13.2.1),(.int .i64 x13.2.2.1),(.slice x13.2.2.2.ptr x13.2.2.2.len x13.2.2.2.cap)]∧
 af Tryz.prog 50 #[(.pointer s_0),(.agg #[(.string x13.1),(.int .i64 x13.2.1),(.int .i64 x13.2.2.1),(.slice x13.2.2.2.ptr x13.2.2.2.len x13.2.2.2.cap)]),(.slice b_2.ptr b_2.len b_2.cap)] (.many [(.sc .slc),(.sc .bool)]) h7 fun r14 h8=>
 aM Tryz.prog (Instr.alloc 82 true (.tuple #[])) h8 fun a15 h9=>
 ae Tryz.prog (Instr.storeAt 82 (.pointer (some a15)) (.slice r14.1.ptr r14.1.len r14.1.cap)) h9 fun _ h10=>
 Br (!r14.2)
 (R (.int .i64 (8:Int)) h10)
 (aW (σ:=Addr×Sl) (fun s27 h22=>
 ∃x28:Int×Int×Int×Int×Int×Int×Sl×Sl,ai h22 s27.1 0 [(.int .i64 x28.1),(.int .i64 x28.2.1),(.int .i64 x28.2.2.1),(.int .i64 x28.2.2.2.1),(.int .i64 x28.2.2.2.2.1),(.int .i64 x28.2.2.2.2.2.1),(.slice x28.2.2.2.2.2.2.1.ptr x28.2.2.2.2.2.2.1.len x28.2.2.2.2.2.2.1.cap),(.slice x28.2.2.2.2.2.2.2.ptr x28.2.2.2.2.2.2.2.len x28.2.2.2.2.2.2.2.cap)]∧
 af Tryz.prog 33 #[(.agg #[(.int .i64 x28.1),(.int .i64 x28.2.1),(.int .i64 x28.2.2.1),(.int .i64 x28.2.2.2.1),(.int .i64 x28.2.2.2.2.1),(.int .i64 x28.2.2.2.2.2.1),(.slice x28.2.2.2.2.2.2.1.ptr x28.2.2.2.2.2.2.1.len x28.2.2.2.2.2.2.1.cap),(.slice x28.2.2.2.2.2.2.2.ptr x28.2.2.2.2.2.2.2.len x28.2.2.2.2.2.2.2.cap)])] (.one (.sc .slc)) h22 fun r29 h23=>
 aM Tryz.prog (Instr.alloc 3 true (.tuple #[])) h23 fun a30 h24=>
 ae Tryz.prog (Instr.storeAt 3 (.pointer (some a30)) (.int .i64 ((r29.len:Nat):Int))) h24 fun _ h25=>
 af Tryz.prog 53 #[(.pointer s_0),(.slice s27.2.ptr s27.2.len s27.2.cap),(.func (.func 52) #[] #[(.pointer (some a30)),(.pointer (some a15))])] (.one (.sc .bool)) h25 fun r31 h26=>
 Br (!r31)
 (R (.int .i64 (7:Int)) h26)
 (af Tryz.prog 54 #[(.pointer s_0),(.slice s27.2.ptr s27.2.len s27.2.cap),(.func (.func 52) #[] #[(.pointer (some a30)),(.pointer (some a15))])] (.one (.sc (.int .i64))) h26 fun r32 h27=>
 Br (r32 !=(0:Int))
 (R (.int .i64 r32) h27)
 (∃x33:Sl,cellOf h27 a15=some (.slice x33.ptr x33.len x33.cap)∧
 af Tryz.prog 35 #[(.func (.func 24) #[(.pointer s_0)] #[]),(.slice x33.ptr x33.len x33.cap)] (.one (.sc (.int .i64))) h27 fun r34 h28=>
 Br (r34 !=(0:Int))
 (R (.int .i64 r34) h28)
 (∃x35:Int×Int×Int×Int×Int×Int×Sl×Sl,ai h28 s27.1 0 [(.int .i64 x35.1),(.int .i64 x35.2.1),(.int .i64 x35.2.2.1),(.int .i64 x35.2.2.2.1),(.int .i64 x35.2.2.2.2.1),(.int .i64 x35.2.2.2.2.2.1),(.slice x35.2.2.2.2.2.2.1.ptr x35.2.2.2.2.2.2.1.len x35.2.2.2.2.2.2.1.cap),(.slice x35.2.2.2.2.2.2.2.ptr x35.2.2.2.2.2.2.2.len x35.2.2.2.2.2.2.2.cap)]∧
 af Tryz.prog 55 #[(.pointer s_0),(.agg #[(.int .i64 x35.1),(.int .i64 x35.2.1),(.int .i64 x35.2.2.1),(.int .i64 x35.2.2.2.1),(.int .i64 x35.2.2.2.2.1),(.int .i64 x35.2.2.2.2.2.1),(.slice x35.2.2.2.2.2.2.1.ptr x35.2.2.2.2.2.2.1.len x35.2.2.2.2.2.2.1.cap),(.slice x35.2.2.2.2.2.2.2.ptr x35.2.2.2.2.2.2.2.len x35.2.2.2.2.2.2.2.cap)]),(.slice s27.2.ptr s27.2.len s27.2.cap)] (.one (.sc (.int .i64))) h28 fun r36 h29=>
 R (.int .i64 r36) h29))))
 (fun K2=>
 ∃a16:Addr,(s_0=some a16)∧
 ∃x17:Int×Int×Int×Int×Int×Int×Sl×Sl,ai h10 a16 0 [(.int .i64 x17.1),(.int .i64 x17.2.1),(.int .i64 x17.2.2.1),(.int .i64 x17.2.2.2.1),(.int .i64 x17.2.2.2.2.1),(.int .i64 x17.2.2.2.2.2.1),(.slice x17.2.2.2.2.2.2.1.ptr x17.2.2.2.2.2.2.1.len x17.2.2.2.2.2.2.1.cap),(.slice x17.2.2.2.2.2.2.2.ptr x17.2.2.2.2.2.2.2.len x17.2.2.2.2.2.2.2.cap)]∧
 ∃x18:ByteArray×Int×Int×Sl,ai h10 a4 0 [(.string x18.1),(.int .i64 x18.2.1),(.int .i64 x18.2.2.1),(.slice x18.2.2.2.ptr x18.2.2.2.len x18.2.2.2.cap)]∧
 (af Tryz.prog 51 #[(.agg #[(.int .i64 x17.1),(.int .i64 x17.2.1),(.int .i64 x17.2.2.1),(.int .i64 x17.2.2.2.1),(.int .i64 x17.2.2.2.2.1),(.int .i64 x17.2.2.2.2.2.1),(.slice x17.2.2.2.2.2.2.1.ptr x17.2.2.2.2.2.2.1.len x17.2.2.2.2.2.2.1.cap),(.slice x17.2.2.2.2.2.2.2.ptr x17.2.2.2.2.2.2.2.len x17.2.2.2.2.2.2.2.cap)]),(.agg #[(.string x18.1),(.int .i64 x18.2.1),(.int .i64 x18.2.2.1),(.slice x18.2.2.2.ptr x18.2.2.2.len x18.2.2.2.cap)])] (.one (.agg [(.int .i64),(.int .i64),(.int .i64),(.int .i64),(.int .i64),(.int .i64),.slc,.slc])) h10 fun r19 h11=>
 (aw.ok [] h11)∧
 (af Tryz.prog 22 #[(.pointer s_0)] (.one (.sc .slc)) h11 fun r20 h12=>
 (aw.ok [] h12)∧
 aM Tryz.prog (Instr.alloc 50 true (.tuple #[])) h12 fun a21 h13=>
 (aw.ok [] h13)∧
 ae Tryz.prog (Instr.storeAt 50 (.pointer (some a21)) (.agg #[(.int .i64 r19.1),(.int .i64 r19.2.1),(.int .i64 r19.2.2.1),(.int .i64 r19.2.2.2.1),(.int .i64 r19.2.2.2.2.1),(.int .i64 r19.2.2.2.2.2.1),(.slice r19.2.2.2.2.2.2.1.ptr r19.2.2.2.2.2.2.1.len r19.2.2.2.2.2.2.1.cap),(.slice r19.2.2.2.2.2.2.2.ptr r19.2.2.2.2.2.2.2.len r19.2.2.2.2.2.2.2.cap)])) h13 fun _ h14=>
 (aw.ok [] h14)∧
 K2 (a21,(⟨r20.ptr,r20.len,r20.cap⟩:Sl)) h14)∧(aM Tryz.prog (Instr.alloc 50 true (.tuple #[])) h11 fun a22 h15=>
 (aw.ok [] h15)∧
 af Tryz.prog 22 #[(.pointer s_0)] (.one (.sc .slc)) h15 fun r23 h16=>
 (aw.ok [] h16)∧
 ae Tryz.prog (Instr.storeAt 50 (.pointer (some a22)) (.agg #[(.int .i64 r19.1),(.int .i64 r19.2.1),(.int .i64 r19.2.2.1),(.int .i64 r19.2.2.2.1),(.int .i64 r19.2.2.2.2.1),(.int .i64 r19.2.2.2.2.2.1),(.slice r19.2.2.2.2.2.2.1.ptr r19.2.2.2.2.2.2.1.len r19.2.2.2.2.2.2.1.cap),(.slice r19.2.2.2.2.2.2.2.ptr r19.2.2.2.2.2.2.2.len r19.2.2.2.2.2.2.2.cap)])) h16 fun _ h17=>
 (aw.ok [] h17)∧
 K2 (a22,(⟨r23.ptr,r23.len,r23.cap⟩:Sl)) h17))∧(aM Tryz.prog (Instr.alloc 50 true (.tuple #[])) h10 fun a24 h18=>
 (aw.ok [(a4,(.string x18.1)),(a4.add 1,(.int .i64 x18.2.1)),(a4.add 2,(.int .i64 x18.2.2.1)),(a4.add 3,(.slice x18.2.2.2.ptr x18.2.2.2.len x18.2.2.2.cap)),(a16,(.int .i64 x17.1)),(a16.add 1,(.int .i64 x17.2.1)),(a16.add 2,(.int .i64 x17.2.2.1)),(a16.add 3,(.int .i64 x17.2.2.2.1)),(a16.add 4,(.int .i64 x17.2.2.2.2.1)),(a16.add 5,(.int .i64 x17.2.2.2.2.2.1)),(a16.add 6,(.slice x17.2.2.2.2.2.2.1.ptr x17.2.2.2.2.2.2.1.len x17.2.2.2.2.2.2.1.cap)),(a16.add 7,(.slice x17.2.2.2.2.2.2.2.ptr x17.2.2.2.2.2.2.2.len x17.2.2.2.2.2.2.2.cap))] h18)∧
 af Tryz.prog 51 #[(.agg #[(.int .i64 x17.1),(.int .i64 x17.2.1),(.int .i64 x17.2.2.1),(.int .i64 x17.2.2.2.1),(.int .i64 x17.2.2.2.2.1),(.int .i64 x17.2.2.2.2.2.1),(.slice x17.2.2.2.2.2.2.1.ptr x17.2.2.2.2.2.2.1.len x17.2.2.2.2.2.2.1.cap),(.slice x17.2.2.2.2.2.2.2.ptr x17.2.2.2.2.2.2.2.len x17.2.2.2.2.2.2.2.cap)]),(.agg #[(.string x18.1),(.int .i64 x18.2.1),(.int .i64 x18.2.2.1),(.slice x18.2.2.2.ptr x18.2.2.2.len x18.2.2.2.cap)])] (.one (.agg [(.int .i64),(.int .i64),(.int .i64),(.int .i64),(.int .i64),(.int .i64),.slc,.slc])) h18 fun r25 h19=>
 (aw.ok [] h19)∧
 af Tryz.prog 22 #[(.pointer s_0)] (.one (.sc .slc)) h19 fun r26 h20=>
 (aw.ok [] h20)∧
 ae Tryz.prog (Instr.storeAt 50 (.pointer (some a24)) (.agg #[(.int .i64 r25.1),(.int .i64 r25.2.1),(.int .i64 r25.2.2.1),(.int .i64 r25.2.2.2.1),(.int .i64 r25.2.2.2.2.1),(.int .i64 r25.2.2.2.2.2.1),(.slice r25.2.2.2.2.2.2.1.ptr r25.2.2.2.2.2.2.1.len r25.2.2.2.2.2.2.1.cap),(.slice r25.2.2.2.2.2.2.2.ptr r25.2.2.2.2.2.2.2.len r25.2.2.2.2.2.2.2.cap)])) h20 fun _ h21=>
 (aw.ok [] h21)∧
 K2 (a24,(⟨r26.ptr,r26.len,r26.cap⟩:Sl)) h21)))))
 (fun K1=>
 ∃a5:Addr,(s_0=some a5)∧
 ∃x6:Int×Int×Int,ai h3 (a5.add 2) 0 [(.int .i64 x6.1),(.int .i64 x6.2.1),(.int .i64 x6.2.2)]∧
 ∃x7:Int,cellOf h3 (a4.add 1)=some (.int .i64 x7)∧
 ∃a8:Addr,(s_0=some a8)∧
 ∃x9:Int×Int×Int,ai h3 (a8.add 2) 0 [(.int .i64 x9.1),(.int .i64 x9.2.1),(.int .i64 x9.2.2)]∧
 af Tryz.prog 49 #[(.agg #[(.int .i64 x9.1),(.int .i64 x9.2.1),(.int .i64 x9.2.2)]),(.int .i64 ((b_2.len:Nat):Int))] (.one (.sc (.int .i64))) h3 fun r10 h4=>
 (aw.ok [(a4.add 1,(.int .i64 x7)),(a5.add 2,(.int .i64 x6.1)),((a5.add 2).add 1,(.int .i64 x6.2.1)),((a5.add 2).add 2,(.int .i64 x6.2.2))] h4)∧
 af Tryz.prog 48 #[(.agg #[(.int .i64 x6.1),(.int .i64 x6.2.1),(.int .i64 x6.2.2)]),(.int .i64 x7),(.int .i64 r10)] (.many [(.sc .slc),(.sc .bool)]) h4 fun r11 h5=>
 (aw.ok [] h5)∧
 K1 ((⟨r11.1.ptr,r11.1.len,r11.1.cap⟩:Sl),r11.2) h5))
theorem sm (s_0:Option Addr) (name_1:ByteArray) (b_2:Sl) {R:Value→Heap→Prop} {h:Heap} (hm:mA s_0 name_1 b_2 R h):ab Tryz.prog 16 #[(.pointer s_0),(.string name_1),(.slice b_2.ptr b_2.len b_2.cap)] h R:=al ag Tryz.func16 (.two .n (.two .n (.two .n (.two (.join [(9,(.sc .slc)),(10,(.sc .bool))] [(9,11),(34,53)] .n) (.two .n (.two .n (.two .n (.two .n (.two (.join [(12,(.sc .adr)),(13,(.sc .slc))] [(12,14),(66,74)] .n) .n))))))))) hm
abbrev n9:FuncId:=17
noncomputable def jO (s_0:Option Addr) (R:Value→Heap→Prop) (h:Heap):Prop:=
 aM Tryz.prog (Instr.alloc 50 true (.tuple #[])) h fun a1 h1=>
 Br (Option.isNone s_0)
 (ae Tryz.prog (Instr.storeAt 50 (.pointer (some a1)) (.agg #[(.int .i64 (0:Int)),(.int .i64 (0:Int)),(.int .i64 (0:Int)),(.int .i64 (0:Int)),(.int .i64 (0:Int)),(.int .i64 (0:Int)),(.slice none 0 0),(.slice none 0 0)])) h1 fun _ h2=>
 ∃res2:Int×Int×Int×Int×Int×Int×Sl×Sl,ai h2 a1 0 [(.int .i64 res2.1),(.int .i64 res2.2.1),(.int .i64 res2.2.2.1),(.int .i64 res2.2.2.2.1),(.int .i64 res2.2.2.2.2.1),(.int .i64 res2.2.2.2.2.2.1),(.slice res2.2.2.2.2.2.2.1.ptr res2.2.2.2.2.2.2.1.len res2.2.2.2.2.2.2.1.cap),(.slice res2.2.2.2.2.2.2.2.ptr res2.2.2.2.2.2.2.2.len res2.2.2.2.2.2.2.2.cap)]∧
 R (.agg #[(.int .i64 res2.1),(.int .i64 res2.2.1),(.int .i64 res2.2.2.1),(.int .i64 res2.2.2.2.1),(.int .i64 res2.2.2.2.2.1),(.int .i64 res2.2.2.2.2.2.1),(.slice res2.2.2.2.2.2.2.1.ptr res2.2.2.2.2.2.2.1.len res2.2.2.2.2.2.2.1.cap),(.slice res2.2.2.2.2.2.2.2.ptr res2.2.2.2.2.2.2.2.len res2.2.2.2.2.2.2.2.cap)]) h2)
 (∃a3:Addr,(s_0=some a3)∧
 ∃x4:Int×Int×Int×Int×Int×Int×Sl×Sl,ai h1 a3 0 [(.int .i64 x4.1),(.int .i64 x4.2.1),(.int .i64 x4.2.2.1),(.int .i64 x4.2.2.2.1),(.int .i64 x4.2.2.2.2.1),(.int .i64 x4.2.2.2.2.2.1),(.slice x4.2.2.2.2.2.2.1.ptr x4.2.2.2.2.2.2.1.len x4.2.2.2.2.2.2.1.cap),(.slice x4.2.2.2.2.2.2.2.ptr x4.2.2.2.2.2.2.2.len x4.2.2.2.2.2.2.2.cap)]∧
 af Tryz.prog 56 #[(.agg #[(.int .i64 x4.1),(.int .i64 x4.2.1),(.int .i64 x4.2.2.1),(.int .i64 x4.2.2.2.1),(.int .i64 x4.2.2.2.2.1),(.int .i64 x4.2.2.2.2.2.1),(.slice x4.2.2.2.2.2.2.1.ptr x4.2.2.2.2.2.2.1.len x4.2.2.2.2.2.2.1.cap),(.slice x4.2.2.2.2.2.2.2.ptr x4.2.2.2.2.2.2.2.len x4.2.2.2.2.2.2.2.cap)])] (.one (.agg [(.int .i64),(.int .i64),(.int .i64),(.int .i64),(.int .i64),(.int .i64),.slc,.slc])) h1 fun r5 h3=>
 ae Tryz.prog (Instr.storeAt 50 (.pointer (some a1)) (.agg #[(.int .i64 r5.1),(.int .i64 r5.2.1),(.int .i64 r5.2.2.1),(.int .i64 r5.2.2.2.1),(.int .i64 r5.2.2.2.2.1),(.int .i64 r5.2.2.2.2.2.1),(.slice r5.2.2.2.2.2.2.1.ptr r5.2.2.2.2.2.2.1.len r5.2.2.2.2.2.2.1.cap),(.slice r5.2.2.2.2.2.2.2.ptr r5.2.2.2.2.2.2.2.len r5.2.2.2.2.2.2.2.cap)])) h3 fun _ h4=>
 ∃res6:Int×Int×Int×Int×Int×Int×Sl×Sl,ai h4 a1 0 [(.int .i64 res6.1),(.int .i64 res6.2.1),(.int .i64 res6.2.2.1),(.int .i64 res6.2.2.2.1),(.int .i64 res6.2.2.2.2.1),(.int .i64 res6.2.2.2.2.2.1),(.slice res6.2.2.2.2.2.2.1.ptr res6.2.2.2.2.2.2.1.len res6.2.2.2.2.2.2.1.cap),(.slice res6.2.2.2.2.2.2.2.ptr res6.2.2.2.2.2.2.2.len res6.2.2.2.2.2.2.2.cap)]∧
 R (.agg #[(.int .i64 res6.1),(.int .i64 res6.2.1),(.int .i64 res6.2.2.1),(.int .i64 res6.2.2.2.1),(.int .i64 res6.2.2.2.2.1),(.int .i64 res6.2.2.2.2.2.1),(.slice res6.2.2.2.2.2.2.1.ptr res6.2.2.2.2.2.2.1.len res6.2.2.2.2.2.2.1.cap),(.slice res6.2.2.2.2.2.2.2.ptr res6.2.2.2.2.2.2.2.len res6.2.2.2.2.2.2.2.cap)]) h4)
theorem nC (s_0:Option Addr) {R:Value→Heap→Prop} {h:Heap} (hm:jO s_0 R h):ab Tryz.prog 17 #[(.pointer s_0)] h R:=al ag Tryz.func17 .n hm
abbrev Eo:FuncId:=18
noncomputable def xN (m_0:Int×Int×Int×Int×Int×Int×Sl×Sl) (R:Value→Heap→Prop) (h:Heap):Prop:=
 aM Tryz.prog (Instr.box 50 (.agg #[(.int .i64 m_0.1),(.int .i64 m_0.2.1),(.int .i64 m_0.2.2.1),(.int .i64 m_0.2.2.2.1),(.int .i64 m_0.2.2.2.2.1),(.int .i64 m_0.2.2.2.2.2.1),(.slice m_0.2.2.2.2.2.2.1.ptr m_0.2.2.2.2.2.2.1.len m_0.2.2.2.2.2.2.1.cap),(.slice m_0.2.2.2.2.2.2.2.ptr m_0.2.2.2.2.2.2.2.len m_0.2.2.2.2.2.2.2.cap)])) h fun a1 h1=>
 aW (σ:=Unit) (fun _ h6=>
 aW (σ:=Unit) (fun _ h8=>
 ∃x15:Sl,cellOf h8 (a1.add 7)=some (.slice x15.ptr x15.len x15.cap)∧
 aK (σ:=Int) (fun s16 K3 h9=>
 Br (decide (s16<((x15.len:Nat):Int)))
 (∃a17:Addr,(x15.ptr=some a17∧0≤s16∧s16<((x15.len:Nat):Int))∧
 ∃x18:ByteArray×Int×Int×Sl,ai h9 (a17.add (s16.toNat*4)) 0 [(.string x18.1),(.int .i64 x18.2.1),(.int .i64 x18.2.2.1),(.slice x18.2.2.2.ptr x18.2.2.2.len x18.2.2.2.cap)]∧
 aM Tryz.prog (Instr.alloc 54 true (.tuple #[])) h9 fun a19 h10=>
 ae Tryz.prog (Instr.storeAt 54 (.pointer (some a19)) (.agg #[(.string x18.1),(.int .i64 x18.2.1),(.int .i64 x18.2.2.1),(.slice x18.2.2.2.ptr x18.2.2.2.len x18.2.2.2.cap)])) h10 fun _ h11=>
 aW (σ:=Unit) (fun _ h13=>
 ∃x28:Sl,cellOf h13 (a1.add 7)=some (.slice x28.ptr x28.len x28.cap)∧
 (0≤s16∧s16≤((x28.cap:Nat):Int))∧
 af Tryz.prog 60 #[(.slice x28.ptr s16.toNat x28.cap),(.func (.func 61) #[] #[(.pointer (some a19))])] (.one (.sc .bool)) h13 fun r29 h14=>
 Br r29
 (R (.bool false) h14)
 (K3 (IntKind.wrap .i64 (s16+(1:Int))) h14))
 (fun K4=>
 ∃x20:Int×Int×Int×Int×Int×Int×Sl×Sl,ai h11 a1 0 [(.int .i64 x20.1),(.int .i64 x20.2.1),(.int .i64 x20.2.2.1),(.int .i64 x20.2.2.2.1),(.int .i64 x20.2.2.2.2.1),(.int .i64 x20.2.2.2.2.2.1),(.slice x20.2.2.2.2.2.2.1.ptr x20.2.2.2.2.2.2.1.len x20.2.2.2.2.2.2.1.cap),(.slice x20.2.2.2.2.2.2.2.ptr x20.2.2.2.2.2.2.2.len x20.2.2.2.2.2.2.2.cap)]∧
 ∃x21:ByteArray×Int×Int×Sl,ai h11 a19 0 [(.string x21.1),(.int .i64 x21.2.1),(.int .i64 x21.2.2.1),(.slice x21.2.2.2.ptr x21.2.2.2.len x21.2.2.2.cap)]∧
 af Tryz.prog 59 #[(.agg #[(.int .i64 x20.1),(.int .i64 x20.2.1),(.int .i64 x20.2.2.1),(.int .i64 x20.2.2.2.1),(.int .i64 x20.2.2.2.2.1),(.int .i64 x20.2.2.2.2.2.1),(.slice x20.2.2.2.2.2.2.1.ptr x20.2.2.2.2.2.2.1.len x20.2.2.2.2.2.2.1.cap),(.slice x20.2.2.2.2.2.2.2.ptr x20.2.2.2.2.2.2.2.len x20.2.2.2.2.2.2.2.cap)]),(.agg #[(.string x21.1),(.int .i64 x21.2.1),(.int .i64 x21.2.2.1),(.slice x21.2.2.2.ptr x21.2.2.2.len x21.2.2.2.cap)])] (.one (.sc .bool)) h11 fun r22 h12=>
 (aw.ok [] h12)∧
 Br (!r22) (R (.bool false) h12) (Br (decide (s16>(0:Int))) (∃x23:Sl,cellOf h12 (a1.add 7)=some (.slice x23.ptr x23.len x23.cap)∧
 ∃a24:Addr,(x23.ptr=some a24∧0≤(IntKind.wrap .i64 (s16-(1:Int)))∧(IntKind.wrap .i64 (s16-(1:Int)))<((x23.len:Nat):Int))∧
 ∃x25:ByteArray,cellOf h12 (a24.add ((IntKind.wrap .i64 (s16-(1:Int))).toNat*4))=some (.string x25)∧
 ∃x26:ByteArray,cellOf h12 a19=some (.string x26)∧
 Br (!(Op.bytesLess x25.toList x26.toList))
 (R (.bool false) h12)
 (K4 () h12)) (K4 () h12))))
 (R (.bool true) h9)) (0:Int) h8)
 (fun K2=>
 ∃x11:Sl,cellOf h6 (a1.add 6)=some (.slice x11.ptr x11.len x11.cap)∧
 af Tryz.prog 58 #[(.slice x11.ptr x11.len x11.cap),(.int .i64 (63:Int))] (.one (.sc .bool)) h6 fun r12 h7=>
 Br (!r12) (R (.bool false) h7) (∃x13:Sl,cellOf h7 (a1.add 7)=some (.slice x13.ptr x13.len x13.cap)∧
 Br (decide (((x13.len:Nat):Int)>(12:Int)))
 (R (.bool false) h7)
 (K2 () h7))))
 (fun K1=>
 ∃x2:Int,cellOf h1 a1=some (.int .i64 x2)∧
 af Tryz.prog 57 #[(.int .i64 x2),(.int .i64 (1:Int)),(.int .i64 (2147483647:Int))] (.one (.sc .bool)) h1 fun r3 h2=>
 Br (!r3) (R (.bool false) h2) (∃x4:Int,cellOf h2 (a1.add 1)=some (.int .i64 x4)∧
 af Tryz.prog 57 #[(.int .i64 x4),(.int .i64 (0:Int)),(.int .i64 (16777216:Int))] (.one (.sc .bool)) h2 fun r5 h3=>
 Br (!r5) (R (.bool false) h3) (∃x6:Int×Int×Int,ai h3 (a1.add 2) 0 [(.int .i64 x6.1),(.int .i64 x6.2.1),(.int .i64 x6.2.2)]∧
 af Tryz.prog 31 #[(.agg #[(.int .i64 x6.1),(.int .i64 x6.2.1),(.int .i64 x6.2.2)])] (.one (.sc .bool)) h3 fun r7 h4=>
 Br (!r7) (R (.bool false) h4) (∃x8:Int,cellOf h4 (a1.add 5)=some (.int .i64 x8)∧
 af Tryz.prog 57 #[(.int .i64 x8),(.int .i64 (0:Int)),(.int .i64 (16:Int))] (.one (.sc .bool)) h4 fun r9 h5=>
 Br (!r9)
 (R (.bool false) h5)
 (K1 () h5)))))
theorem CR (m_0:Int×Int×Int×Int×Int×Int×Sl×Sl) {R:Value→Heap→Prop} {h:Heap} (hm:xN m_0 R h):ab Tryz.prog 18 #[(.agg #[(.int .i64 m_0.1),(.int .i64 m_0.2.1),(.int .i64 m_0.2.2.1),(.int .i64 m_0.2.2.2.1),(.int .i64 m_0.2.2.2.2.1),(.int .i64 m_0.2.2.2.2.2.1),(.slice m_0.2.2.2.2.2.2.1.ptr m_0.2.2.2.2.2.2.1.len m_0.2.2.2.2.2.2.1.cap),(.slice m_0.2.2.2.2.2.2.2.ptr m_0.2.2.2.2.2.2.2.len m_0.2.2.2.2.2.2.2.cap)])] h R:=al ag Tryz.func18 (.two .n (.two (.join [] [(2,3),(5,27)] .n) (.two (.join [] [(2,3),(27,37)] .n) (.two (.two .n (.inn (.loop [(40,(.sc (.int .i64)))] [(2,5),(40,72)] (.two .n (.two .n (.two (.inn (.two .n (.two (.join [] [(2,3),(45,65)] .n) .n))) .n)))))) .n)))) hm
abbrev xO:FuncId:=19
noncomputable def pK (p_0:Int×Int×Int) (seed_1:Int) (R:Value→Heap→Prop) (h:Heap):Prop:=
 aM Tryz.prog (Instr.box 23 (.agg #[(.int .i64 p_0.1),(.int .i64 p_0.2.1),(.int .i64 p_0.2.2)])) h fun a1 h1=>
 ∃x2:Int×Int×Int,ai h1 a1 0 [(.int .i64 x2.1),(.int .i64 x2.2.1),(.int .i64 x2.2.2)]∧
 ∃x3:Int×Int×Int,ai h1 a1 0 [(.int .i64 x3.1),(.int .i64 x3.2.1),(.int .i64 x3.2.2)]∧
 af Tryz.prog 63 #[(.agg #[(.int .i64 x3.1),(.int .i64 x3.2.1),(.int .i64 x3.2.2)])] (.one (.sc .slc)) h1 fun r4 h2=>
 (aw.ok [(a1,(.int .i64 x2.1)),(a1.add 1,(.int .i64 x2.2.1)),(a1.add 2,(.int .i64 x2.2.2))] h2)∧
 af Tryz.prog 62 #[(.agg #[(.int .i64 x2.1),(.int .i64 x2.2.1),(.int .i64 x2.2.2)]),(.int .u32 seed_1),(.slice r4.ptr r4.len r4.cap)] (.one (.sc .bool)) h2 fun r5 h3=>
 (aw.ok [] h3)∧
 R (.bool r5) h3
theorem wJ (p_0:Int×Int×Int) (seed_1:Int) {R:Value→Heap→Prop} {h:Heap} (hm:pK p_0 seed_1 R h):ab Tryz.prog 19 #[(.agg #[(.int .i64 p_0.1),(.int .i64 p_0.2.1),(.int .i64 p_0.2.2)]),(.int .u32 seed_1)] h R:=al ag Tryz.func19 .n hm
abbrev CS:FuncId:=20
noncomputable def vG (o_0:Int) (b_1:Int) (try_2:Int) (R:Value→Heap→Prop) (h:Heap):Prop:=
 R (.int .u32 (IntKind.wrap .u32 ((IntKind.wrap .u32 ((IntKind.wrap .u32 ((128:Int)*(IntKind.wrap .u32 o_0)))+(IntKind.wrap .u32 ((16:Int)*(IntKind.wrap .u32 b_1)))))+(IntKind.wrap .u32 try_2)))) h
theorem Bi (o_0:Int) (b_1:Int) (try_2:Int) {R:Value→Heap→Prop} {h:Heap} (hm:vG o_0 b_1 try_2 R h):ab Tryz.prog 20 #[(.int .i64 o_0),(.int .i64 b_1),(.int .i64 try_2)] h R:=al ag Tryz.func20 .n hm
abbrev qY:FuncId:=21
noncomputable def kR (s_0:Option Addr) (object_1:Int) (block_2:Int) (R:Value→Heap→Prop) (h:Heap):Prop:=
 af Tryz.prog 22 #[(.pointer s_0)] (.one (.sc .slc)) h fun r1 h1=>
 aK (σ:=Sl×Int) (fun s2 K1 h2=>
 Br (decide (s2.2<((r1.len:Nat):Int)))
 (∃a3:Addr,(r1.ptr=some a3∧0≤s2.2∧s2.2<((r1.len:Nat):Int))∧
 ∃x4:Int,cellOf h2 (a3.add (s2.2.toNat*1))=some (.int .i64 x4)∧
 av Tryz.prog (Instr.buildSlice 24 1 #[(0,(.int .i64 x4))]) (.one (.sc .slc)) h2 fun v5 h3=>
 ∃a6:Addr,(s_0=some a6)∧
 ∃x7:Int×Int×Int×Int×Int×Int×Sl×Sl,ai h3 a6 0 [(.int .i64 x7.1),(.int .i64 x7.2.1),(.int .i64 x7.2.2.1),(.int .i64 x7.2.2.2.1),(.int .i64 x7.2.2.2.2.1),(.int .i64 x7.2.2.2.2.2.1),(.slice x7.2.2.2.2.2.2.1.ptr x7.2.2.2.2.2.2.1.len x7.2.2.2.2.2.2.1.cap),(.slice x7.2.2.2.2.2.2.2.ptr x7.2.2.2.2.2.2.2.len x7.2.2.2.2.2.2.2.cap)]∧
 af Tryz.prog 64 #[(.func (.func 24) #[(.pointer s_0)] #[]),(.slice v5.ptr v5.len v5.cap),(.agg #[(.int .i64 x7.1),(.int .i64 x7.2.1),(.int .i64 x7.2.2.1),(.int .i64 x7.2.2.2.1),(.int .i64 x7.2.2.2.2.1),(.int .i64 x7.2.2.2.2.2.1),(.slice x7.2.2.2.2.2.2.1.ptr x7.2.2.2.2.2.2.1.len x7.2.2.2.2.2.2.1.cap),(.slice x7.2.2.2.2.2.2.2.ptr x7.2.2.2.2.2.2.2.len x7.2.2.2.2.2.2.2.cap)]),(.int .i64 object_1),(.int .i64 block_2)] (.one (.sc .slc)) h3 fun r8 h4=>
 aK (σ:=Sl×Int) (fun s9 K2 h5=>
 Br (decide (s9.2<((r8.len:Nat):Int)))
 (∃a10:Addr,(r8.ptr=some a10∧0≤s9.2∧s9.2<((r8.len:Nat):Int))∧
 ∃x11:Int×Sl,ai h5 (a10.add (s9.2.toNat*2)) 0 [(.int .i64 x11.1),(.slice x11.2.ptr x11.2.len x11.2.cap)]∧
 aM Tryz.prog (Instr.alloc 116 true (.tuple #[])) h5 fun a12 h6=>
 ae Tryz.prog (Instr.storeAt 116 (.pointer (some a12)) (.agg #[(.int .i64 x11.1),(.slice x11.2.ptr x11.2.len x11.2.cap)])) h6 fun _ h7=>
 ∃x13:Int,cellOf h7 a12=some (.int .i64 x13)∧
 av Tryz.prog (Instr.buildSlice 24 1 #[(0,(.int .i64 x13))]) (.one (.sc .slc)) h7 fun v14 h8=>
 av Tryz.prog (Builtin.append_ #[24,24] 24 #[(.slice s9.1.ptr s9.1.len s9.1.cap),(.slice v14.ptr v14.len v14.cap)]) (.one (.sc .slc)) h8 fun v15 h9=>
 K2 ((⟨v15.ptr,v15.len,v15.cap⟩:Sl),IntKind.wrap .i64 (s9.2+(1:Int))) h9)
 (av Tryz.prog (Instr.buildSlice 58 1 #[(0,(.slice s9.1.ptr s9.1.len s9.1.cap))]) (.one (.sc .slc)) h5 fun v16 h10=>
 av Tryz.prog (Builtin.append_ #[58,58] 58 #[(.slice s2.1.ptr s2.1.len s2.1.cap),(.slice v16.ptr v16.len v16.cap)]) (.one (.sc .slc)) h10 fun v17 h11=>
 K1 ((⟨v17.ptr,v17.len,v17.cap⟩:Sl),IntKind.wrap .i64 (s2.2+(1:Int))) h11)) ((⟨none,0,0⟩:Sl),(0:Int)) h4)
 (R (.slice s2.1.ptr s2.1.len s2.1.cap) h2)) ((⟨none,0,0⟩:Sl),(0:Int)) h1
theorem pL (s_0:Option Addr) (object_1:Int) (block_2:Int) {R:Value→Heap→Prop} {h:Heap} (hm:kR s_0 object_1 block_2 R h):ab Tryz.prog 21 #[(.pointer s_0),(.int .i64 object_1),(.int .i64 block_2)] h R:=al ag Tryz.func21 (.two .n (.two .n (.two (.two .n (.inn (.loop [(7,(.sc .slc)),(16,(.sc (.int .i64)))] [(7,8),(9,11),(12,13),(16,47)] (.two .n (.two .n (.two (.inn (.two .n (.two .n (.two (.two .n (.inn (.loop [(10,(.sc .slc)),(32,(.sc (.int .i64)))] [(10,11),(12,13),(32,42)] .n))) .n)))) .n)))))) .n))) hm
abbrev sn:FuncId:=22
noncomputable def lV (s_0:Option Addr) (R:Value→Heap→Prop) (h:Heap):Prop:=
 Br (Option.isNone s_0)
 (R (.slice none 0 0) h)
 (∃a1:Addr,(s_0=some a1)∧
 ∃x2:Sl,cellOf h (a1.add 6)=some (.slice x2.ptr x2.len x2.cap)∧
 af Tryz.prog 65 #[(.func (.func 24) #[(.pointer s_0)] #[]),(.slice x2.ptr x2.len x2.cap)] (.one (.sc .slc)) h fun r3 h1=>
 R (.slice r3.ptr r3.len r3.cap) h1)
theorem qZ (s_0:Option Addr) {R:Value→Heap→Prop} {h:Heap} (hm:lV s_0 R h):ab Tryz.prog 22 #[(.pointer s_0)] h R:=al ag Tryz.func22 .n hm
abbrev rI:FuncId:=23
noncomputable def tI (d_0:Option Addr) (m_1:Int×Int×Int×Int×Int×Int×Sl×Sl) (R:Value→Heap→Prop) (h:Heap):Prop:=
 aM Tryz.prog (Instr.box 50 (.agg #[(.int .i64 m_1.1),(.int .i64 m_1.2.1),(.int .i64 m_1.2.2.1),(.int .i64 m_1.2.2.2.1),(.int .i64 m_1.2.2.2.2.1),(.int .i64 m_1.2.2.2.2.2.1),(.slice m_1.2.2.2.2.2.2.1.ptr m_1.2.2.2.2.2.2.1.len m_1.2.2.2.2.2.2.1.cap),(.slice m_1.2.2.2.2.2.2.2.ptr m_1.2.2.2.2.2.2.2.len m_1.2.2.2.2.2.2.2.cap)])) h fun a1 h1=>
 ∃x2:Int×Int×Int×Int×Int×Int×Sl×Sl,ai h1 a1 0 [(.int .i64 x2.1),(.int .i64 x2.2.1),(.int .i64 x2.2.2.1),(.int .i64 x2.2.2.2.1),(.int .i64 x2.2.2.2.2.1),(.int .i64 x2.2.2.2.2.2.1),(.slice x2.2.2.2.2.2.2.1.ptr x2.2.2.2.2.2.2.1.len x2.2.2.2.2.2.2.1.cap),(.slice x2.2.2.2.2.2.2.2.ptr x2.2.2.2.2.2.2.2.len x2.2.2.2.2.2.2.2.cap)]∧
 af Tryz.prog 18 #[(.agg #[(.int .i64 x2.1),(.int .i64 x2.2.1),(.int .i64 x2.2.2.1),(.int .i64 x2.2.2.2.1),(.int .i64 x2.2.2.2.2.1),(.int .i64 x2.2.2.2.2.2.1),(.slice x2.2.2.2.2.2.2.1.ptr x2.2.2.2.2.2.2.1.len x2.2.2.2.2.2.2.1.cap),(.slice x2.2.2.2.2.2.2.2.ptr x2.2.2.2.2.2.2.2.len x2.2.2.2.2.2.2.2.cap)])] (.one (.sc .bool)) h1 fun r3 h2=>
 Br (!r3)
 (R (.bool false) h2)
 (af Tryz.prog 66 #[(.pointer d_0)] (.one (.sc .slc)) h2 fun r4 h3=>
 ∃x5:Int×Int×Int×Int×Int×Int×Sl×Sl,ai h3 a1 0 [(.int .i64 x5.1),(.int .i64 x5.2.1),(.int .i64 x5.2.2.1),(.int .i64 x5.2.2.2.1),(.int .i64 x5.2.2.2.2.1),(.int .i64 x5.2.2.2.2.2.1),(.slice x5.2.2.2.2.2.2.1.ptr x5.2.2.2.2.2.2.1.len x5.2.2.2.2.2.2.1.cap),(.slice x5.2.2.2.2.2.2.2.ptr x5.2.2.2.2.2.2.2.len x5.2.2.2.2.2.2.2.cap)]∧
 af Tryz.prog 33 #[(.agg #[(.int .i64 x5.1),(.int .i64 x5.2.1),(.int .i64 x5.2.2.1),(.int .i64 x5.2.2.2.1),(.int .i64 x5.2.2.2.2.1),(.int .i64 x5.2.2.2.2.2.1),(.slice x5.2.2.2.2.2.2.1.ptr x5.2.2.2.2.2.2.1.len x5.2.2.2.2.2.2.1.cap),(.slice x5.2.2.2.2.2.2.2.ptr x5.2.2.2.2.2.2.2.len x5.2.2.2.2.2.2.2.cap)])] (.one (.sc .slc)) h3 fun r6 h4=>
 aK (σ:=Int) (fun s7 K1 h5=>
 Br (decide (s7<((r6.len:Nat):Int)))
 (∃a8:Addr,(r6.ptr=some a8∧0≤s7∧s7<((r6.len:Nat):Int))∧
 ∃x9:Sl,cellOf h5 (a8.add (s7.toNat*1))=some (.slice x9.ptr x9.len x9.cap)∧
 aM Tryz.prog (Instr.alloc 45 true (.tuple #[])) h5 fun a10 h6=>
 ae Tryz.prog (Instr.storeAt 45 (.pointer (some a10)) (.slice x9.ptr x9.len x9.cap)) h6 fun _ h7=>
 af Tryz.prog 67 #[(.slice r4.ptr r4.len r4.cap),(.func (.func 68) #[] #[(.pointer (some a10))])] (.one (.sc .bool)) h7 fun r11 h8=>
 Br (!r11)
 (R (.bool false) h8)
 (K1 (IntKind.wrap .i64 (s7+(1:Int))) h8))
 (R (.bool true) h5)) (0:Int) h4)
theorem zA (d_0:Option Addr) (m_1:Int×Int×Int×Int×Int×Int×Sl×Sl) {R:Value→Heap→Prop} {h:Heap} (hm:tI d_0 m_1 R h):ab Tryz.prog 23 #[(.pointer d_0),(.agg #[(.int .i64 m_1.1),(.int .i64 m_1.2.1),(.int .i64 m_1.2.2.1),(.int .i64 m_1.2.2.2.1),(.int .i64 m_1.2.2.2.2.1),(.int .i64 m_1.2.2.2.2.2.1),(.slice m_1.2.2.2.2.2.2.1.ptr m_1.2.2.2.2.2.2.1.len m_1.2.2.2.2.2.2.1.cap),(.slice m_1.2.2.2.2.2.2.2.ptr m_1.2.2.2.2.2.2.2.len m_1.2.2.2.2.2.2.2.cap)])] h R:=al ag Tryz.func23 (.two .n (.two .n (.two .n (.two (.two .n (.inn (.loop [(16,(.sc (.int .i64)))] [(4,5),(7,8),(16,25)] .n))) .n)))) hm
abbrev bP:FuncId:=24
noncomputable def kS (s_0:Option Addr) (slot_1:Int) (R:Value→Heap→Prop) (h:Heap):Prop:=
 aW (σ:=Unit) (fun _ h1=>
 ∃a2:Addr,(s_0=some a2)∧
 (0≤slot_1∧slot_1<((64:Nat):Int))∧
 ∃x3:Option Addr,cellOf h1 ((a2.add 10).add (slot_1.toNat*1))=some (.pointer x3)∧
 R (.pointer x3) h1)
 (fun K1=>
 Br (Option.isNone s_0) (R (.pointer none) h) (Br (decide (slot_1<(0:Int))) (R (.pointer none) h) (Br (decide (slot_1≥(64:Int)))
 (R (.pointer none) h)
 (K1 () h))))
theorem pM (s_0:Option Addr) (slot_1:Int) {R:Value→Heap→Prop} {h:Heap} (hm:kS s_0 slot_1 R h):ab Tryz.prog 24 #[(.pointer s_0),(.int .i64 slot_1)] h R:=al ag Tryz.func24 (.two .n (.two (.join [] [(4,15)] .n) .n)) hm
abbrev jP:FuncId:=25
noncomputable def kd (d_0:Option Addr) (R:Value→Heap→Prop) (h:Heap):Prop:=
 Br (Option.isNone d_0)
 (R (.int .i64 (0:Int)) h)
 (∃a1:Addr,(d_0=some a1)∧
 ∃x2:Int,cellOf h (a1.add 3)=some (.int .i64 x2)∧
 R (.int .i64 x2) h)
theorem oa (d_0:Option Addr) {R:Value→Heap→Prop} {h:Heap} (hm:kd d_0 R h):ab Tryz.prog 25 #[(.pointer d_0)] h R:=al ag Tryz.func25 .n hm
abbrev so:FuncId:=26
noncomputable def lW (s_0:Option Addr) (R:Value→Heap→Prop) (h:Heap):Prop:=
 af Tryz.prog 70 #[(.pointer s_0)] (.one (.sc .bool)) h fun r1 h1=>
 Br r1
 (R (.slice none 0 0) h1)
 (∃a2:Addr,(s_0=some a2)∧
 ∃x3:Sl,cellOf h1 (a2.add 7)=some (.slice x3.ptr x3.len x3.cap)∧
 aK (σ:=Sl×Int) (fun s4 K1 h2=>
 Br (decide (s4.2<((x3.len:Nat):Int)))
 (∃a5:Addr,(x3.ptr=some a5∧0≤s4.2∧s4.2<((x3.len:Nat):Int))∧
 ∃x6:ByteArray×Int×Int×Sl,ai h2 (a5.add (s4.2.toNat*4)) 0 [(.string x6.1),(.int .i64 x6.2.1),(.int .i64 x6.2.2.1),(.slice x6.2.2.2.ptr x6.2.2.2.len x6.2.2.2.cap)]∧
 aM Tryz.prog (Instr.alloc 54 true (.tuple #[])) h2 fun a7 h3=>
 ae Tryz.prog (Instr.storeAt 54 (.pointer (some a7)) (.agg #[(.string x6.1),(.int .i64 x6.2.1),(.int .i64 x6.2.2.1),(.slice x6.2.2.2.ptr x6.2.2.2.len x6.2.2.2.cap)])) h3 fun _ h4=>
 ∃x8:ByteArray,cellOf h4 a7=some (.string x8)∧
 af Tryz.prog 71 #[(.string x8)] (.one (.sc .str)) h4 fun r9 h5=>
 av Tryz.prog (Instr.buildSlice 66 1 #[(0,(.string r9))]) (.one (.sc .slc)) h5 fun v10 h6=>
 av Tryz.prog (Builtin.append_ #[66,66] 66 #[(.slice s4.1.ptr s4.1.len s4.1.cap),(.slice v10.ptr v10.len v10.cap)]) (.one (.sc .slc)) h6 fun v11 h7=>
 K1 ((⟨v11.ptr,v11.len,v11.cap⟩:Sl),IntKind.wrap .i64 (s4.2+(1:Int))) h7)
 (R (.slice s4.1.ptr s4.1.len s4.1.cap) h2)) ((⟨none,0,0⟩:Sl),(0:Int)) h1)
theorem q0 (s_0:Option Addr) {R:Value→Heap→Prop} {h:Heap} (hm:lW s_0 R h):ab Tryz.prog 26 #[(.pointer s_0)] h R:=al ag Tryz.func26 (.two .n (.two .n (.two .n (.two (.two .n (.inn (.loop [(3,(.sc .slc)),(14,(.sc (.int .i64)))] [(3,4),(5,6),(14,25)] .n))) .n)))) hm
abbrev oc:FuncId:=27
noncomputable def jQ (a_0:Int) (b_1:Int) (c_2:Int) (R:Value→Heap→Prop) (h:Heap):Prop:=
 aM Tryz.prog (Instr.alloc 23 true (.tuple #[])) h fun a1 h1=>
 af Tryz.prog 7 #[(.int .i64 a_0),(.int .i64 (6:Int))] (.one (.sc (.int .i64))) h1 fun r2 h2=>
 af Tryz.prog 7 #[(.int .i64 b_1),(.int .i64 (3:Int))] (.one (.sc (.int .i64))) h2 fun r3 h3=>
 af Tryz.prog 7 #[(.int .i64 c_2),(.int .i64 (9:Int))] (.one (.sc (.int .i64))) h3 fun r4 h4=>
 ae Tryz.prog (Instr.storeAt 23 (.pointer (some a1)) (.agg #[(.int .i64 (IntKind.wrap .i64 ((1:Int)+r2))),(.int .i64 (IntKind.wrap .i64 ((1:Int)+r3))),(.int .i64 (IntKind.wrap .i64 ((1:Int)+r4)))])) h4 fun _ h5=>
 ∃res5:Int×Int×Int,ai h5 a1 0 [(.int .i64 res5.1),(.int .i64 res5.2.1),(.int .i64 res5.2.2)]∧
 R (.agg #[(.int .i64 res5.1),(.int .i64 res5.2.1),(.int .i64 res5.2.2)]) h5
theorem nD (a_0:Int) (b_1:Int) (c_2:Int) {R:Value→Heap→Prop} {h:Heap} (hm:jQ a_0 b_1 c_2 R h):ab Tryz.prog 27 #[(.int .i64 a_0),(.int .i64 b_1),(.int .i64 c_2)] h R:=al ag Tryz.func27 .n hm
abbrev pN:FuncId:=28
noncomputable def kz (l_0:Sl) (k_1:Int) (R:Value→Heap→Prop) (h:Heap):Prop:=
 Br (decide (k_1<((l_0.len:Nat):Int)))
 (∃a1:Addr,(l_0.ptr=some a1∧0≤k_1∧k_1<((l_0.len:Nat):Int))∧
 ∃x2:Int,cellOf h (a1.add (k_1.toNat*1))=some (.int .i64 x2)∧
 R (.int .i64 x2) h)
 (R (.int .i64 (0:Int)) h)
theorem o6 (l_0:Sl) (k_1:Int) {R:Value→Heap→Prop} {h:Heap} (hm:kz l_0 k_1 R h):ab Tryz.prog 28 #[(.slice l_0.ptr l_0.len l_0.cap),(.int .i64 k_1)] h R:=al ag Tryz.func28 .n hm
abbrev vm:FuncId:=29
noncomputable def nE (p_0:Option Addr) (R:Value→Heap→Prop) (h:Heap):Prop:=
 Br (!(Option.isNone p_0)) (∃a1:Addr,(p_0=some a1)∧
 ∃x2:Bool,cellOf h a1=some (.bool x2)∧
 R (.bool (!x2)) h) (R (.bool false) h)
theorem tJ (p_0:Option Addr) {R:Value→Heap→Prop} {h:Heap} (hm:nE p_0 R h):ab Tryz.prog 29 #[(.pointer p_0)] h R:=al ag Tryz.func29 .n hm
abbrev xP:FuncId:=30
noncomputable def pO (cells_0:Sl) (R:Value→Heap→Prop) (h:Heap):Prop:=
 aK (σ:=Sl×Int) (fun s1 K1 h1=>
 Br (decide (s1.2<((cells_0.len:Nat):Int)))
 (∃a2:Addr,(cells_0.ptr=some a2∧0≤s1.2∧s1.2<((cells_0.len:Nat):Int))∧
 ∃x3:Int,cellOf h1 (a2.add (s1.2.toNat*1))=some (.int .i64 x3)∧
 aW (σ:=Unit) (fun _ h2=>
 Br (decide (x3>(0:Int)))
 (av Tryz.prog (Instr.buildSlice 24 1 #[(0,(.int .i64 s1.2))]) (.one (.sc .slc)) h2 fun v5 h3=>
 av Tryz.prog (Builtin.append_ #[24,24] 24 #[(.slice s1.1.ptr s1.1.len s1.1.cap),(.slice v5.ptr v5.len v5.cap)]) (.one (.sc .slc)) h3 fun v6 h4=>
 K1 ((⟨v6.ptr,v6.len,v6.cap⟩:Sl),IntKind.wrap .i64 (s1.2+(1:Int))) h4)
 (K1 ((⟨s1.1.ptr,s1.1.len,s1.1.cap⟩:Sl),IntKind.wrap .i64 (s1.2+(1:Int))) h2))
 (fun K2=>
 Br (decide (x3<(0:Int))) (R (.tuple #[(.slice none 0 0),(.bool false)]) h1) (Br (decide (x3>(512:Int)))
 (R (.tuple #[(.slice none 0 0),(.bool false)]) h1)
 (K2 () h1))))
 (Br (decide (((cells_0.len:Nat):Int)≤(64:Int))) (R (.tuple #[(.slice s1.1.ptr s1.1.len s1.1.cap),(.bool (decide (((s1.1.len:Nat):Int)>(0:Int))))]) h1) (R (.tuple #[(.slice s1.1.ptr s1.1.len s1.1.cap),(.bool false)]) h1))) ((⟨none,0,0⟩:Sl),(0:Int)) h
theorem wK (cells_0:Sl) {R:Value→Heap→Prop} {h:Heap} (hm:pO cells_0 R h):ab Tryz.prog 30 #[(.slice cells_0.ptr cells_0.len cells_0.cap)] h R:=al ag Tryz.func30 (.two .n (.two .n (.two (.two .n (.inn (.loop [(4,(.sc .slc)),(9,(.sc (.int .i64)))] [(2,7),(9,27)] (.two .n (.two .n (.two (.inn (.two .n (.two (.join [] [(2,4),(14,20)] .n) .n))) .n)))))) .n))) hm
abbrev GC:FuncId:=31
noncomputable def AH (p_0:Int×Int×Int) (R:Value→Heap→Prop) (h:Heap):Prop:=
 aM Tryz.prog (Instr.box 23 (.agg #[(.int .i64 p_0.1),(.int .i64 p_0.2.1),(.int .i64 p_0.2.2)])) h fun a1 h1=>
 ∃x2:Int,cellOf h1 a1=some (.int .i64 x2)∧
 Br (decide (x2≥(1:Int))) (∃x3:Int,cellOf h1 a1=some (.int .i64 x3)∧
 Br (decide (x3≤(16:Int))) (∃x4:Int,cellOf h1 (a1.add 1)=some (.int .i64 x4)∧
 Br (decide (x4≥(1:Int))) (∃x5:Int,cellOf h1 (a1.add 1)=some (.int .i64 x5)∧
 Br (decide (x5≤(4:Int))) (∃x6:Int,cellOf h1 (a1.add 2)=some (.int .i64 x6)∧
 Br (decide (x6≥(1:Int))) (∃x7:Int,cellOf h1 (a1.add 2)=some (.int .i64 x7)∧
 R (.bool (decide (x7≤(24:Int)))) h1) (R (.bool false) h1)) (R (.bool false) h1)) (R (.bool false) h1)) (R (.bool false) h1)) (R (.bool false) h1)
theorem Ep (p_0:Int×Int×Int) {R:Value→Heap→Prop} {h:Heap} (hm:AH p_0 R h):ab Tryz.prog 31 #[(.agg #[(.int .i64 p_0.1),(.int .i64 p_0.2.1),(.int .i64 p_0.2.2)])] h R:=al ag Tryz.func31 .n hm
abbrev sq:FuncId:=32
noncomputable def lX (p_0:Option Addr) (R:Value→Heap→Prop) (h:Heap):Prop:=
 Br (Option.isNone p_0)
 (R (.int .i64 (0:Int)) h)
 (∃a1:Addr,(p_0=some a1)∧
 ∃x2:Int,cellOf h (a1.add 3)=some (.int .i64 x2)∧
 R (.int .i64 x2) h)
theorem q7 (p_0:Option Addr) {R:Value→Heap→Prop} {h:Heap} (hm:lX p_0 R h):ab Tryz.prog 32 #[(.pointer p_0)] h R:=al ag Tryz.func32 .n hm
abbrev Bj:FuncId:=33
noncomputable def tK (m_0:Int×Int×Int×Int×Int×Int×Sl×Sl) (R:Value→Heap→Prop) (h:Heap):Prop:=
 aM Tryz.prog (Instr.box 50 (.agg #[(.int .i64 m_0.1),(.int .i64 m_0.2.1),(.int .i64 m_0.2.2.1),(.int .i64 m_0.2.2.2.1),(.int .i64 m_0.2.2.2.2.1),(.int .i64 m_0.2.2.2.2.2.1),(.slice m_0.2.2.2.2.2.2.1.ptr m_0.2.2.2.2.2.2.1.len m_0.2.2.2.2.2.2.1.cap),(.slice m_0.2.2.2.2.2.2.2.ptr m_0.2.2.2.2.2.2.2.len m_0.2.2.2.2.2.2.2.cap)])) h fun a1 h1=>
 ∃x2:Int×Int×Int×Int×Int×Int×Sl×Sl,ai h1 a1 0 [(.int .i64 x2.1),(.int .i64 x2.2.1),(.int .i64 x2.2.2.1),(.int .i64 x2.2.2.2.1),(.int .i64 x2.2.2.2.2.1),(.int .i64 x2.2.2.2.2.2.1),(.slice x2.2.2.2.2.2.2.1.ptr x2.2.2.2.2.2.2.1.len x2.2.2.2.2.2.2.1.cap),(.slice x2.2.2.2.2.2.2.2.ptr x2.2.2.2.2.2.2.2.len x2.2.2.2.2.2.2.2.cap)]∧
 af Tryz.prog 72 #[(.agg #[(.int .i64 x2.1),(.int .i64 x2.2.1),(.int .i64 x2.2.2.1),(.int .i64 x2.2.2.2.1),(.int .i64 x2.2.2.2.2.1),(.int .i64 x2.2.2.2.2.2.1),(.slice x2.2.2.2.2.2.2.1.ptr x2.2.2.2.2.2.2.1.len x2.2.2.2.2.2.2.1.cap),(.slice x2.2.2.2.2.2.2.2.ptr x2.2.2.2.2.2.2.2.len x2.2.2.2.2.2.2.2.cap)])] (.one (.sc .slc)) h1 fun r3 h2=>
 ((48:Int)≠0)∧
 aK (σ:=Sl×Int) (fun s4 K1 h3=>
 Br (decide (s4.2<(IntKind.wrap .i64 (Int.tdiv (IntKind.wrap .i64 ((IntKind.wrap .i64 (((r3.len:Nat):Int)+(48:Int)))-(1:Int))) (48:Int)))))
 (∃x5:Int,cellOf h3 a1=some (.int .i64 x5)∧
 (0≤(IntKind.wrap .i64 (s4.2*(48:Int)))∧(IntKind.wrap .i64 (s4.2*(48:Int)))≤(if(IntKind.wrap .i64 ((IntKind.wrap .i64 (s4.2+(1:Int)))*(48:Int)))<((r3.len:Nat):Int)then IntKind.wrap .i64 ((IntKind.wrap .i64 (s4.2+(1:Int)))*(48:Int))else((r3.len:Nat):Int))∧(if(IntKind.wrap .i64 ((IntKind.wrap .i64 (s4.2+(1:Int)))*(48:Int)))<((r3.len:Nat):Int)then IntKind.wrap .i64 ((IntKind.wrap .i64 (s4.2+(1:Int)))*(48:Int))else((r3.len:Nat):Int))≤((r3.cap:Nat):Int))∧
 af Tryz.prog 73 #[(.int .i64 x5),(.int .i64 s4.2),(.int .i64 (IntKind.wrap .i64 (Int.tdiv (IntKind.wrap .i64 ((IntKind.wrap .i64 (((r3.len:Nat):Int)+(48:Int)))-(1:Int))) (48:Int)))),(.slice (if r3.cap=(IntKind.wrap .i64 (s4.2*(48:Int))).toNat then r3.ptr else r3.ptr.map (·.add ((IntKind.wrap .i64 (s4.2*(48:Int))).toNat*1))) ((if(IntKind.wrap .i64 ((IntKind.wrap .i64 (s4.2+(1:Int)))*(48:Int)))<((r3.len:Nat):Int)then IntKind.wrap .i64 ((IntKind.wrap .i64 (s4.2+(1:Int)))*(48:Int))else((r3.len:Nat):Int)).toNat-(IntKind.wrap .i64 (s4.2*(48:Int))).toNat) (r3.cap-(IntKind.wrap .i64 (s4.2*(48:Int))).toNat))] (.one (.sc .slc)) h3 fun r6 h4=>
 (aw.ok [] h4)∧
 av Tryz.prog (Instr.buildSlice 78 1 #[(0,(.slice r6.ptr r6.len r6.cap))]) (.one (.sc .slc)) h4 fun v7 h5=>
 (aw.ok [] h5)∧
 av Tryz.prog (Builtin.append_ #[78,78] 78 #[(.slice s4.1.ptr s4.1.len s4.1.cap),(.slice v7.ptr v7.len v7.cap)]) (.one (.sc .slc)) h5 fun v8 h6=>
 (aw.ok [] h6)∧
 K1 ((⟨v8.ptr,v8.len,v8.cap⟩:Sl),IntKind.wrap .i64 (s4.2+(1:Int))) h6)
 (R (.slice s4.1.ptr s4.1.len s4.1.cap) h3)) ((⟨none,0,0⟩:Sl),(0:Int)) h2
theorem zB (m_0:Int×Int×Int×Int×Int×Int×Sl×Sl) {R:Value→Heap→Prop} {h:Heap} (hm:tK m_0 R h):ab Tryz.prog 33 #[(.agg #[(.int .i64 m_0.1),(.int .i64 m_0.2.1),(.int .i64 m_0.2.2.1),(.int .i64 m_0.2.2.2.1),(.int .i64 m_0.2.2.2.2.1),(.int .i64 m_0.2.2.2.2.2.1),(.slice m_0.2.2.2.2.2.2.1.ptr m_0.2.2.2.2.2.2.1.len m_0.2.2.2.2.2.2.1.cap),(.slice m_0.2.2.2.2.2.2.2.ptr m_0.2.2.2.2.2.2.2.len m_0.2.2.2.2.2.2.2.cap)])] h R:=al ag Tryz.func33 (.two .n (.two .n (.two .n (.two .n (.two (.two .n (.inn (.loop [(5,(.sc .slc)),(16,(.sc (.int .i64)))] [(5,8),(16,39)] .n))) .n))))) hm
abbrev CT:FuncId:=34
noncomputable def vH (cells_0:Int) (p_1:Option Addr) (R:Value→Heap→Prop) (h:Heap):Prop:=
 aW (σ:=Unit) (fun _ h1=>
 aM Tryz.prog (Instr.box 123 (.agg #[(.pointer p_1),(.int .i64 cells_0),(.slice none 0 0),(.int .i64 (0:Int)),(.slice none 0 0),(.bool false),(.bool false)])) h1 fun a2 h2=>
 R (.pointer (some a2)) h2)
 (fun K1=>
 Br (decide (cells_0<(1:Int))) (R (.pointer none) h) (Br (decide (cells_0>(512:Int))) (R (.pointer none) h) (Br (Option.isNone p_1)
 (R (.pointer none) h)
 (K1 () h))))
theorem Bl (cells_0:Int) (p_1:Option Addr) {R:Value→Heap→Prop} {h:Heap} (hm:vH cells_0 p_1 R h):ab Tryz.prog 34 #[(.int .i64 cells_0),(.pointer p_1)] h R:=al ag Tryz.func34 (.two .n (.two (.join [] [(4,15)] .n) .n)) hm
abbrev GD:FuncId:=35
noncomputable def AI (at_0:FuncId×Array Value×Array Value) (l_1:Sl) (R:Value→Heap→Prop) (h:Heap):Prop:=
 aK (σ:=Sl×Int) (fun s1 K1 h1=>
 Br (decide (s1.2<((l_1.len:Nat):Int)))
 (∃a2:Addr,(l_1.ptr=some a2∧0≤s1.2∧s1.2<((l_1.len:Nat):Int))∧
 ∃x3:Int×Sl,ai h1 (a2.add (s1.2.toNat*2)) 0 [(.int .i64 x3.1),(.slice x3.2.ptr x3.2.len x3.2.cap)]∧
 aM Tryz.prog (Instr.alloc 101 true (.tuple #[])) h1 fun a4 h2=>
 ae Tryz.prog (Instr.storeAt 101 (.pointer (some a4)) (.agg #[(.int .i64 x3.1),(.slice x3.2.ptr x3.2.len x3.2.cap)])) h2 fun _ h3=>
 aW (σ:=Unit) (fun _ h7=>
 ∃x11:Int,cellOf h7 a4=some (.int .i64 x11)∧
 av Tryz.prog (Instr.buildSlice 24 1 #[(0,(.int .i64 x11))]) (.one (.sc .slc)) h7 fun v12 h8=>
 av Tryz.prog (Builtin.append_ #[24,24] 24 #[(.slice s1.1.ptr s1.1.len s1.1.cap),(.slice v12.ptr v12.len v12.cap)]) (.one (.sc .slc)) h8 fun v13 h9=>
 K1 ((⟨v13.ptr,v13.len,v13.cap⟩:Sl),IntKind.wrap .i64 (s1.2+(1:Int))) h9)
 (fun K2=>
 aW (σ:=Int) (fun s9 h6=>
 Br (s9 !=(0:Int))
 (R (.int .i64 s9) h6)
 (K2 () h6))
 (fun K3=>
 ∃x5:Int,cellOf h3 a4=some (.int .i64 x5)∧
 ∃x6:Sl,cellOf h3 (a4.add 1)=some (.slice x6.ptr x6.len x6.cap)∧
 gv C at_0.1 (at_0.2.1.toList++[(.int .i64 x5)]++at_0.2.2.toList) (.one (.sc .ptr)) h3 fun r7 h4=>
 (aw.ok [(a4.add 1,(.slice x6.ptr x6.len x6.cap))] h4)∧
 af Tryz.prog 74 #[(.pointer r7),(.slice x6.ptr x6.len x6.cap)] (.one (.sc (.int .i64))) h4 fun r8 h5=>
 (aw.ok [] h5)∧
 K3 r8 h5)))
 (af Tryz.prog 75 #[(.func (.func at_0.1) at_0.2.1 at_0.2.2),(.slice s1.1.ptr s1.1.len s1.1.cap)] (.one (.sc (.int .i64))) h1 fun r14 h10=>
 R (.int .i64 r14) h10)) ((⟨none,0,0⟩:Sl),(0:Int)) h
theorem Er (at_0:FuncId×Array Value×Array Value) (l_1:Sl) {R:Value→Heap→Prop} {h:Heap} (hm:AI at_0 l_1 R h):ab Tryz.prog 35 #[(.func (.func at_0.1) at_0.2.1 at_0.2.2),(.slice l_1.ptr l_1.len l_1.cap)] h R:=al ag Tryz.func35 (.two .n (.two .n (.two (.two .n (.inn (.loop [(5,(.sc .slc)),(11,(.sc (.int .i64)))] [(4,6),(7,9),(11,31)] (.two .n (.two .n (.two (.inn (.two .n (.two (.join [] [(4,5),(8,9),(15,25)] (.two (.join [(8,(.sc (.int .i64)))] [(8,9),(15,22)] .n) .n)) .n))) .n)))))) .n))) hm
abbrev CU:FuncId:=36
noncomputable def vI (m_0:Int×Int×Int×Int×Int×Int×Sl×Sl) (slots_1:Sl) (R:Value→Heap→Prop) (h:Heap):Prop:=
 aM Tryz.prog (Instr.box 50 (.agg #[(.int .i64 m_0.1),(.int .i64 m_0.2.1),(.int .i64 m_0.2.2.1),(.int .i64 m_0.2.2.2.1),(.int .i64 m_0.2.2.2.2.1),(.int .i64 m_0.2.2.2.2.2.1),(.slice m_0.2.2.2.2.2.2.1.ptr m_0.2.2.2.2.2.2.1.len m_0.2.2.2.2.2.2.1.cap),(.slice m_0.2.2.2.2.2.2.2.ptr m_0.2.2.2.2.2.2.2.len m_0.2.2.2.2.2.2.2.cap)])) h fun a1 h1=>
 ∃x2:Int×Int×Int×Int×Int×Int×Sl×Sl,ai h1 a1 0 [(.int .i64 x2.1),(.int .i64 x2.2.1),(.int .i64 x2.2.2.1),(.int .i64 x2.2.2.2.1),(.int .i64 x2.2.2.2.2.1),(.int .i64 x2.2.2.2.2.2.1),(.slice x2.2.2.2.2.2.2.1.ptr x2.2.2.2.2.2.2.1.len x2.2.2.2.2.2.2.1.cap),(.slice x2.2.2.2.2.2.2.2.ptr x2.2.2.2.2.2.2.2.len x2.2.2.2.2.2.2.2.cap)]∧
 af Tryz.prog 33 #[(.agg #[(.int .i64 x2.1),(.int .i64 x2.2.1),(.int .i64 x2.2.2.1),(.int .i64 x2.2.2.2.1),(.int .i64 x2.2.2.2.2.1),(.int .i64 x2.2.2.2.2.2.1),(.slice x2.2.2.2.2.2.2.1.ptr x2.2.2.2.2.2.2.1.len x2.2.2.2.2.2.2.1.cap),(.slice x2.2.2.2.2.2.2.2.ptr x2.2.2.2.2.2.2.2.len x2.2.2.2.2.2.2.2.cap)])] (.one (.sc .slc)) h1 fun r3 h2=>
 aK (σ:=Sl×Int) (fun s4 K1 h3=>
 Br (decide (s4.2<((slots_1.len:Nat):Int)))
 (∃a5:Addr,(slots_1.ptr=some a5∧0≤s4.2∧s4.2<((slots_1.len:Nat):Int))∧
 ∃x6:Int,cellOf h3 (a5.add (s4.2.toNat*1))=some (.int .i64 x6)∧
 aK (σ:=Sl×Int) (fun s7 K2 h4=>
 Br (decide (s7.2<((r3.len:Nat):Int)))
 (∃a8:Addr,(r3.ptr=some a8∧0≤s7.2∧s7.2<((r3.len:Nat):Int))∧
 ∃x9:Sl,cellOf h4 (a8.add (s7.2.toNat*1))=some (.slice x9.ptr x9.len x9.cap)∧
 av Tryz.prog (Instr.buildSlice 82 1 #[(0,(.agg #[(.int .i64 x6),(.slice x9.ptr x9.len x9.cap)]))]) (.one (.sc .slc)) h4 fun v10 h5=>
 av Tryz.prog (Builtin.append_ #[82,82] 82 #[(.slice s7.1.ptr s7.1.len s7.1.cap),(.slice v10.ptr v10.len v10.cap)]) (.one (.sc .slc)) h5 fun v11 h6=>
 K2 ((⟨v11.ptr,v11.len,v11.cap⟩:Sl),IntKind.wrap .i64 (s7.2+(1:Int))) h6)
 (K1 ((⟨s7.1.ptr,s7.1.len,s7.1.cap⟩:Sl),IntKind.wrap .i64 (s4.2+(1:Int))) h4)) ((⟨s4.1.ptr,s4.1.len,s4.1.cap⟩:Sl),(0:Int)) h3)
 (R (.slice s4.1.ptr s4.1.len s4.1.cap) h3)) ((⟨none,0,0⟩:Sl),(0:Int)) h2
theorem Bm (m_0:Int×Int×Int×Int×Int×Int×Sl×Sl) (slots_1:Sl) {R:Value→Heap→Prop} {h:Heap} (hm:vI m_0 slots_1 R h):ab Tryz.prog 36 #[(.agg #[(.int .i64 m_0.1),(.int .i64 m_0.2.1),(.int .i64 m_0.2.2.1),(.int .i64 m_0.2.2.2.1),(.int .i64 m_0.2.2.2.2.1),(.int .i64 m_0.2.2.2.2.2.1),(.slice m_0.2.2.2.2.2.2.1.ptr m_0.2.2.2.2.2.2.1.len m_0.2.2.2.2.2.2.1.cap),(.slice m_0.2.2.2.2.2.2.2.ptr m_0.2.2.2.2.2.2.2.len m_0.2.2.2.2.2.2.2.cap)]),(.slice slots_1.ptr slots_1.len slots_1.cap)] h R:=al ag Tryz.func36 (.two .n (.two .n (.two .n (.two (.two .n (.inn (.loop [(6,(.sc .slc)),(15,(.sc (.int .i64)))] [(6,7),(8,9),(10,11),(15,33)] (.two .n (.two .n (.two (.inn (.two .n (.two .n (.inn (.loop [(6,(.sc .slc)),(21,(.sc (.int .i64)))] [(6,7),(10,11),(21,32)] .n))))) .n)))))) .n)))) hm
end Go.Proofs.YtdoiokchdaoonaaGreat
