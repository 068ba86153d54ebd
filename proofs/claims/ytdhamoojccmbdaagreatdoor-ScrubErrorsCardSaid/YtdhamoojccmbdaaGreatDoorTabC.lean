/- Part of the proofs that the laws of this seat answer true whatever the input reads, and leave it as it was; no condition. -/
import Derived.Test.YtdhamoojccmbdaaGreatDoorTabA
set_option linter.unusedVariables false
set_option linter.unusedSimpArgs false
namespace Go.Proofs.YtdhamoojccmbdaaGreatDoor
open Go Go.Vc Go.Proofs
set_option maxRecDepth 1000000
abbrev uc:FuncId:=77
noncomputable def ox (o_0:Int) (b_1:Int) (try_2:Int) (R:Value→Heap→Prop) (h:Heap):Prop:=
 R (.int .u32 (IntKind.wrap .u32 ((IntKind.wrap .u32 ((IntKind.wrap .u32 ((128:Int)*(IntKind.wrap .u32 o_0)))+(IntKind.wrap .u32 ((16:Int)*(IntKind.wrap .u32 b_1)))))+(IntKind.wrap .u32 try_2)))) h
theorem sl (o_0:Int) (b_1:Int) (try_2:Int) {R:Value→Heap→Prop} {h:Heap} (hm:ox o_0 b_1 try_2 R h):ae Tryz.prog 77 #[(.int .i64 o_0),(.int .i64 b_1),(.int .i64 try_2)] h R:=aw ah Tryz.func77 .n hm
abbrev ke:FuncId:=79
noncomputable def gn (s_0:Sl) (R:Value→Heap→Prop) (h:Heap):Prop:=
 Br (Option.isNone s_0.ptr)
 (R (.slice none 0 0) h)
 (av Tryz.prog (Instr.buildSlice 22 0 #[]) (.one (.sc .slc)) h fun v1 h1=>
 av Tryz.prog (Builtin.append_ #[22,22] 22 #[(.slice v1.ptr v1.len v1.cap),(.slice s_0.ptr s_0.len s_0.cap)]) (.one (.sc .slc)) h1 fun v2 h2=>
 R (.slice v2.ptr v2.len v2.cap) h2)
theorem j4 (s_0:Sl) {R:Value→Heap→Prop} {h:Heap} (hm:gn s_0 R h):ae Tryz.prog 79 #[(.slice s_0.ptr s_0.len s_0.cap)] h R:=aw ah Tryz.func79 .n hm
abbrev kz:FuncId:=80
noncomputable def lk (d_0:Option Addr) (m_1:Int×Int×Int×Int×Int×Int×Sl×Sl) (R:Value→Heap→Prop) (h:Heap):Prop:=
 aW Tryz.prog (Instr.box 47 (.agg #[(.int .i64 m_1.1),(.int .i64 m_1.2.1),(.int .i64 m_1.2.2.1),(.int .i64 m_1.2.2.2.1),(.int .i64 m_1.2.2.2.2.1),(.int .i64 m_1.2.2.2.2.2.1),(.slice m_1.2.2.2.2.2.2.1.ptr m_1.2.2.2.2.2.2.1.len m_1.2.2.2.2.2.2.1.cap),(.slice m_1.2.2.2.2.2.2.2.ptr m_1.2.2.2.2.2.2.2.len m_1.2.2.2.2.2.2.2.cap)])) h fun a1 h1=>
 af Tryz.prog 57 #[(.pointer d_0)] (.one (.sc .slc)) h1 fun r2 h2=>
 aR (σ:=Sl×Int) (fun s3 K1 h3=>
 Br (decide ((IntKind.wrap .i64 (s3.2+(1:Int)))≥((r2.len:Nat):Int)))
 (af Tryz.prog 134 #[(.slice s3.1.ptr s3.1.len s3.1.cap),(.func (.func 135) #[] #[])] (.many []) h3 fun _ h4=>
 af Tryz.prog 136 #[(.slice s3.1.ptr s3.1.len s3.1.cap),(.func (.func 137) #[] #[])] (.one (.sc .slc)) h4 fun r5 h5=>
 R (.slice r5.ptr r5.len r5.cap) h5)
 (bn (σ:=Sl) (fun s16 h12=>
 K1 ((⟨s16.ptr,s16.len,s16.cap⟩:Sl),IntKind.wrap .i64 (s3.2+(1:Int))) h12)
 (fun K2=>
 ∃a6:Addr,(r2.ptr=some a6∧0≤(IntKind.wrap .i64 (s3.2+(1:Int)))∧(IntKind.wrap .i64 (s3.2+(1:Int)))<((r2.len:Nat):Int))∧
 ∃x7:Sl,cellOf h3 (a6.add ((IntKind.wrap .i64 (s3.2+(1:Int))).toNat*1))=some (.slice x7.ptr x7.len x7.cap)∧
 af Tryz.prog 132 #[(.slice x7.ptr x7.len x7.cap)] (.many [(.agg [(.int .i64),(.int .i64),(.int .i64),(.int .i64),(.int .i64),(.int .i64),(.int .u32),.slc]),(.sc .bool)]) h3 fun r8 h6=>
 aW Tryz.prog (Instr.alloc 134 true (.tuple #[])) h6 fun a9 h7=>
 ab Tryz.prog (Instr.storeAt 134 (.pointer (some a9)) (.agg #[(.int .i64 r8.1.1),(.int .i64 r8.1.2.1),(.int .i64 r8.1.2.2.1),(.int .i64 r8.1.2.2.2.1),(.int .i64 r8.1.2.2.2.2.1),(.int .i64 r8.1.2.2.2.2.2.1),(.int .u32 r8.1.2.2.2.2.2.2.1),(.slice r8.1.2.2.2.2.2.2.2.ptr r8.1.2.2.2.2.2.2.2.len r8.1.2.2.2.2.2.2.2.cap)])) h7 fun _ h8=>
 Br r8.2 (∃x10:Int×Int×Int×Int×Int×Int×Sl×Sl,aj h8 a1 0 [(.int .i64 x10.1),(.int .i64 x10.2.1),(.int .i64 x10.2.2.1),(.int .i64 x10.2.2.2.1),(.int .i64 x10.2.2.2.2.1),(.int .i64 x10.2.2.2.2.2.1),(.slice x10.2.2.2.2.2.2.1.ptr x10.2.2.2.2.2.2.1.len x10.2.2.2.2.2.2.1.cap),(.slice x10.2.2.2.2.2.2.2.ptr x10.2.2.2.2.2.2.2.len x10.2.2.2.2.2.2.2.cap)]∧
 ∃x11:Int×Int×Int×Int×Int×Int×Int×Sl,aj h8 a9 0 [(.int .i64 x11.1),(.int .i64 x11.2.1),(.int .i64 x11.2.2.1),(.int .i64 x11.2.2.2.1),(.int .i64 x11.2.2.2.2.1),(.int .i64 x11.2.2.2.2.2.1),(.int .u32 x11.2.2.2.2.2.2.1),(.slice x11.2.2.2.2.2.2.2.ptr x11.2.2.2.2.2.2.2.len x11.2.2.2.2.2.2.2.cap)]∧
 af Tryz.prog 133 #[(.agg #[(.int .i64 x10.1),(.int .i64 x10.2.1),(.int .i64 x10.2.2.1),(.int .i64 x10.2.2.2.1),(.int .i64 x10.2.2.2.2.1),(.int .i64 x10.2.2.2.2.2.1),(.slice x10.2.2.2.2.2.2.1.ptr x10.2.2.2.2.2.2.1.len x10.2.2.2.2.2.2.1.cap),(.slice x10.2.2.2.2.2.2.2.ptr x10.2.2.2.2.2.2.2.len x10.2.2.2.2.2.2.2.cap)]),(.agg #[(.int .i64 x11.1),(.int .i64 x11.2.1),(.int .i64 x11.2.2.1),(.int .i64 x11.2.2.2.1),(.int .i64 x11.2.2.2.2.1),(.int .i64 x11.2.2.2.2.2.1),(.int .u32 x11.2.2.2.2.2.2.1),(.slice x11.2.2.2.2.2.2.2.ptr x11.2.2.2.2.2.2.2.len x11.2.2.2.2.2.2.2.cap)])] (.one (.sc .bool)) h8 fun r12 h9=>
 Br r12
 (∃x13:Int×Int×Int×Int×Int×Int×Int×Sl,aj h9 a9 0 [(.int .i64 x13.1),(.int .i64 x13.2.1),(.int .i64 x13.2.2.1),(.int .i64 x13.2.2.2.1),(.int .i64 x13.2.2.2.2.1),(.int .i64 x13.2.2.2.2.2.1),(.int .u32 x13.2.2.2.2.2.2.1),(.slice x13.2.2.2.2.2.2.2.ptr x13.2.2.2.2.2.2.2.len x13.2.2.2.2.2.2.2.cap)]∧
 av Tryz.prog (Instr.buildSlice 131 1 #[(0,(.agg #[(.int .i64 x13.1),(.int .i64 x13.2.1),(.int .i64 x13.2.2.1),(.int .i64 x13.2.2.2.1),(.int .i64 x13.2.2.2.2.1),(.int .i64 x13.2.2.2.2.2.1),(.int .u32 x13.2.2.2.2.2.2.1),(.slice x13.2.2.2.2.2.2.2.ptr x13.2.2.2.2.2.2.2.len x13.2.2.2.2.2.2.2.cap)]))]) (.one (.sc .slc)) h9 fun v14 h10=>
 av Tryz.prog (Builtin.append_ #[131,131] 131 #[(.slice s3.1.ptr s3.1.len s3.1.cap),(.slice v14.ptr v14.len v14.cap)]) (.one (.sc .slc)) h10 fun v15 h11=>
 K2 (⟨v15.ptr,v15.len,v15.cap⟩:Sl) h11)
 (K2 (⟨s3.1.ptr,s3.1.len,s3.1.cap⟩:Sl) h9)) (K2 (⟨s3.1.ptr,s3.1.len,s3.1.cap⟩:Sl) h8)))) ((⟨none,0,0⟩:Sl),(-1:Int)) h2
theorem oY (d_0:Option Addr) (m_1:Int×Int×Int×Int×Int×Int×Sl×Sl) {R:Value→Heap→Prop} {h:Heap} (hm:lk d_0 m_1 R h):ae Tryz.prog 80 #[(.pointer d_0),(.agg #[(.int .i64 m_1.1),(.int .i64 m_1.2.1),(.int .i64 m_1.2.2.1),(.int .i64 m_1.2.2.2.1),(.int .i64 m_1.2.2.2.2.1),(.int .i64 m_1.2.2.2.2.2.1),(.slice m_1.2.2.2.2.2.2.1.ptr m_1.2.2.2.2.2.2.1.len m_1.2.2.2.2.2.2.1.cap),(.slice m_1.2.2.2.2.2.2.2.ptr m_1.2.2.2.2.2.2.2.len m_1.2.2.2.2.2.2.2.cap)])] h R:=aw ah Tryz.func80 (.two .n (.scope 0 [(6,(.sc .slc)),(7,(.sc (.int .i64)))] [(4,5),(6,10),(12,40)] [.n,.n,.n] [(.two .n (.two .n (.two (.join [(6,(.sc .slc))] [(6,7),(8,10),(18,36)] .n) .n)))] [(1,[.n])])) hm
noncomputable def nd (p_0:Int×Int×Int) (R:Value→Heap→Prop) (h:Heap):Prop:=
 aW Tryz.prog (Instr.box 24 (.agg #[(.int .i64 p_0.1),(.int .i64 p_0.2.1),(.int .i64 p_0.2.2)])) h fun a1 h1=>
 ∃x2:Int,cellOf h1 a1=some (.int .i64 x2)∧
 ∃x3:Int,cellOf h1 (a1.add 2)=some (.int .i64 x3)∧
 R (.int .i64 (IntKind.wrap .i64 (x2*x3))) h1
theorem qR (p_0:Int×Int×Int) {R:Value→Heap→Prop} {h:Heap} (hm:nd p_0 R h):ae Tryz.prog 81 #[(.agg #[(.int .i64 p_0.1),(.int .i64 p_0.2.1),(.int .i64 p_0.2.2)])] h R:=aw ah Tryz.func81 .n hm
abbrev ic:FuncId:=82
noncomputable def jc (s_0:Option Addr) (R:Value→Heap→Prop) (h:Heap):Prop:=
 Br (!(Option.isNone s_0)) (∃a1:Addr,(s_0=some a1)∧
 ∃x2:Option Addr,cellOf h (a1.add 8)=some (.pointer x2)∧
 af Tryz.prog 86 #[(.pointer x2)] (.one (.sc .bool)) h fun r3 h1=>
 (aC.ok [] h1)∧
 Br (!r3) ((aC.ok [] h1)∧
 R (.bool true) h1) (∃a4:Addr,(s_0=some a4)∧
 ∃x5:Option Addr,cellOf h1 (a4.add 8)=some (.pointer x5)∧
 ∃a6:Addr,(s_0=some a6)∧
 ∃x7:Int,cellOf h1 (a6.add 9)=some (.int .i64 x7)∧
 af Tryz.prog 40 #[(.pointer x5)] (.one (.sc (.int .i64))) h1 fun r8 h2=>
 (aC.ok [(a6.add 9,(.int .i64 x7))] h2)∧
 R (.bool (r8 !=x7)) h2)) ((aC.ok [] h)∧
 (aC.ok [] h)∧
 R (.bool false) h)
theorem lU (s_0:Option Addr) {R:Value→Heap→Prop} {h:Heap} (hm:jc s_0 R h):ae Tryz.prog 82 #[(.pointer s_0)] h R:=aw ah Tryz.func82 .n hm
abbrev sm:FuncId:=83
noncomputable def nf (n_0:Int) (t_1:Int) (R:Value→Heap→Prop) (h:Heap):Prop:=
 af Tryz.prog 138 #[(.int .i64 n_0),(.int .i64 t_1)] (.one (.sc .bool)) h fun r1 h1=>
 Br (!r1)
 (R (.int .i64 (0:Int)) h1)
 (aR (σ:=Int×Int) (fun s2 K1 h2=>
 Br (decide (s2.2<(if(IntKind.wrap .i64 (n_0-t_1))<t_1 then IntKind.wrap .i64 (n_0-t_1)else t_1)))
 (((IntKind.wrap .i64 (s2.2+(1:Int)))≠0)∧
 Br (decide ((IntKind.wrap .i64 (Int.tdiv (IntKind.wrap .i64 (s2.1*(IntKind.wrap .i64 (n_0-s2.2)))) (IntKind.wrap .i64 (s2.2+(1:Int)))))>(4096:Int)))
 (R (.int .i64 (4097:Int)) h2)
 (K1 (IntKind.wrap .i64 (Int.tdiv (IntKind.wrap .i64 (s2.1*(IntKind.wrap .i64 (n_0-s2.2)))) (IntKind.wrap .i64 (s2.2+(1:Int)))),IntKind.wrap .i64 (s2.2+(1:Int))) h2))
 (R (.int .i64 s2.1) h2)) ((1:Int),(0:Int)) h1)
theorem qS (n_0:Int) (t_1:Int) {R:Value→Heap→Prop} {h:Heap} (hm:nf n_0 t_1 R h):ae Tryz.prog 83 #[(.int .i64 n_0),(.int .i64 t_1)] h R:=aw ah Tryz.func83 (.two .n (.two .n (.two .n (.two (.two .n (.inn (.loop [(5,(.sc (.int .i64))),(16,(.sc (.int .i64)))] [(4,7),(16,30)] .n))) .n)))) hm
abbrev kf:FuncId:=84
noncomputable def gp (c_0:Option Addr) (R:Value→Heap→Prop) (h:Heap):Prop:=
 ∃a1:Addr,(c_0=some a1)∧
 ∃x2:Sl,cellOf h (a1.add 9)=some (.slice x2.ptr x2.len x2.cap)∧
 aR (σ:=Int) (fun s3 K1 h1=>
 Br (decide (s3<((x2.len:Nat):Int)))
 (∃a4:Addr,(x2.ptr=some a4∧0≤s3∧s3<((x2.len:Nat):Int))∧
 ∃x5:Int,cellOf h1 (a4.add (s3.toNat*1))=some (.int .i64 x5)∧
 ∃a6:Addr,(c_0=some a6)∧
 ∃x7:Option Addr,cellOf h1 a6=some (.pointer x7)∧
 af Tryz.prog 11 #[(.pointer x7),(.int .i64 x5)] (.one (.sc .ptr)) h1 fun r8 h2=>
 ∃a9:Addr,(c_0=some a9)∧
 ∃x10:Int×Int×Int×Int×Int×Int×Sl×Sl,aj h2 (a9.add 1) 0 [(.int .i64 x10.1),(.int .i64 x10.2.1),(.int .i64 x10.2.2.1),(.int .i64 x10.2.2.2.1),(.int .i64 x10.2.2.2.2.1),(.int .i64 x10.2.2.2.2.2.1),(.slice x10.2.2.2.2.2.2.1.ptr x10.2.2.2.2.2.2.1.len x10.2.2.2.2.2.2.1.cap),(.slice x10.2.2.2.2.2.2.2.ptr x10.2.2.2.2.2.2.2.len x10.2.2.2.2.2.2.2.cap)]∧
 af Tryz.prog 108 #[(.pointer r8),(.agg #[(.int .i64 x10.1),(.int .i64 x10.2.1),(.int .i64 x10.2.2.1),(.int .i64 x10.2.2.2.1),(.int .i64 x10.2.2.2.2.1),(.int .i64 x10.2.2.2.2.2.1),(.slice x10.2.2.2.2.2.2.1.ptr x10.2.2.2.2.2.2.1.len x10.2.2.2.2.2.2.1.cap),(.slice x10.2.2.2.2.2.2.2.ptr x10.2.2.2.2.2.2.2.len x10.2.2.2.2.2.2.2.cap)])] (.one (.sc .slc)) h2 fun r11 h3=>
 af Tryz.prog 57 #[(.pointer r8)] (.one (.sc .slc)) h3 fun r12 h4=>
 af Tryz.prog 56 #[(.slice r12.ptr r12.len r12.cap),(.slice r11.ptr r11.len r11.cap),(.func (.func 58) #[] #[])] (.one (.sc .bool)) h4 fun r13 h5=>
 Br r13
 (K1 (IntKind.wrap .i64 (s3+(1:Int))) h5)
 (af Tryz.prog 59 #[(.pointer r8),(.slice r11.ptr r11.len r11.cap)] (.one (.sc (.int .i64))) h5 fun r14 h6=>
 Br (r14 !=(0:Int))
 (R (.int .i64 r14) h6)
 (K1 (IntKind.wrap .i64 (s3+(1:Int))) h6)))
 (R (.int .i64 (0:Int)) h1)) (0:Int) h
theorem j5 (c_0:Option Addr) {R:Value→Heap→Prop} {h:Heap} (hm:gp c_0 R h):ae Tryz.prog 84 #[(.pointer c_0)] h R:=aw ah Tryz.func84 (.two .n (.two (.two .n (.inn (.loop [(13,(.sc (.int .i64)))] [(2,3),(4,8),(13,40)] .n))) .n)) hm
abbrev nX:FuncId:=86
noncomputable def j6 (p_0:Option Addr) (R:Value→Heap→Prop) (h:Heap):Prop:=
 Br (!(Option.isNone p_0)) (∃a1:Addr,(p_0=some a1)∧
 ∃x2:Bool,cellOf h a1=some (.bool x2)∧
 R (.bool (!x2)) h) (R (.bool false) h)
theorem ng (p_0:Option Addr) {R:Value→Heap→Prop} {h:Heap} (hm:j6 p_0 R h):ae Tryz.prog 86 #[(.pointer p_0)] h R:=aw ah Tryz.func86 .n hm
abbrev ud:FuncId:=87
noncomputable def oy (m_0:Int×Int×Int×Int×Int×Int×Sl×Sl) (R:Value→Heap→Prop) (h:Heap):Prop:=
 aW Tryz.prog (Instr.box 47 (.agg #[(.int .i64 m_0.1),(.int .i64 m_0.2.1),(.int .i64 m_0.2.2.1),(.int .i64 m_0.2.2.2.1),(.int .i64 m_0.2.2.2.2.1),(.int .i64 m_0.2.2.2.2.2.1),(.slice m_0.2.2.2.2.2.2.1.ptr m_0.2.2.2.2.2.2.1.len m_0.2.2.2.2.2.2.1.cap),(.slice m_0.2.2.2.2.2.2.2.ptr m_0.2.2.2.2.2.2.2.len m_0.2.2.2.2.2.2.2.cap)])) h fun a1 h1=>
 ∃x2:Int×Int×Int×Int×Int×Int×Sl×Sl,aj h1 a1 0 [(.int .i64 x2.1),(.int .i64 x2.2.1),(.int .i64 x2.2.2.1),(.int .i64 x2.2.2.2.1),(.int .i64 x2.2.2.2.2.1),(.int .i64 x2.2.2.2.2.2.1),(.slice x2.2.2.2.2.2.2.1.ptr x2.2.2.2.2.2.2.1.len x2.2.2.2.2.2.2.1.cap),(.slice x2.2.2.2.2.2.2.2.ptr x2.2.2.2.2.2.2.2.len x2.2.2.2.2.2.2.2.cap)]∧
 af Tryz.prog 63 #[(.agg #[(.int .i64 x2.1),(.int .i64 x2.2.1),(.int .i64 x2.2.2.1),(.int .i64 x2.2.2.2.1),(.int .i64 x2.2.2.2.2.1),(.int .i64 x2.2.2.2.2.2.1),(.slice x2.2.2.2.2.2.2.1.ptr x2.2.2.2.2.2.2.1.len x2.2.2.2.2.2.2.1.cap),(.slice x2.2.2.2.2.2.2.2.ptr x2.2.2.2.2.2.2.2.len x2.2.2.2.2.2.2.2.cap)])] (.one (.sc .bool)) h1 fun r3 h2=>
 Br (!r3)
 (R (.slice none 0 0) h2)
 (bn (σ:=Sl) (fun s8 h5=>
 ∃x9:Int,cellOf h5 (a1.add 2)=some (.int .i64 x9)∧
 ∃x10:Int,cellOf h5 ((a1.add 2).add 1)=some (.int .i64 x10)∧
 ∃x11:Int,cellOf h5 ((a1.add 2).add 2)=some (.int .i64 x11)∧
 ∃x12:Int,cellOf h5 (a1.add 5)=some (.int .i64 x12)∧
 ∃x13:Sl,cellOf h5 (a1.add 6)=some (.slice x13.ptr x13.len x13.cap)∧
 av Tryz.prog (Instr.buildSlice 38 5 #[(0,(.int .u8 (IntKind.wrap .u8 x9))),(1,(.int .u8 (IntKind.wrap .u8 x10))),(2,(.int .u8 (IntKind.wrap .u8 x11))),(3,(.int .u8 (IntKind.wrap .u8 x12))),(4,(.int .u8 (IntKind.wrap .u8 ((x13.len:Nat):Int))))]) (.one (.sc .slc)) h5 fun v14 h6=>
 av Tryz.prog (Builtin.append_ #[38,38] 38 #[(.slice s8.ptr s8.len s8.cap),(.slice v14.ptr v14.len v14.cap)]) (.one (.sc .slc)) h6 fun v15 h7=>
 ∃x16:Sl,cellOf h7 (a1.add 6)=some (.slice x16.ptr x16.len x16.cap)∧
 aR (σ:=Sl×Int) (fun s17 K2 h8=>
 Br (decide (s17.2<((x16.len:Nat):Int)))
 (∃a18:Addr,(x16.ptr=some a18∧0≤s17.2∧s17.2<((x16.len:Nat):Int))∧
 ∃x19:Int,cellOf h8 (a18.add (s17.2.toNat*1))=some (.int .i64 x19)∧
 av Tryz.prog (Instr.buildSlice 38 1 #[(0,(.int .u8 (IntKind.wrap .u8 x19)))]) (.one (.sc .slc)) h8 fun v20 h9=>
 av Tryz.prog (Builtin.append_ #[38,38] 38 #[(.slice s17.1.ptr s17.1.len s17.1.cap),(.slice v20.ptr v20.len v20.cap)]) (.one (.sc .slc)) h9 fun v21 h10=>
 K2 ((⟨v21.ptr,v21.len,v21.cap⟩:Sl),IntKind.wrap .i64 (s17.2+(1:Int))) h10)
 (∃x22:Sl,cellOf h8 (a1.add 7)=some (.slice x22.ptr x22.len x22.cap)∧
 av Tryz.prog (Instr.buildSlice 38 1 #[(0,(.int .u8 (IntKind.wrap .u8 ((x22.len:Nat):Int))))]) (.one (.sc .slc)) h8 fun v23 h11=>
 av Tryz.prog (Builtin.append_ #[38,38] 38 #[(.slice s17.1.ptr s17.1.len s17.1.cap),(.slice v23.ptr v23.len v23.cap)]) (.one (.sc .slc)) h11 fun v24 h12=>
 ∃x25:Sl,cellOf h12 (a1.add 7)=some (.slice x25.ptr x25.len x25.cap)∧
 aR (σ:=Sl×Int) (fun s26 K3 h13=>
 Br (decide (s26.2<((x25.len:Nat):Int)))
 (∃a27:Addr,(x25.ptr=some a27∧0≤s26.2∧s26.2<((x25.len:Nat):Int))∧
 ∃x28:ByteArray×Int×Int×Sl,aj h13 (a27.add (s26.2.toNat*4)) 0 [(.string x28.1),(.int .i64 x28.2.1),(.int .i64 x28.2.2.1),(.slice x28.2.2.2.ptr x28.2.2.2.len x28.2.2.2.cap)]∧
 aW Tryz.prog (Instr.alloc 96 true (.tuple #[])) h13 fun a29 h14=>
 ab Tryz.prog (Instr.storeAt 96 (.pointer (some a29)) (.agg #[(.string x28.1),(.int .i64 x28.2.1),(.int .i64 x28.2.2.1),(.slice x28.2.2.2.ptr x28.2.2.2.len x28.2.2.2.cap)])) h14 fun _ h15=>
 bn (σ:=Sl) (fun s35 h19=>
 bn (σ:=Sl) (fun s40 h22=>
 ∃x41:Sl,cellOf h22 (a29.add 3)=some (.slice x41.ptr x41.len x41.cap)∧
 aR (σ:=Sl×Int) (fun s42 K6 h23=>
 Br (decide (s42.2<((x41.len:Nat):Int)))
 (∃a43:Addr,(x41.ptr=some a43∧0≤s42.2∧s42.2<((x41.len:Nat):Int))∧
 ∃x44:Int,cellOf h23 (a43.add (s42.2.toNat*1))=some (.int .i64 x44)∧
 av Tryz.prog (Instr.buildSlice 38 1 #[(0,(.int .u8 (IntKind.wrap .u8 x44)))]) (.one (.sc .slc)) h23 fun v45 h24=>
 av Tryz.prog (Builtin.append_ #[38,38] 38 #[(.slice s42.1.ptr s42.1.len s42.1.cap),(.slice v45.ptr v45.len v45.cap)]) (.one (.sc .slc)) h24 fun v46 h25=>
 K6 ((⟨v46.ptr,v46.len,v46.cap⟩:Sl),IntKind.wrap .i64 (s42.2+(1:Int))) h25)
 (K3 ((⟨s42.1.ptr,s42.1.len,s42.1.cap⟩:Sl),IntKind.wrap .i64 (s26.2+(1:Int))) h23)) ((⟨s40.ptr,s40.len,s40.cap⟩:Sl),(0:Int)) h22)
 (fun K5=>
 ∃x36:Int,cellOf h19 (a29.add 1)=some (.int .i64 x36)∧
 ∃x37:Int,cellOf h19 (a29.add 2)=some (.int .i64 x37)∧
 af Tryz.prog 141 #[(.slice s35.ptr s35.len s35.cap),(.int .i64 x36),(.int .i64 (3:Int))] (.one (.sc .slc)) h19 fun r38 h20=>
 (aC.ok [(a29.add 2,(.int .i64 x37))] h20)∧
 af Tryz.prog 141 #[(.slice r38.ptr r38.len r38.cap),(.int .i64 x37),(.int .i64 (2:Int))] (.one (.sc .slc)) h20 fun r39 h21=>
 (aC.ok [] h21)∧
 K5 (⟨r39.ptr,r39.len,r39.cap⟩:Sl) h21))
 (fun K4=>
 ∃x30:ByteArray,cellOf h15 a29=some (.string x30)∧
 ∃x31:ByteArray,cellOf h15 a29=some (.string x31)∧
 av Tryz.prog (Instr.buildSlice 38 1 #[(0,(.int .u8 (IntKind.wrap .u8 ((x30.size:Nat):Int))))]) (.one (.sc .slc)) h15 fun v32 h16=>
 (aC.ok [(a29,(.string x31)),(a29,(.string x30))] h16)∧
 av Tryz.prog (Builtin.append_ #[38,38] 38 #[(.slice s26.1.ptr s26.1.len s26.1.cap),(.slice v32.ptr v32.len v32.cap)]) (.one (.sc .slc)) h16 fun v33 h17=>
 (aC.ok [(a29,(.string x31)),(a29,(.string x30))] h17)∧
 av Tryz.prog (Builtin.append_ #[38,9] 38 #[(.slice v33.ptr v33.len v33.cap),(.string x31)]) (.one (.sc .slc)) h17 fun v34 h18=>
 (aC.ok [(a29,(.string x30))] h18)∧
 K4 (⟨v34.ptr,v34.len,v34.cap⟩:Sl) h18))
 (R (.slice s26.1.ptr s26.1.len s26.1.cap) h13)) ((⟨v24.ptr,v24.len,v24.cap⟩:Sl),(0:Int)) h12)) ((⟨v15.ptr,v15.len,v15.cap⟩:Sl),(0:Int)) h7)
 (fun K1=>
 ∃x4:Int,cellOf h2 a1=some (.int .i64 x4)∧
 ∃x5:Int,cellOf h2 (a1.add 1)=some (.int .i64 x5)∧
 af Tryz.prog 141 #[(.slice none 0 0),(.int .i64 x4),(.int .i64 (4:Int))] (.one (.sc .slc)) h2 fun r6 h3=>
 (aC.ok [(a1.add 1,(.int .i64 x5))] h3)∧
 af Tryz.prog 141 #[(.slice r6.ptr r6.len r6.cap),(.int .i64 x5),(.int .i64 (4:Int))] (.one (.sc .slc)) h3 fun r7 h4=>
 (aC.ok [] h4)∧
 K1 (⟨r7.ptr,r7.len,r7.cap⟩:Sl) h4))
theorem sn (m_0:Int×Int×Int×Int×Int×Int×Sl×Sl) {R:Value→Heap→Prop} {h:Heap} (hm:oy m_0 R h):ae Tryz.prog 87 #[(.agg #[(.int .i64 m_0.1),(.int .i64 m_0.2.1),(.int .i64 m_0.2.2.1),(.int .i64 m_0.2.2.2.1),(.int .i64 m_0.2.2.2.2.1),(.int .i64 m_0.2.2.2.2.2.1),(.slice m_0.2.2.2.2.2.2.1.ptr m_0.2.2.2.2.2.2.1.len m_0.2.2.2.2.2.2.1.cap),(.slice m_0.2.2.2.2.2.2.2.ptr m_0.2.2.2.2.2.2.2.len m_0.2.2.2.2.2.2.2.cap)])] h R:=aw ah Tryz.func87 (.two .n (.two .n (.two (.join [(3,(.sc .slc))] [(3,4),(13,19)] .n) (.two .n (.two (.two .n (.inn (.loop [(3,(.sc .slc)),(44,(.sc (.int .i64)))] [(3,4),(5,6),(44,54)] .n))) (.two .n (.two (.two .n (.inn (.loop [(3,(.sc .slc)),(64,(.sc (.int .i64)))] [(3,4),(7,8),(9,10),(64,99)] (.two .n (.two .n (.two (.inn (.two .n (.two (.join [(3,(.sc .slc))] [(3,4),(68,78)] .n) (.two (.join [(3,(.sc .slc))] [(3,4),(78,85)] .n) (.two .n (.inn (.loop [(3,(.sc .slc)),(88,(.sc (.int .i64)))] [(3,4),(9,10),(88,98)] .n))))))) .n)))))) .n))))))) hm
abbrev uY:FuncId:=88
noncomputable def pV (seq_0:Int) (number_1:Int) (many_2:Int) (b_3:Sl) (R:Value→Heap→Prop) (h:Heap):Prop:=
 (0≤(24:Int))∧
 (0≤(16:Int))∧
 (0≤(8:Int))∧
 av Tryz.prog (Instr.buildSlice 38 7 #[(0,(.int .u8 (IntKind.wrap .u8 (Int.fdiv seq_0 (2^min (24:Int).toNat (IntKind.bits .i64)))))),(1,(.int .u8 (IntKind.wrap .u8 (Int.fdiv seq_0 (2^min (16:Int).toNat (IntKind.bits .i64)))))),(2,(.int .u8 (IntKind.wrap .u8 (Int.fdiv seq_0 (2^min (8:Int).toNat (IntKind.bits .i64)))))),(3,(.int .u8 (IntKind.wrap .u8 seq_0))),(4,(.int .u8 (IntKind.wrap .u8 number_1))),(5,(.int .u8 (IntKind.wrap .u8 many_2))),(6,(.int .u8 (IntKind.wrap .u8 ((b_3.len:Nat):Int))))]) (.one (.sc .slc)) h fun v1 h1=>
 av Tryz.prog (Builtin.append_ #[38,38] 38 #[(.slice v1.ptr v1.len v1.cap),(.slice b_3.ptr b_3.len b_3.cap)]) (.one (.sc .slc)) h1 fun v2 h2=>
 af Tryz.prog 142 #[(.int .i64 (2:Int)),(.slice v2.ptr v2.len v2.cap)] (.one (.sc .slc)) h2 fun r3 h3=>
 R (.slice r3.ptr r3.len r3.cap) h3
theorem ue (seq_0:Int) (number_1:Int) (many_2:Int) (b_3:Sl) {R:Value→Heap→Prop} {h:Heap} (hm:pV seq_0 number_1 many_2 b_3 R h):ae Tryz.prog 88 #[(.int .i64 seq_0),(.int .i64 number_1),(.int .i64 many_2),(.slice b_3.ptr b_3.len b_3.cap)] h R:=aw ah Tryz.func88 .n hm
abbrev gB:FuncId:=89
noncomputable def fe (d_0:Option Addr) (b_1:Sl) (R:Value→Heap→Prop) (h:Heap):Prop:=
 bn (σ:=Unit) (fun _ h3=>
 bn (σ:=Unit) (fun _ h8=>
 ∃a19:Addr,(d_0=some a19)∧
 ∃x20:Int,cellOf h8 (a19.add 3)=some (.int .i64 x20)∧
 ∃a21:Addr,(d_0=some a21)∧
 ab Tryz.prog (Instr.storeAt 3 (.pointer (some (a21.add 3))) (.int .i64 (IntKind.wrap .i64 (x20+(1:Int))))) h8 fun _ h9=>
 ∃a22:Addr,(d_0=some a22)∧
 ∃x23:Option Addr,cellOf h9 a22=some (.pointer x23)∧
 af Tryz.prog 34 #[(.pointer x23)] (.one (.sc .bool)) h9 fun r24 h10=>
 Br (!r24)
 (R (.int .i64 (14:Int)) h10)
 (af Tryz.prog 111 #[(.pointer d_0)] (.one (.sc (.int .i64))) h10 fun r25 h11=>
 R (.int .i64 r25) h11))
 (fun K3=>
 ∃a12:Addr,(d_0=some a12)∧
 ∃x13:Sl,cellOf h3 (a12.add 2)=some (.slice x13.ptr x13.len x13.cap)∧
 af Tryz.prog 91 #[(.slice b_1.ptr b_1.len b_1.cap)] (.one (.sc .slc)) h3 fun r14 h4=>
 (aC.ok [(a12.add 2,(.slice x13.ptr x13.len x13.cap))] h4)∧
 av Tryz.prog (Instr.buildSlice 59 1 #[(0,(.slice r14.ptr r14.len r14.cap))]) (.one (.sc .slc)) h4 fun v15 h5=>
 (aC.ok [(a12.add 2,(.slice x13.ptr x13.len x13.cap))] h5)∧
 av Tryz.prog (Builtin.append_ #[59,59] 59 #[(.slice x13.ptr x13.len x13.cap),(.slice v15.ptr v15.len v15.cap)]) (.one (.sc .slc)) h5 fun v16 h6=>
 (aC.ok [] h6)∧
 ∃a17:Addr,(d_0=some a17)∧
 ab Tryz.prog (Instr.storeAt 59 (.pointer (some (a17.add 2))) (.slice v16.ptr v16.len v16.cap)) h6 fun _ h7=>
 (aC.ok [] h7)∧
 K3 () h7))
 (fun K1=>
 Br (((b_1.len:Nat):Int) !=(64:Int))
 (R (.int .i64 (1:Int)) h)
 (bn (σ:=Bool) (fun s3 h1=>
 Br s3
 (R (.int .i64 (5:Int)) h1)
 (∃a4:Addr,(d_0=some a4)∧
 ∃x5:Sl,cellOf h1 (a4.add 2)=some (.slice x5.ptr x5.len x5.cap)∧
 ∃a6:Addr,(d_0=some a6)∧
 ∃x7:Int,cellOf h1 (a6.add 1)=some (.int .i64 x7)∧
 Br (decide (((x5.len:Nat):Int)≥x7))
 (R (.int .i64 (7:Int)) h1)
 (∃a8:Addr,(d_0=some a8)∧
 ∃x9:Option Addr,cellOf h1 a8=some (.pointer x9)∧
 af Tryz.prog 86 #[(.pointer x9)] (.one (.sc .bool)) h1 fun r10 h2=>
 Br (!r10)
 (R (.int .i64 (14:Int)) h2)
 (K1 () h2))))
 (fun K2=>
 Br (Option.isNone d_0) (K2 true h) (∃a1:Addr,(d_0=some a1)∧
 ∃x2:Bool,cellOf h (a1.add 6)=some (.bool x2)∧
 K2 x2 h))))
theorem gq (d_0:Option Addr) (b_1:Sl) {R:Value→Heap→Prop} {h:Heap} (hm:fe d_0 b_1 R h):ae Tryz.prog 89 #[(.pointer d_0),(.slice b_1.ptr b_1.len b_1.cap)] h R:=aw ah Tryz.func89 (.two .n (.two (.join [] [(4,36)] (.inn (.two .n (.two .n (.two (.join [(9,(.sc .bool))] [(9,18)] .n) .n))))) (.two (.join [] [(36,47)] .n) .n))) hm
abbrev uZ:FuncId:=90
noncomputable def pW (at_0:FuncId×Array Value×Array Value) (slots_1:Sl) (R:Value→Heap→Prop) (h:Heap):Prop:=
 af Tryz.prog 79 #[(.slice slots_1.ptr slots_1.len slots_1.cap)] (.one (.sc .slc)) h fun r1 h1=>
 af Tryz.prog 143 #[(.slice r1.ptr r1.len r1.cap)] (.many []) h1 fun _ h2=>
 af Tryz.prog 144 #[(.slice r1.ptr r1.len r1.cap)] (.one (.sc .slc)) h2 fun r3 h3=>
 aR (σ:=Int) (fun s4 K1 h4=>
 Br (decide (s4<((r3.len:Nat):Int)))
 (∃a5:Addr,(r3.ptr=some a5∧0≤s4∧s4<((r3.len:Nat):Int))∧
 ∃x6:Int,cellOf h4 (a5.add (s4.toNat*1))=some (.int .i64 x6)∧
 ga C at_0.1 (at_0.2.1.toList++[(.int .i64 x6)]++at_0.2.2.toList) (.one (.sc .ptr)) h4 fun r7 h5=>
 af Tryz.prog 145 #[(.pointer r7)] (.one (.sc (.int .i64))) h5 fun r8 h6=>
 Br (r8 !=(0:Int))
 (R (.int .i64 r8) h6)
 (K1 (IntKind.wrap .i64 (s4+(1:Int))) h6))
 (R (.int .i64 (0:Int)) h4)) (0:Int) h3
theorem uf (at_0:FuncId×Array Value×Array Value) (slots_1:Sl) {R:Value→Heap→Prop} {h:Heap} (hm:pW at_0 slots_1 R h):ae Tryz.prog 90 #[(.func (.func at_0.1) at_0.2.1 at_0.2.2),(.slice slots_1.ptr slots_1.len slots_1.cap)] h R:=aw ah Tryz.func90 (.two .n (.two .n (.two .n (.two (.two .n (.inn (.loop [(15,(.sc (.int .i64)))] [(4,5),(6,8),(15,27)] .n))) .n)))) hm
abbrev qT:FuncId:=91
noncomputable def mg (b_0:Sl) (R:Value→Heap→Prop) (h:Heap):Prop:=
 Br (Option.isNone b_0.ptr)
 (R (.slice none 0 0) h)
 (av Tryz.prog (Instr.buildSlice 38 0 #[]) (.one (.sc .slc)) h fun v1 h1=>
 av Tryz.prog (Builtin.append_ #[38,38] 38 #[(.slice v1.ptr v1.len v1.cap),(.slice b_0.ptr b_0.len b_0.cap)]) (.one (.sc .slc)) h1 fun v2 h2=>
 R (.slice v2.ptr v2.len v2.cap) h2)
theorem pX (b_0:Sl) {R:Value→Heap→Prop} {h:Heap} (hm:mg b_0 R h):ae Tryz.prog 91 #[(.slice b_0.ptr b_0.len b_0.cap)] h R:=aw ah Tryz.func91 .n hm
abbrev ug:FuncId:=92
noncomputable def oz (s_0:ByteArray) (R:Value→Heap→Prop) (h:Heap):Prop:=
 av Tryz.prog (convert 9 38 (.string s_0)) (.one (.sc .slc)) h fun v1 h1=>
 aR (σ:=Int) (fun s2 K1 h2=>
 Br (decide (s2<((v1.len:Nat):Int)))
 (∃a3:Addr,(v1.ptr=some a3∧0≤s2∧s2<((v1.len:Nat):Int))∧
 ∃x4:Int,cellOf h2 (a3.add (s2.toNat*1))=some (.int .u8 x4)∧
 Br (decide (x4<(97:Int))) (Br (decide (x4<(48:Int))) (Br (x4 !=(45:Int))
 (R (.bool false) h2)
 (K1 (IntKind.wrap .i64 (s2+(1:Int))) h2)) (Br (decide (x4>(57:Int))) (Br (x4 !=(45:Int))
 (R (.bool false) h2)
 (K1 (IntKind.wrap .i64 (s2+(1:Int))) h2)) (K1 (IntKind.wrap .i64 (s2+(1:Int))) h2))) (Br (decide (x4>(122:Int))) (Br (decide (x4<(48:Int))) (Br (x4 !=(45:Int))
 (R (.bool false) h2)
 (K1 (IntKind.wrap .i64 (s2+(1:Int))) h2)) (Br (decide (x4>(57:Int))) (Br (x4 !=(45:Int))
 (R (.bool false) h2)
 (K1 (IntKind.wrap .i64 (s2+(1:Int))) h2)) (K1 (IntKind.wrap .i64 (s2+(1:Int))) h2))) (K1 (IntKind.wrap .i64 (s2+(1:Int))) h2)))
 (Br (decide (((s_0.size:Nat):Int)≥(1:Int))) (R (.bool (decide (((s_0.size:Nat):Int)≤(12:Int)))) h2) (R (.bool false) h2))) (0:Int) h1
theorem so (s_0:ByteArray) {R:Value→Heap→Prop} {h:Heap} (hm:oz s_0 R h):ae Tryz.prog 92 #[(.string s_0)] h R:=aw ah Tryz.func92 (.two .n (.two (.two .n (.inn (.loop [(8,(.sc (.int .i64)))] [(2,3),(4,5),(8,31)] .n))) .n)) hm
abbrev sq:FuncId:=99
noncomputable def nh (r_0:Int×Int×Int×Int×Int×Int×Int×Sl) (R:Value→Heap→Prop) (h:Heap):Prop:=
 aW Tryz.prog (Instr.box 134 (.agg #[(.int .i64 r_0.1),(.int .i64 r_0.2.1),(.int .i64 r_0.2.2.1),(.int .i64 r_0.2.2.2.1),(.int .i64 r_0.2.2.2.2.1),(.int .i64 r_0.2.2.2.2.2.1),(.int .u32 r_0.2.2.2.2.2.2.1),(.slice r_0.2.2.2.2.2.2.2.ptr r_0.2.2.2.2.2.2.2.len r_0.2.2.2.2.2.2.2.cap)])) h fun a1 h1=>
 ∃x2:Int×Int×Int×Int×Int×Int×Int×Sl,aj h1 a1 0 [(.int .i64 x2.1),(.int .i64 x2.2.1),(.int .i64 x2.2.2.1),(.int .i64 x2.2.2.2.1),(.int .i64 x2.2.2.2.2.1),(.int .i64 x2.2.2.2.2.2.1),(.int .u32 x2.2.2.2.2.2.2.1),(.slice x2.2.2.2.2.2.2.2.ptr x2.2.2.2.2.2.2.2.len x2.2.2.2.2.2.2.2.cap)]∧
 af Tryz.prog 158 #[(.agg #[(.int .i64 x2.1),(.int .i64 x2.2.1),(.int .i64 x2.2.2.1),(.int .i64 x2.2.2.2.1),(.int .i64 x2.2.2.2.2.1),(.int .i64 x2.2.2.2.2.2.1),(.int .u32 x2.2.2.2.2.2.2.1),(.slice x2.2.2.2.2.2.2.2.ptr x2.2.2.2.2.2.2.2.len x2.2.2.2.2.2.2.2.cap)])] (.one (.sc .bool)) h1 fun r3 h2=>
 Br (!r3)
 (R (.slice none 0 0) h2)
 (∃x4:Int,cellOf h2 a1=some (.int .i64 x4)∧
 af Tryz.prog 159 #[(.slice none 0 0),(.int .i64 x4),(.int .i64 (3:Int))] (.one (.sc .slc)) h2 fun r5 h3=>
 ∃x6:Int,cellOf h3 (a1.add 1)=some (.int .i64 x6)∧
 af Tryz.prog 159 #[(.slice r5.ptr r5.len r5.cap),(.int .i64 x6),(.int .i64 (1:Int))] (.one (.sc .slc)) h3 fun r7 h4=>
 ∃x8:Int,cellOf h4 (a1.add 2)=some (.int .i64 x8)∧
 af Tryz.prog 159 #[(.slice r7.ptr r7.len r7.cap),(.int .i64 x8),(.int .i64 (2:Int))] (.one (.sc .slc)) h4 fun r9 h5=>
 ∃x10:Int,cellOf h5 (a1.add 3)=some (.int .i64 x10)∧
 ∃x11:Int,cellOf h5 ((a1.add 3).add 1)=some (.int .i64 x11)∧
 ∃x12:Int,cellOf h5 ((a1.add 3).add 2)=some (.int .i64 x12)∧
 av Tryz.prog (Instr.buildSlice 38 3 #[(0,(.int .u8 (IntKind.wrap .u8 x10))),(1,(.int .u8 (IntKind.wrap .u8 x11))),(2,(.int .u8 (IntKind.wrap .u8 x12)))]) (.one (.sc .slc)) h5 fun v13 h6=>
 av Tryz.prog (Builtin.append_ #[38,38] 38 #[(.slice r9.ptr r9.len r9.cap),(.slice v13.ptr v13.len v13.cap)]) (.one (.sc .slc)) h6 fun v14 h7=>
 ∃x15:Int,cellOf h7 (a1.add 6)=some (.int .u32 x15)∧
 af Tryz.prog 159 #[(.slice v14.ptr v14.len v14.cap),(.int .i64 (IntKind.wrap .i64 x15)),(.int .i64 (4:Int))] (.one (.sc .slc)) h7 fun r16 h8=>
 ∃x17:Sl,cellOf h8 (a1.add 7)=some (.slice x17.ptr x17.len x17.cap)∧
 av Tryz.prog (Builtin.append_ #[38,38] 38 #[(.slice r16.ptr r16.len r16.cap),(.slice x17.ptr x17.len x17.cap)]) (.one (.sc .slc)) h8 fun v18 h9=>
 af Tryz.prog 142 #[(.int .i64 (1:Int)),(.slice v18.ptr v18.len v18.cap)] (.one (.sc .slc)) h9 fun r19 h10=>
 R (.slice r19.ptr r19.len r19.cap) h10)
theorem qU (r_0:Int×Int×Int×Int×Int×Int×Int×Sl) {R:Value→Heap→Prop} {h:Heap} (hm:nh r_0 R h):ae Tryz.prog 99 #[(.agg #[(.int .i64 r_0.1),(.int .i64 r_0.2.1),(.int .i64 r_0.2.2.1),(.int .i64 r_0.2.2.2.1),(.int .i64 r_0.2.2.2.2.1),(.int .i64 r_0.2.2.2.2.2.1),(.int .u32 r_0.2.2.2.2.2.2.1),(.slice r_0.2.2.2.2.2.2.2.ptr r_0.2.2.2.2.2.2.2.len r_0.2.2.2.2.2.2.2.cap)])] h R:=aw ah Tryz.func99 .n hm
abbrev gU:FuncId:=103
noncomputable def eC (s_0:Sl) (f_1:FuncId×Array Value×Array Value) (R:Value→Heap→Prop) (h:Heap):Prop:=
 af Tryz.prog 163 #[(.slice s_0.ptr s_0.len s_0.cap),(.func (.func f_1.1) f_1.2.1 f_1.2.2)] (.one (.sc (.int .i64))) h fun r1 h1=>
 R (.bool (decide (r1≥(0:Int)))) h1
theorem gE (s_0:Sl) (f_1:FuncId×Array Value×Array Value) {R:Value→Heap→Prop} {h:Heap} (hm:eC s_0 f_1 R h):ae Tryz.prog 103 #[(.slice s_0.ptr s_0.len s_0.cap),(.func (.func f_1.1) f_1.2.1 f_1.2.2)] h R:=aw ah Tryz.func103 .n hm
abbrev uh:FuncId:=108
noncomputable def oA (d_0:Option Addr) (m_1:Int×Int×Int×Int×Int×Int×Sl×Sl) (R:Value→Heap→Prop) (h:Heap):Prop:=
 aW Tryz.prog (Instr.box 47 (.agg #[(.int .i64 m_1.1),(.int .i64 m_1.2.1),(.int .i64 m_1.2.2.1),(.int .i64 m_1.2.2.2.1),(.int .i64 m_1.2.2.2.2.1),(.int .i64 m_1.2.2.2.2.2.1),(.slice m_1.2.2.2.2.2.2.1.ptr m_1.2.2.2.2.2.2.1.len m_1.2.2.2.2.2.2.1.cap),(.slice m_1.2.2.2.2.2.2.2.ptr m_1.2.2.2.2.2.2.2.len m_1.2.2.2.2.2.2.2.cap)])) h fun a1 h1=>
 ∃x2:Int×Int×Int×Int×Int×Int×Sl×Sl,aj h1 a1 0 [(.int .i64 x2.1),(.int .i64 x2.2.1),(.int .i64 x2.2.2.1),(.int .i64 x2.2.2.2.1),(.int .i64 x2.2.2.2.2.1),(.int .i64 x2.2.2.2.2.2.1),(.slice x2.2.2.2.2.2.2.1.ptr x2.2.2.2.2.2.2.1.len x2.2.2.2.2.2.2.1.cap),(.slice x2.2.2.2.2.2.2.2.ptr x2.2.2.2.2.2.2.2.len x2.2.2.2.2.2.2.2.cap)]∧
 ∃x3:Int×Int×Int×Int×Int×Int×Sl×Sl,aj h1 a1 0 [(.int .i64 x3.1),(.int .i64 x3.2.1),(.int .i64 x3.2.2.1),(.int .i64 x3.2.2.2.1),(.int .i64 x3.2.2.2.2.1),(.int .i64 x3.2.2.2.2.2.1),(.slice x3.2.2.2.2.2.2.1.ptr x3.2.2.2.2.2.2.1.len x3.2.2.2.2.2.2.1.cap),(.slice x3.2.2.2.2.2.2.2.ptr x3.2.2.2.2.2.2.2.len x3.2.2.2.2.2.2.2.cap)]∧
 af Tryz.prog 41 #[(.agg #[(.int .i64 x2.1),(.int .i64 x2.2.1),(.int .i64 x2.2.2.1),(.int .i64 x2.2.2.2.1),(.int .i64 x2.2.2.2.2.1),(.int .i64 x2.2.2.2.2.2.1),(.slice x2.2.2.2.2.2.2.1.ptr x2.2.2.2.2.2.2.1.len x2.2.2.2.2.2.2.1.cap),(.slice x2.2.2.2.2.2.2.2.ptr x2.2.2.2.2.2.2.2.len x2.2.2.2.2.2.2.2.cap)])] (.one (.sc .slc)) h1 fun r4 h2=>
 (aC.ok [(a1,(.int .i64 x3.1)),(a1.add 1,(.int .i64 x3.2.1)),(a1.add 2,(.int .i64 x3.2.2.1)),(a1.add 3,(.int .i64 x3.2.2.2.1)),(a1.add 4,(.int .i64 x3.2.2.2.2.1)),(a1.add 5,(.int .i64 x3.2.2.2.2.2.1)),(a1.add 6,(.slice x3.2.2.2.2.2.2.1.ptr x3.2.2.2.2.2.2.1.len x3.2.2.2.2.2.2.1.cap)),(a1.add 7,(.slice x3.2.2.2.2.2.2.2.ptr x3.2.2.2.2.2.2.2.len x3.2.2.2.2.2.2.2.cap))] h2)∧
 af Tryz.prog 110 #[(.pointer d_0),(.agg #[(.int .i64 x3.1),(.int .i64 x3.2.1),(.int .i64 x3.2.2.1),(.int .i64 x3.2.2.2.1),(.int .i64 x3.2.2.2.2.1),(.int .i64 x3.2.2.2.2.2.1),(.slice x3.2.2.2.2.2.2.1.ptr x3.2.2.2.2.2.2.1.len x3.2.2.2.2.2.2.1.cap),(.slice x3.2.2.2.2.2.2.2.ptr x3.2.2.2.2.2.2.2.len x3.2.2.2.2.2.2.2.cap)])] (.one (.sc .slc)) h2 fun r5 h3=>
 (aC.ok [] h3)∧
 av Tryz.prog (Builtin.append_ #[59,59] 59 #[(.slice r4.ptr r4.len r4.cap),(.slice r5.ptr r5.len r5.cap)]) (.one (.sc .slc)) h3 fun v6 h4=>
 (aC.ok [] h4)∧
 R (.slice v6.ptr v6.len v6.cap) h4
theorem sr (d_0:Option Addr) (m_1:Int×Int×Int×Int×Int×Int×Sl×Sl) {R:Value→Heap→Prop} {h:Heap} (hm:oA d_0 m_1 R h):ae Tryz.prog 108 #[(.pointer d_0),(.agg #[(.int .i64 m_1.1),(.int .i64 m_1.2.1),(.int .i64 m_1.2.2.1),(.int .i64 m_1.2.2.2.1),(.int .i64 m_1.2.2.2.2.1),(.int .i64 m_1.2.2.2.2.2.1),(.slice m_1.2.2.2.2.2.2.1.ptr m_1.2.2.2.2.2.2.1.len m_1.2.2.2.2.2.2.1.cap),(.slice m_1.2.2.2.2.2.2.2.ptr m_1.2.2.2.2.2.2.2.len m_1.2.2.2.2.2.2.2.cap)])] h R:=aw ah Tryz.func108 .n hm
abbrev ss:FuncId:=110
noncomputable def ni (d_0:Option Addr) (m_1:Int×Int×Int×Int×Int×Int×Sl×Sl) (R:Value→Heap→Prop) (h:Heap):Prop:=
 aW Tryz.prog (Instr.box 47 (.agg #[(.int .i64 m_1.1),(.int .i64 m_1.2.1),(.int .i64 m_1.2.2.1),(.int .i64 m_1.2.2.2.1),(.int .i64 m_1.2.2.2.2.1),(.int .i64 m_1.2.2.2.2.2.1),(.slice m_1.2.2.2.2.2.2.1.ptr m_1.2.2.2.2.2.2.1.len m_1.2.2.2.2.2.2.1.cap),(.slice m_1.2.2.2.2.2.2.2.ptr m_1.2.2.2.2.2.2.2.len m_1.2.2.2.2.2.2.2.cap)])) h fun a1 h1=>
 ∃x2:Int×Int×Int×Int×Int×Int×Sl×Sl,aj h1 a1 0 [(.int .i64 x2.1),(.int .i64 x2.2.1),(.int .i64 x2.2.2.1),(.int .i64 x2.2.2.2.1),(.int .i64 x2.2.2.2.2.1),(.int .i64 x2.2.2.2.2.2.1),(.slice x2.2.2.2.2.2.2.1.ptr x2.2.2.2.2.2.2.1.len x2.2.2.2.2.2.2.1.cap),(.slice x2.2.2.2.2.2.2.2.ptr x2.2.2.2.2.2.2.2.len x2.2.2.2.2.2.2.2.cap)]∧
 af Tryz.prog 80 #[(.pointer d_0),(.agg #[(.int .i64 x2.1),(.int .i64 x2.2.1),(.int .i64 x2.2.2.1),(.int .i64 x2.2.2.2.1),(.int .i64 x2.2.2.2.2.1),(.int .i64 x2.2.2.2.2.2.1),(.slice x2.2.2.2.2.2.2.1.ptr x2.2.2.2.2.2.2.1.len x2.2.2.2.2.2.2.1.cap),(.slice x2.2.2.2.2.2.2.2.ptr x2.2.2.2.2.2.2.2.len x2.2.2.2.2.2.2.2.cap)])] (.one (.sc .slc)) h1 fun r3 h2=>
 aR (σ:=Sl×Int) (fun s4 K1 h3=>
 Br (decide (s4.2<((r3.len:Nat):Int)))
 (∃a5:Addr,(r3.ptr=some a5∧0≤s4.2∧s4.2<((r3.len:Nat):Int))∧
 ∃x6:Int×Int×Int×Int×Int×Int×Int×Sl,aj h3 (a5.add (s4.2.toNat*8)) 0 [(.int .i64 x6.1),(.int .i64 x6.2.1),(.int .i64 x6.2.2.1),(.int .i64 x6.2.2.2.1),(.int .i64 x6.2.2.2.2.1),(.int .i64 x6.2.2.2.2.2.1),(.int .u32 x6.2.2.2.2.2.2.1),(.slice x6.2.2.2.2.2.2.2.ptr x6.2.2.2.2.2.2.2.len x6.2.2.2.2.2.2.2.cap)]∧
 aW Tryz.prog (Instr.alloc 134 true (.tuple #[])) h3 fun a7 h4=>
 ab Tryz.prog (Instr.storeAt 134 (.pointer (some a7)) (.agg #[(.int .i64 x6.1),(.int .i64 x6.2.1),(.int .i64 x6.2.2.1),(.int .i64 x6.2.2.2.1),(.int .i64 x6.2.2.2.2.1),(.int .i64 x6.2.2.2.2.2.1),(.int .u32 x6.2.2.2.2.2.2.1),(.slice x6.2.2.2.2.2.2.2.ptr x6.2.2.2.2.2.2.2.len x6.2.2.2.2.2.2.2.cap)])) h4 fun _ h5=>
 ∃x8:Int×Int×Int×Int×Int×Int×Int×Sl,aj h5 a7 0 [(.int .i64 x8.1),(.int .i64 x8.2.1),(.int .i64 x8.2.2.1),(.int .i64 x8.2.2.2.1),(.int .i64 x8.2.2.2.2.1),(.int .i64 x8.2.2.2.2.2.1),(.int .u32 x8.2.2.2.2.2.2.1),(.slice x8.2.2.2.2.2.2.2.ptr x8.2.2.2.2.2.2.2.len x8.2.2.2.2.2.2.2.cap)]∧
 af Tryz.prog 99 #[(.agg #[(.int .i64 x8.1),(.int .i64 x8.2.1),(.int .i64 x8.2.2.1),(.int .i64 x8.2.2.2.1),(.int .i64 x8.2.2.2.2.1),(.int .i64 x8.2.2.2.2.2.1),(.int .u32 x8.2.2.2.2.2.2.1),(.slice x8.2.2.2.2.2.2.2.ptr x8.2.2.2.2.2.2.2.len x8.2.2.2.2.2.2.2.cap)])] (.one (.sc .slc)) h5 fun r9 h6=>
 av Tryz.prog (Instr.buildSlice 59 1 #[(0,(.slice r9.ptr r9.len r9.cap))]) (.one (.sc .slc)) h6 fun v10 h7=>
 av Tryz.prog (Builtin.append_ #[59,59] 59 #[(.slice s4.1.ptr s4.1.len s4.1.cap),(.slice v10.ptr v10.len v10.cap)]) (.one (.sc .slc)) h7 fun v11 h8=>
 K1 ((⟨v11.ptr,v11.len,v11.cap⟩:Sl),IntKind.wrap .i64 (s4.2+(1:Int))) h8)
 (R (.slice s4.1.ptr s4.1.len s4.1.cap) h3)) ((⟨none,0,0⟩:Sl),(0:Int)) h2
theorem qV (d_0:Option Addr) (m_1:Int×Int×Int×Int×Int×Int×Sl×Sl) {R:Value→Heap→Prop} {h:Heap} (hm:ni d_0 m_1 R h):ae Tryz.prog 110 #[(.pointer d_0),(.agg #[(.int .i64 m_1.1),(.int .i64 m_1.2.1),(.int .i64 m_1.2.2.1),(.int .i64 m_1.2.2.2.1),(.int .i64 m_1.2.2.2.2.1),(.int .i64 m_1.2.2.2.2.2.1),(.slice m_1.2.2.2.2.2.2.1.ptr m_1.2.2.2.2.2.2.1.len m_1.2.2.2.2.2.2.1.cap),(.slice m_1.2.2.2.2.2.2.2.ptr m_1.2.2.2.2.2.2.2.len m_1.2.2.2.2.2.2.2.cap)])] h R:=aw ah Tryz.func110 (.two .n (.two .n (.two (.two .n (.inn (.loop [(5,(.sc .slc)),(12,(.sc (.int .i64)))] [(5,6),(7,8),(12,22)] .n))) .n))) hm
abbrev my:FuncId:=111
noncomputable def jd (d_0:Option Addr) (R:Value→Heap→Prop) (h:Heap):Prop:=
 ∃a1:Addr,(d_0=some a1)∧
 ab Tryz.prog (Instr.storeAt 59 (.pointer (some (a1.add 4))) (.slice none 0 0)) h fun _ h1=>
 ∃a2:Addr,(d_0=some a2)∧
 ab Tryz.prog (Instr.storeAt 4 (.pointer (some (a2.add 5))) (.bool false)) h1 fun _ h2=>
 R (.int .i64 (0:Int)) h2
theorem lV (d_0:Option Addr) {R:Value→Heap→Prop} {h:Heap} (hm:jd d_0 R h):ae Tryz.prog 111 #[(.pointer d_0)] h R:=aw ah Tryz.func111 .n hm
abbrev fR:FuncId:=112
noncomputable def dp (s_0:Sl) (R:Value→Heap→Prop) (h:Heap):Prop:=
 Br (Option.isNone s_0.ptr)
 (R (.slice none 0 0) h)
 (av Tryz.prog (Instr.buildSlice 45 0 #[]) (.one (.sc .slc)) h fun v1 h1=>
 av Tryz.prog (Builtin.append_ #[45,45] 45 #[(.slice v1.ptr v1.len v1.cap),(.slice s_0.ptr s_0.len s_0.cap)]) (.one (.sc .slc)) h1 fun v2 h2=>
 R (.slice v2.ptr v2.len v2.cap) h2)
theorem fI (s_0:Sl) {R:Value→Heap→Prop} {h:Heap} (hm:dp s_0 R h):ae Tryz.prog 112 #[(.slice s_0.ptr s_0.len s_0.cap)] h R:=aw ah Tryz.func112 .n hm
abbrev qW:FuncId:=113
noncomputable def mh (n_0:Int) (least_1:Int) (most_2:Int) (R:Value→Heap→Prop) (h:Heap):Prop:=
 Br (decide (n_0≥least_1)) (R (.bool (decide (n_0≤most_2))) h) (R (.bool false) h)
theorem pY (n_0:Int) (least_1:Int) (most_2:Int) {R:Value→Heap→Prop} {h:Heap} (hm:mh n_0 least_1 most_2 R h):ae Tryz.prog 113 #[(.int .i64 n_0),(.int .i64 least_1),(.int .i64 most_2)] h R:=aw ah Tryz.func113 .n hm
end Go.Proofs.YtdhamoojccmbdaaGreatDoor
