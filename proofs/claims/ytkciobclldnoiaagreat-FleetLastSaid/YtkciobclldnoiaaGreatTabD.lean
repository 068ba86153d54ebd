/- Part of the proofs that the laws of this seat answer true whatever the input reads, and leave it as it was; no condition. -/
import Derived.Test.YtkciobclldnoiaaGreatTabA
set_option linter.unusedVariables false
set_option linter.unusedSimpArgs false
namespace Go.Proofs.YtkciobclldnoiaaGreat
open Go Go.Vc Go.Proofs
set_option maxRecDepth 1000000
abbrev lO:FuncId:=142
noncomputable def se (n_0:Int) (R:Value→Heap→Prop) (h:Heap):Prop:=
 af Tryz.prog 83 #[(.int .i64 n_0),(.int .i64 (0:Int)),(.int .i64 (15:Int))] (.one (.sc .bool)) h fun r1 h1=>
 R (.bool (!r1)) h1
theorem zb (n_0:Int) {R:Value→Heap→Prop} {h:Heap} (hm:se n_0 R h):ab Tryz.prog 142 #[(.int .i64 n_0)] h R:=aq ag Tryz.func142 .n hm
abbrev jn:FuncId:=143
noncomputable def dI (s_0:Sl) (f_1:FuncId×Array Value×Array Value) (R:Value→Heap→Prop) (h:Heap):Prop:=
 aO (σ:=Int) (fun s1 K1 h1=>
 Br (decide (s1<((s_0.len:Nat):Int)))
 (∃a2:Addr,(s_0.ptr=some a2∧0≤s1∧s1<((s_0.len:Nat):Int))∧
 ∃x3:ByteArray×Int×Int×Sl,ai h1 (a2.add (s1.toNat*4)) 0 [(.string x3.1),(.int .i64 x3.2.1),(.int .i64 x3.2.2.1),(.slice x3.2.2.2.ptr x3.2.2.2.len x3.2.2.2.cap)]∧
 fI C f_1.1 (f_1.2.1.toList++[(.agg #[(.string x3.1),(.int .i64 x3.2.1),(.int .i64 x3.2.2.1),(.slice x3.2.2.2.ptr x3.2.2.2.len x3.2.2.2.cap)])]++f_1.2.2.toList) (.one (.sc .bool)) h1 fun r4 h2=>
 Br r4
 (R (.int .i64 s1) h2)
 (K1 (IntKind.wrap .i64 (s1+(1:Int))) h2))
 (R (.int .i64 (-1:Int)) h1)) (0:Int) h
theorem ff (s_0:Sl) (f_1:FuncId×Array Value×Array Value) {R:Value→Heap→Prop} {h:Heap} (hm:dI s_0 f_1 R h):ab Tryz.prog 143 #[(.slice s_0.ptr s_0.len s_0.cap),(.func (.func f_1.1) f_1.2.1 f_1.2.2)] h R:=aq ag Tryz.func143 (.two .n (.two (.two .n (.inn (.loop [(8,(.sc (.int .i64)))] [(4,6),(8,19)] .n))) .n)) hm
abbrev sf:FuncId:=144
noncomputable def lP (x_0:ByteArray×Int×Int×Sl) (cap_1:Addr) (R:Value→Heap→Prop) (h:Heap):Prop:=
 aK Tryz.prog (Instr.box 89 (.agg #[(.string x_0.1),(.int .i64 x_0.2.1),(.int .i64 x_0.2.2.1),(.slice x_0.2.2.2.ptr x_0.2.2.2.len x_0.2.2.2.cap)])) h fun a1 h1=>
 ∃x2:ByteArray,cellOf h1 a1=some (.string x2)∧
 ∃x3:ByteArray,cellOf h1 cap_1=some (.string x3)∧
 R (.bool (x2.toList==x3.toList)) h1
theorem rp (x_0:ByteArray×Int×Int×Sl) (cap_1:Addr) {R:Value→Heap→Prop} {h:Heap} (hm:lP x_0 cap_1 R h):ab Tryz.prog 144 #[(.agg #[(.string x_0.1),(.int .i64 x_0.2.1),(.int .i64 x_0.2.2.1),(.slice x_0.2.2.2.ptr x_0.2.2.2.len x_0.2.2.2.cap)]),(.pointer (some cap_1))] h R:=aq ag Tryz.func144 .n hm
abbrev AE:FuncId:=145
noncomputable def sg (p_0:Int×Int×Int) (seed_1:Int) (R:Value→Heap→Prop) (h:Heap):Prop:=
 aK Tryz.prog (Instr.box 24 (.agg #[(.int .i64 p_0.1),(.int .i64 p_0.2.1),(.int .i64 p_0.2.2)])) h fun a1 h1=>
 ∃x2:Int×Int×Int,ai h1 a1 0 [(.int .i64 x2.1),(.int .i64 x2.2.1),(.int .i64 x2.2.2)]∧
 ∃x3:Int×Int×Int,ai h1 a1 0 [(.int .i64 x3.1),(.int .i64 x3.2.1),(.int .i64 x3.2.2)]∧
 af Tryz.prog 149 #[(.agg #[(.int .i64 x3.1),(.int .i64 x3.2.1),(.int .i64 x3.2.2)])] (.one (.sc .slc)) h1 fun r4 h2=>
 (ak.ok [(a1,(.int .i64 x2.1)),(a1.add 1,(.int .i64 x2.2.1)),(a1.add 2,(.int .i64 x2.2.2))] h2)∧
 af Tryz.prog 172 #[(.agg #[(.int .i64 x2.1),(.int .i64 x2.2.1),(.int .i64 x2.2.2)]),(.int .u32 seed_1),(.slice r4.ptr r4.len r4.cap)] (.one (.sc .bool)) h2 fun r5 h3=>
 (ak.ok [] h3)∧
 R (.bool r5) h3
theorem zc (p_0:Int×Int×Int) (seed_1:Int) {R:Value→Heap→Prop} {h:Heap} (hm:sg p_0 seed_1 R h):ab Tryz.prog 145 #[(.agg #[(.int .i64 p_0.1),(.int .i64 p_0.2.1),(.int .i64 p_0.2.2)]),(.int .u32 seed_1)] h R:=aq ag Tryz.func145 .n hm
abbrev FE:FuncId:=146
noncomputable def ym (f_0:Option Addr) (a_1:Sl) (b_2:Sl) (R:Value→Heap→Prop) (h:Heap):Prop:=
 aZ (σ:=Unit) (fun _ h3=>
 af Tryz.prog 174 #[(.slice a_1.ptr a_1.len a_1.cap)] (.one (.sc (.int .i64))) h3 fun r4 h4=>
 af Tryz.prog 175 #[(.slice a_1.ptr a_1.len a_1.cap)] (.one (.sc .slc)) h4 fun r5 h5=>
 aO (σ:=Int) (fun s6 K2 h6=>
 Br (decide (s6<((r5.len:Nat):Int)))
 (∃a7:Addr,(r5.ptr=some a7∧0≤s6∧s6<((r5.len:Nat):Int))∧
 ∃x8:Sl,cellOf h6 (a7.add (s6.toNat*1))=some (.slice x8.ptr x8.len x8.cap)∧
 ∃a9:Addr,(b_2.ptr=some a9∧0≤s6∧s6<((b_2.len:Nat):Int))∧
 ∃x10:Sl,cellOf h6 (a9.add (s6.toNat*1))=some (.slice x10.ptr x10.len x10.cap)∧
 az Tryz.prog (Builtin.append_ #[46,46] 46 #[(.slice x8.ptr x8.len x8.cap),(.slice x10.ptr x10.len x10.cap)]) (.one (.sc .slc)) h6 fun v11 h7=>
 (ak.ok [] h7)∧
 ∃a12:Addr,(r5.ptr=some a12∧0≤s6∧s6<((r5.len:Nat):Int))∧
 ae Tryz.prog (Instr.storeAt 46 (.pointer (some (a12.add (s6.toNat*1)))) (.slice v11.ptr v11.len v11.cap)) h7 fun _ h8=>
 (ak.ok [] h8)∧
 K2 (IntKind.wrap .i64 (s6+(1:Int))) h8)
 (af Tryz.prog 177 #[(.pointer f_0)] (.one (.sc .ptr)) h6 fun r13 h9=>
 af Tryz.prog 176 #[(.pointer r13),(.slice r5.ptr r5.len r5.cap),(.int .i64 r4)] (.one (.sc (.int .i64))) h9 fun r14 h10=>
 Br (decide (r14<r4))
 (R (.tuple #[(.slice none 0 0),(.int .i64 (9:Int))]) h10)
 ((0≤r14∧r14≤((r5.len:Nat):Int))∧
 aO (σ:=Int) (fun s15 K3 h11=>
 Br (decide (s15<(((r5.len-r14.toNat):Nat):Int)))
 (∃a16:Addr,((if r5.cap=r14.toNat then r5.ptr else r5.ptr.map (·.add (r14.toNat*1)))=some a16∧0≤s15∧s15<(((r5.len-r14.toNat):Nat):Int))∧
 ∃x17:Sl,cellOf h11 (a16.add (s15.toNat*1))=some (.slice x17.ptr x17.len x17.cap)∧
 af Tryz.prog 178 #[(.slice x17.ptr x17.len x17.cap)] (.one (.sc (.int .i64))) h11 fun r18 h12=>
 Br (decide (r18≥(0:Int)))
 (R (.tuple #[(.slice none 0 0),(.int .i64 (10:Int))]) h12)
 (K3 (IntKind.wrap .i64 (s15+(1:Int))) h12))
 ((0≤r14∧r14≤((r5.cap:Nat):Int))∧
 aO (σ:=Sl×Int) (fun s19 K4 h13=>
 Br (decide (s19.2<((r14.toNat:Nat):Int)))
 (∃a20:Addr,(r5.ptr=some a20∧0≤s19.2∧s19.2<((r14.toNat:Nat):Int))∧
 ∃x21:Sl,cellOf h13 (a20.add (s19.2.toNat*1))=some (.slice x21.ptr x21.len x21.cap)∧
 (0≤r4∧r4≤((x21.len:Nat):Int))∧
 af Tryz.prog 109 #[(.slice (if x21.cap=r4.toNat then x21.ptr else x21.ptr.map (·.add (r4.toNat*1))) (x21.len-r4.toNat) (x21.cap-r4.toNat))] (.one (.sc .slc)) h13 fun r22 h14=>
 az Tryz.prog (Instr.buildSlice 65 1 #[(0,(.slice r22.ptr r22.len r22.cap))]) (.one (.sc .slc)) h14 fun v23 h15=>
 az Tryz.prog (Builtin.append_ #[65,65] 65 #[(.slice s19.1.ptr s19.1.len s19.1.cap),(.slice v23.ptr v23.len v23.cap)]) (.one (.sc .slc)) h15 fun v24 h16=>
 K4 ((⟨v24.ptr,v24.len,v24.cap⟩:Sl),IntKind.wrap .i64 (s19.2+(1:Int))) h16)
 (R (.tuple #[(.slice s19.1.ptr s19.1.len s19.1.cap),(.int .i64 (0:Int))]) h13)) ((⟨none,0,0⟩:Sl),(0:Int)) h11)) (0:Int) h10))) (0:Int) h5)
 (fun K1=>
 af Tryz.prog 173 #[(.slice a_1.ptr a_1.len a_1.cap)] (.one (.sc .bool)) h fun r1 h1=>
 Br (!r1) (R (.tuple #[(.slice none 0 0),(.int .i64 (1:Int))]) h1) (af Tryz.prog 173 #[(.slice b_2.ptr b_2.len b_2.cap)] (.one (.sc .bool)) h1 fun r2 h2=>
 Br (!r2) (R (.tuple #[(.slice none 0 0),(.int .i64 (1:Int))]) h2) (Br (((a_1.len:Nat):Int) !=((b_2.len:Nat):Int)) (R (.tuple #[(.slice none 0 0),(.int .i64 (1:Int))]) h2) (Br (((a_1.len:Nat):Int)==(0:Int))
 (R (.tuple #[(.slice none 0 0),(.int .i64 (1:Int))]) h2)
 (K1 () h2)))))
theorem D6 (f_0:Option Addr) (a_1:Sl) (b_2:Sl) {R:Value→Heap→Prop} {h:Heap} (hm:ym f_0 a_1 b_2 R h):ab Tryz.prog 146 #[(.pointer f_0),(.slice a_1.ptr a_1.len a_1.cap),(.slice b_2.ptr b_2.len b_2.cap)] h R:=aq ag Tryz.func146 (.two .n (.two (.join [] [(6,8),(17,37)] .n) (.two .n (.two .n (.two (.two .n (.inn (.loop [(43,(.sc (.int .i64)))] [(10,11),(43,59)] .n))) (.two .n (.two .n (.two (.two .n (.inn (.loop [(71,(.sc (.int .i64)))] [(6,8),(13,14),(71,79)] .n))) (.two .n (.two (.two .n (.inn (.loop [(14,(.sc .slc)),(83,(.sc (.int .i64)))] [(14,15),(16,17),(83,95)] .n))) .n)))))))))) hm
abbrev KU:FuncId:=147
noncomputable def FF (R:Value→Heap→Prop) (h:Heap):Prop:=
 af Tryz.prog 179 #[] (.one (.arr (.int .u8))) h fun r1 h1=>
 aK Tryz.prog (Instr.alloc 223 true (.tuple #[])) h1 fun a2 h2=>
 ae Tryz.prog (Instr.storeAt 223 (.pointer (some a2)) (.agg (r1.map (Sc.enc (.int .u8))).toArray)) h2 fun _ h3=>
 ∃x3:List (Int),(x3.length=255∧ai h3 a2 0 (x3.map (Sc.enc (.int .u8))))∧
 ∃x4:List (Int),(x4.length=255∧ai h3 a2 0 (x4.map (Sc.enc (.int .u8))))∧
 af Tryz.prog 180 #[(.agg (x4.map (Sc.enc (.int .u8))).toArray)] (.one (.arr (.int .i64))) h3 fun r5 h4=>
 (ak.ok (jJ a2 0 (x3.map (Sc.enc (.int .u8))) []) h4)∧
 ∃v6:Value,(ar Tryz.prog (Instr.build 228 #[(0,(.agg (x3.map (Sc.enc (.int .u8))).toArray)),(1,(.agg (r5.map (Sc.enc (.int .i64))).toArray))]) v6)∧
 aK Tryz.prog (Instr.box 228 v6) h4 fun a7 h5=>
 (ak.ok (jJ a2 0 (x3.map (Sc.enc (.int .u8))) []) h5)∧
 R (.pointer (some a7)) h5
theorem Jv {R:Value→Heap→Prop} {h:Heap} (hm:FF R h):ab Tryz.prog 147 #[] h R:=aq ag Tryz.func147 .n hm
abbrev zd:FuncId:=148
noncomputable def qE (p_0:Int×Int×Int) (seed_1:Int) (ids_2:Sl) (R:Value→Heap→Prop) (h:Heap):Prop:=
 aK Tryz.prog (Instr.box 24 (.agg #[(.int .i64 p_0.1),(.int .i64 p_0.2.1),(.int .i64 p_0.2.2)])) h fun a1 h1=>
 ∃x2:Int×Int×Int,ai h1 a1 0 [(.int .i64 x2.1),(.int .i64 x2.2.1),(.int .i64 x2.2.2)]∧
 af Tryz.prog 181 #[(.agg #[(.int .i64 x2.1),(.int .i64 x2.2.1),(.int .i64 x2.2.2)])] (.one (.sc .slc)) h1 fun r3 h2=>
 aO (σ:=Sl×Int) (fun s4 K1 h3=>
 Br (decide (s4.2<((ids_2.len:Nat):Int)))
 (∃a5:Addr,(ids_2.ptr=some a5∧0≤s4.2∧s4.2<((ids_2.len:Nat):Int))∧
 ∃x6:Int,cellOf h3 (a5.add (s4.2.toNat*1))=some (.int .i64 x6)∧
 ∃x7:Int×Int×Int,ai h3 a1 0 [(.int .i64 x7.1),(.int .i64 x7.2.1),(.int .i64 x7.2.2)]∧
 af Tryz.prog 182 #[(.agg #[(.int .i64 x7.1),(.int .i64 x7.2.1),(.int .i64 x7.2.2)]),(.int .u32 seed_1),(.int .i64 x6)] (.one (.sc .slc)) h3 fun r8 h4=>
 Br (!(Option.isNone r8.ptr))
 (az Tryz.prog (Instr.buildSlice 65 1 #[(0,(.slice r8.ptr r8.len r8.cap))]) (.one (.sc .slc)) h4 fun v9 h5=>
 az Tryz.prog (Builtin.append_ #[65,65] 65 #[(.slice s4.1.ptr s4.1.len s4.1.cap),(.slice v9.ptr v9.len v9.cap)]) (.one (.sc .slc)) h5 fun v10 h6=>
 K1 ((⟨v10.ptr,v10.len,v10.cap⟩:Sl),IntKind.wrap .i64 (s4.2+(1:Int))) h6)
 (K1 ((⟨s4.1.ptr,s4.1.len,s4.1.cap⟩:Sl),IntKind.wrap .i64 (s4.2+(1:Int))) h4))
 (R (.slice s4.1.ptr s4.1.len s4.1.cap) h3)) ((⟨r3.ptr,r3.len,r3.cap⟩:Sl),(0:Int)) h2
theorem xI (p_0:Int×Int×Int) (seed_1:Int) (ids_2:Sl) {R:Value→Heap→Prop} {h:Heap} (hm:qE p_0 seed_1 ids_2 R h):ab Tryz.prog 148 #[(.agg #[(.int .i64 p_0.1),(.int .i64 p_0.2.1),(.int .i64 p_0.2.2)]),(.int .u32 seed_1),(.slice ids_2.ptr ids_2.len ids_2.cap)] h R:=aq ag Tryz.func148 (.two .n (.two .n (.two (.two .n (.inn (.loop [(7,(.sc .slc)),(15,(.sc (.int .i64)))] [(7,8),(9,11),(15,30)] .n))) .n))) hm
abbrev AF:FuncId:=149
noncomputable def sh (p_0:Int×Int×Int) (R:Value→Heap→Prop) (h:Heap):Prop:=
 aK Tryz.prog (Instr.box 24 (.agg #[(.int .i64 p_0.1),(.int .i64 p_0.2.1),(.int .i64 p_0.2.2)])) h fun a1 h1=>
 ∃x2:Int,cellOf h1 a1=some (.int .i64 x2)∧
 aO (σ:=Sl×Int) (fun s3 K1 h2=>
 Br (decide (s3.2<(if(if(16:Int)<x2 then(16:Int)else x2)>(0:Int)then(if(16:Int)<x2 then(16:Int)else x2)else(0:Int))))
 (az Tryz.prog (Instr.buildSlice 22 1 #[(0,(.int .i64 s3.2))]) (.one (.sc .slc)) h2 fun v4 h3=>
 az Tryz.prog (Builtin.append_ #[22,22] 22 #[(.slice s3.1.ptr s3.1.len s3.1.cap),(.slice v4.ptr v4.len v4.cap)]) (.one (.sc .slc)) h3 fun v5 h4=>
 K1 ((⟨v5.ptr,v5.len,v5.cap⟩:Sl),IntKind.wrap .i64 (s3.2+(1:Int))) h4)
 (R (.slice s3.1.ptr s3.1.len s3.1.cap) h2)) ((⟨none,0,0⟩:Sl),(0:Int)) h1
theorem ze (p_0:Int×Int×Int) {R:Value→Heap→Prop} {h:Heap} (hm:sh p_0 R h):ab Tryz.prog 149 #[(.agg #[(.int .i64 p_0.1),(.int .i64 p_0.2.1),(.int .i64 p_0.2.2)])] h R:=aq ag Tryz.func149 (.two .n (.two .n (.two (.two .n (.inn (.loop [(3,(.sc .slc)),(9,(.sc (.int .i64)))] [(3,5),(9,17)] .n))) .n))) hm
abbrev Hj:FuncId:=150
noncomputable def AG (n_0:Int) (R:Value→Heap→Prop) (h:Heap):Prop:=
 Br (decide (n_0<(0:Int))) (R (.complex .f64 0 0) h) (Br (decide (n_0≥(4096:Int)))
 (R (.complex .f64 0 0) h)
 (af Tryz.prog 183 #[] (.one (.sc .ptr)) h fun r1 h1=>
 aO (σ:=Int) (fun s2 K1 h2=>
 Br (s2==n_0)
 (∃a3:Addr,(r1=some a3)∧
 ∃x4:Nat×Nat,cellOf h2 a3=some (.complex .f64 x4.1 x4.2)∧
 R (.complex .f64 x4.1 x4.2) h2)
 (af Tryz.prog 184 #[(.pointer r1)] (.many []) h2 fun _ h3=>
 K1 (IntKind.wrap .i64 (s2+(1:Int))) h3)) (0:Int) h1))
theorem FG (n_0:Int) {R:Value→Heap→Prop} {h:Heap} (hm:AG n_0 R h):ab Tryz.prog 150 #[(.int .i64 n_0)] h R:=aq ag Tryz.func150 (.two .n (.scope 0 [(4,(.sc (.int .i64)))] [(2,3),(4,5),(12,23)] [.n,.n,.n] [.n] [])) hm
abbrev FH:FuncId:=151
noncomputable def yo (a_0:Nat×Nat) (b_1:Nat×Nat) (R:Value→Heap→Prop) (h:Heap):Prop:=
 ∃z1:Nat×Nat,(iB Tryz.prog .sub 191 (.tmp 6) (.tmp 7) (.complex .f64 a_0.1 a_0.2) (.complex .f64 b_1.1 b_1.2) (.complex .f64 z1.1 z1.2))∧
 ∃r2:Nat,((FloatKind.format .f64).mul z1.1 z1.1=some r2)∧
 ∃r3:Nat,((FloatKind.format .f64).mul z1.2 z1.2=some r3)∧
 ∃r4:Nat,((FloatKind.format .f64).add r2 r3=some r4)∧
 R (.float .f64 r4) h
theorem D7 (a_0:Nat×Nat) (b_1:Nat×Nat) {R:Value→Heap→Prop} {h:Heap} (hm:yo a_0 b_1 R h):ab Tryz.prog 151 #[(.complex .f64 a_0.1 a_0.2),(.complex .f64 b_1.1 b_1.2)] h R:=aq ag Tryz.func151 .n hm
abbrev fy:FuncId:=152
abbrev iW:FuncId:=153
noncomputable def qF (a_0:Int×Nat) (b_1:Int×Nat) (R:Value→Heap→Prop) (h:Heap):Prop:=
 aK Tryz.prog (Instr.box 198 (.agg #[(.int .i64 a_0.1),(.float .f64 a_0.2)])) h fun a1 h1=>
 aK Tryz.prog (Instr.box 198 (.agg #[(.int .i64 b_1.1),(.float .f64 b_1.2)])) h1 fun a2 h2=>
 ∃x3:Nat,cellOf h2 (a1.add 1)=some (.float .f64 x3)∧
 ∃x4:Nat,cellOf h2 (a2.add 1)=some (.float .f64 x4)∧
 ∃x5:Int,cellOf h2 a1=some (.int .i64 x5)∧
 ∃x6:Int,cellOf h2 a2=some (.int .i64 x6)∧
 af Tryz.prog 154 #[(.float .f64 x3),(.float .f64 x4)] (.one (.sc (.int .i64))) h2 fun r7 h3=>
 (ak.ok [(a2,(.int .i64 x6)),(a1,(.int .i64 x5))] h3)∧
 af Tryz.prog 114 #[(.int .i64 x5),(.int .i64 x6)] (.one (.sc (.int .i64))) h3 fun r8 h4=>
 (ak.ok [] h4)∧
 az Tryz.prog (Instr.buildSlice 22 2 #[(0,(.int .i64 r7)),(1,(.int .i64 r8))]) (.one (.sc .slc)) h4 fun v9 h5=>
 (ak.ok [] h5)∧
 af Tryz.prog 113 #[(.slice v9.ptr v9.len v9.cap)] (.one (.sc (.int .i64))) h5 fun r10 h6=>
 (ak.ok [] h6)∧
 R (.int .i64 r10) h6
theorem xJ (a_0:Int×Nat) (b_1:Int×Nat) {R:Value→Heap→Prop} {h:Heap} (hm:qF a_0 b_1 R h):ab Tryz.prog 153 #[(.agg #[(.int .i64 a_0.1),(.float .f64 a_0.2)]),(.agg #[(.int .i64 b_1.1),(.float .f64 b_1.2)])] h R:=aq ag Tryz.func153 .n hm
abbrev rq:FuncId:=154
noncomputable def lh (x_0:Nat) (y_1:Nat) (R:Value→Heap→Prop) (h:Heap):Prop:=
 af Tryz.prog 186 #[(.float .f64 x_0)] (.one (.sc .bool)) h fun r1 h1=>
 af Tryz.prog 186 #[(.float .f64 y_1)] (.one (.sc .bool)) h1 fun r2 h2=>
 Br r1
 (Br r2
 (R (.int .i64 (0:Int)) h2)
 (R (.int .i64 (-1:Int)) h2))
 (Br r2
 (R (.int .i64 (1:Int)) h2)
 (Br ((FloatKind.format .f64).order x_0 y_1==some .lt)
 (R (.int .i64 (-1:Int)) h2)
 (Br ((FloatKind.format .f64).order x_0 y_1==some .gt)
 (R (.int .i64 (1:Int)) h2)
 (R (.int .i64 (0:Int)) h2))))
theorem qn (x_0:Nat) (y_1:Nat) {R:Value→Heap→Prop} {h:Heap} (hm:lh x_0 y_1 R h):ab Tryz.prog 154 #[(.float .f64 x_0),(.float .f64 y_1)] h R:=aq ag Tryz.func154 .n hm
abbrev Jw:FuncId:=155
noncomputable def Db (p_0:Int×Int×Int) (seed_1:Int) (id_2:Int) (R:Value→Heap→Prop) (h:Heap):Prop:=
 aK Tryz.prog (Instr.box 24 (.agg #[(.int .i64 p_0.1),(.int .i64 p_0.2.1),(.int .i64 p_0.2.2)])) h fun a1 h1=>
 aZ (σ:=Unit) (fun _ h3=>
 ∃x5:Int×Int×Int,ai h3 a1 0 [(.int .i64 x5.1),(.int .i64 x5.2.1),(.int .i64 x5.2.2)]∧
 af Tryz.prog 187 #[(.agg #[(.int .i64 x5.1),(.int .i64 x5.2.1),(.int .i64 x5.2.2)])] (.one (.sc (.int .i64))) h3 fun r6 h4=>
 af Tryz.prog 188 #[(.int .u32 (IntKind.wrap .u32 ((BitVec.ofInt (IntKind.bits .u32) seed_1^^^(BitVec.ofInt (IntKind.bits .u32) (IntKind.wrap .u32 ((IntKind.wrap .u32 id_2)*(2654435761:Int))))).toNat:Nat)))] (.one (.sc .ptr)) h4 fun r7 h5=>
 af Tryz.prog 189 #[(.pointer r7)] (.one (.sc (.int .u32))) h5 fun _ h6=>
 af Tryz.prog 191 #[(.int .i64 r6)] (.one (.sc .slc)) h6 fun r9 h7=>
 af Tryz.prog 190 #[(.slice r9.ptr r9.len r9.cap),(.pointer r7)] (.one (.sc (.int .i64))) h7 fun r10 h8=>
 af Tryz.prog 192 #[(.pointer r7),(.int .i64 r6),(.int .i64 r10)] (.one (.sc .slc)) h8 fun r11 h9=>
 R (.slice r11.ptr r11.len r11.cap) h9)
 (fun K1=>
 ∃x2:Int×Int×Int,ai h1 a1 0 [(.int .i64 x2.1),(.int .i64 x2.2.1),(.int .i64 x2.2.2)]∧
 af Tryz.prog 27 #[(.agg #[(.int .i64 x2.1),(.int .i64 x2.2.1),(.int .i64 x2.2.2)])] (.one (.sc .bool)) h1 fun r3 h2=>
 Br (!r3) (R (.slice none 0 0) h2) (Br (decide (id_2<(0:Int))) (R (.slice none 0 0) h2) (Br (decide (id_2>(65535:Int)))
 (R (.slice none 0 0) h2)
 (K1 () h2))))
theorem Hk (p_0:Int×Int×Int) (seed_1:Int) (id_2:Int) {R:Value→Heap→Prop} {h:Heap} (hm:Db p_0 seed_1 id_2 R h):ab Tryz.prog 155 #[(.agg #[(.int .i64 p_0.1),(.int .i64 p_0.2.1),(.int .i64 p_0.2.2)]),(.int .u32 seed_1),(.int .i64 id_2)] h R:=aq ag Tryz.func155 (.two .n (.two (.join [] [(6,7),(10,21)] .n) .n)) hm
abbrev zf:FuncId:=156
noncomputable def qG (to_0:Sl) (n_1:Int) (size_2:Int) (R:Value→Heap→Prop) (h:Heap):Prop:=
 aO (σ:=Sl×Int) (fun s1 K1 h1=>
 Br (decide (s1.2≥(0:Int)))
 ((0≤(IntKind.wrap .i64 ((8:Int)*s1.2)))∧
 az Tryz.prog (Instr.buildSlice 46 1 #[(0,(.int .u8 (IntKind.wrap .u8 (Int.fdiv n_1 (2^min (IntKind.wrap .i64 ((8:Int)*s1.2)).toNat (IntKind.bits .i64))))))]) (.one (.sc .slc)) h1 fun v2 h2=>
 az Tryz.prog (Builtin.append_ #[46,46] 46 #[(.slice s1.1.ptr s1.1.len s1.1.cap),(.slice v2.ptr v2.len v2.cap)]) (.one (.sc .slc)) h2 fun v3 h3=>
 K1 ((⟨v3.ptr,v3.len,v3.cap⟩:Sl),IntKind.wrap .i64 (s1.2-(1:Int))) h3)
 (R (.slice s1.1.ptr s1.1.len s1.1.cap) h1)) ((⟨to_0.ptr,to_0.len,to_0.cap⟩:Sl),IntKind.wrap .i64 (size_2-(1:Int))) h
theorem xK (to_0:Sl) (n_1:Int) (size_2:Int) {R:Value→Heap→Prop} {h:Heap} (hm:qG to_0 n_1 size_2 R h):ab Tryz.prog 156 #[(.slice to_0.ptr to_0.len to_0.cap),(.int .i64 n_1),(.int .i64 size_2)] h R:=aq ag Tryz.func156 (.two .n (.two (.two .n (.inn (.loop [(0,(.sc .slc)),(7,(.sc (.int .i64)))] [(0,1),(7,8),(10,22)] .n))) .n)) hm
abbrev kp:FuncId:=157
noncomputable def gq (data_0:Sl) (a_1:Int) (b_2:Int) (limit_3:Int) (cmp_4:FuncId×Array Value×Array Value) (R:Value→Heap→Prop) (h:Heap):Prop:=
 aO (σ:=Int×Int×Int×Bool×Bool) (fun s1 K1 h1=>
 Br (decide ((IntKind.wrap .i64 (s1.2.1-s1.1))≤(12:Int)))
 (af Tryz.prog 193 #[(.slice data_0.ptr data_0.len data_0.cap),(.int .i64 s1.1),(.int .i64 s1.2.1),(.func (.func cmp_4.1) cmp_4.2.1 cmp_4.2.2)] (.many []) h1 fun _ h2=>
 R (.tuple #[]) h2)
 (Br (s1.2.2.1==(0:Int))
 (af Tryz.prog 194 #[(.slice data_0.ptr data_0.len data_0.cap),(.int .i64 s1.1),(.int .i64 s1.2.1),(.func (.func cmp_4.1) cmp_4.2.1 cmp_4.2.2)] (.many []) h1 fun _ h3=>
 R (.tuple #[]) h3)
 (aZ (σ:=Int) (fun s5 h5=>
 af Tryz.prog 196 #[(.slice data_0.ptr data_0.len data_0.cap),(.int .i64 s1.1),(.int .i64 s1.2.1),(.func (.func cmp_4.1) cmp_4.2.1 cmp_4.2.2)] (.many [(.sc (.int .i64)),(.sc (.int .i64))]) h5 fun r6 h6=>
 aZ (σ:=Int×Int) (fun s8 h8=>
 aZ (σ:=Unit) (fun _ h10=>
 aZ (σ:=Int) (fun s18 h14=>
 af Tryz.prog 200 #[(.slice data_0.ptr data_0.len data_0.cap),(.int .i64 s18),(.int .i64 s1.2.1),(.int .i64 s8.1),(.func (.func cmp_4.1) cmp_4.2.1 cmp_4.2.2)] (.many [(.sc (.int .i64)),(.sc .bool)]) h14 fun r19 h15=>
 ((8:Int)≠0)∧
 Br (decide ((IntKind.wrap .i64 (r19.1-s18))<(IntKind.wrap .i64 (s1.2.1-r19.1))))
 (af Tryz.prog 157 #[(.slice data_0.ptr data_0.len data_0.cap),(.int .i64 s18),(.int .i64 r19.1),(.int .i64 s5),(.func (.func cmp_4.1) cmp_4.2.1 cmp_4.2.2)] (.many []) h15 fun _ h16=>
 K1 (IntKind.wrap .i64 (r19.1+(1:Int)),s1.2.1,s5,decide ((IntKind.wrap .i64 (r19.1-s18))≥(IntKind.wrap .i64 (Int.tdiv (IntKind.wrap .i64 (s1.2.1-s1.1)) (8:Int)))),r19.2) h16)
 (af Tryz.prog 157 #[(.slice data_0.ptr data_0.len data_0.cap),(.int .i64 (IntKind.wrap .i64 (r19.1+(1:Int)))),(.int .i64 s1.2.1),(.int .i64 s5),(.func (.func cmp_4.1) cmp_4.2.1 cmp_4.2.2)] (.many []) h15 fun _ h17=>
 K1 (s18,r19.1,s5,decide ((IntKind.wrap .i64 (s1.2.1-r19.1))≥(IntKind.wrap .i64 (Int.tdiv (IntKind.wrap .i64 (s1.2.1-s1.1)) (8:Int)))),r19.2) h17))
 (fun K5=>
 aZ (σ:=Bool) (fun s16 h12=>
 Br s16
 (af Tryz.prog 199 #[(.slice data_0.ptr data_0.len data_0.cap),(.int .i64 s1.1),(.int .i64 s1.2.1),(.int .i64 s8.1),(.func (.func cmp_4.1) cmp_4.2.1 cmp_4.2.2)] (.one (.sc (.int .i64))) h12 fun r17 h13=>
 K1 (r17,s1.2.1,s5,s1.2.2.2.1,s1.2.2.2.2) h13)
 (K5 s1.1 h12))
 (fun K6=>
 Br (decide (s1.1>(0:Int))) (∃a11:Addr,(data_0.ptr=some a11∧0≤(IntKind.wrap .i64 (s1.1-(1:Int)))∧(IntKind.wrap .i64 (s1.1-(1:Int)))<((data_0.len:Nat):Int))∧
 ∃x12:ByteArray×Int×Int×Sl,ai h10 (a11.add ((IntKind.wrap .i64 (s1.1-(1:Int))).toNat*4)) 0 [(.string x12.1),(.int .i64 x12.2.1),(.int .i64 x12.2.2.1),(.slice x12.2.2.2.ptr x12.2.2.2.len x12.2.2.2.cap)]∧
 ∃a13:Addr,(data_0.ptr=some a13∧0≤s8.1∧s8.1<((data_0.len:Nat):Int))∧
 ∃x14:ByteArray×Int×Int×Sl,ai h10 (a13.add (s8.1.toNat*4)) 0 [(.string x14.1),(.int .i64 x14.2.1),(.int .i64 x14.2.2.1),(.slice x14.2.2.2.ptr x14.2.2.2.len x14.2.2.2.cap)]∧
 fI C cmp_4.1 (cmp_4.2.1.toList++[(.agg #[(.string x12.1),(.int .i64 x12.2.1),(.int .i64 x12.2.2.1),(.slice x12.2.2.2.ptr x12.2.2.2.len x12.2.2.2.cap)]),(.agg #[(.string x14.1),(.int .i64 x14.2.1),(.int .i64 x14.2.2.1),(.slice x14.2.2.2.ptr x14.2.2.2.len x14.2.2.2.cap)])]++cmp_4.2.2.toList) (.one (.sc (.int .i64))) h10 fun r15 h11=>
 (ak.ok [] h11)∧
 K6 (!(decide (r15<(0:Int)))) h11) ((ak.ok [] h10)∧
 K6 false h10))))
 (fun K4=>
 Br s1.2.2.2.1 (Br s1.2.2.2.2 (Br (s8.2==(1:Int))
 (af Tryz.prog 198 #[(.slice data_0.ptr data_0.len data_0.cap),(.int .i64 s1.1),(.int .i64 s1.2.1),(.func (.func cmp_4.1) cmp_4.2.1 cmp_4.2.2)] (.one (.sc .bool)) h8 fun r9 h9=>
 Br r9
 (R (.tuple #[]) h9)
 (K4 () h9))
 (K4 () h8)) (K4 () h8)) (K4 () h8)))
 (fun K3=>
 Br (r6.2==(2:Int))
 (af Tryz.prog 197 #[(.slice data_0.ptr data_0.len data_0.cap),(.int .i64 s1.1),(.int .i64 s1.2.1),(.func (.func cmp_4.1) cmp_4.2.1 cmp_4.2.2)] (.many []) h6 fun _ h7=>
 K3 (IntKind.wrap .i64 ((IntKind.wrap .i64 (s1.2.1-(1:Int)))-(IntKind.wrap .i64 (r6.1-s1.1))),(1:Int)) h7)
 (K3 (r6.1,r6.2) h6)))
 (fun K2=>
 Br (!s1.2.2.2.1)
 (af Tryz.prog 195 #[(.slice data_0.ptr data_0.len data_0.cap),(.int .i64 s1.1),(.int .i64 s1.2.1),(.func (.func cmp_4.1) cmp_4.2.1 cmp_4.2.2)] (.many []) h1 fun _ h4=>
 K2 (IntKind.wrap .i64 (s1.2.2.1-(1:Int))) h4)
 (K2 s1.2.2.1 h1))))) (a_1,b_2,limit_3,true,true) h
theorem j7 (data_0:Sl) (a_1:Int) (b_2:Int) (limit_3:Int) (cmp_4:FuncId×Array Value×Array Value) {R:Value→Heap→Prop} {h:Heap} (hm:gq data_0 a_1 b_2 limit_3 cmp_4 R h):ab Tryz.prog 157 #[(.slice data_0.ptr data_0.len data_0.cap),(.int .i64 a_1),(.int .i64 b_2),(.int .i64 limit_3),(.func (.func cmp_4.1) cmp_4.2.1 cmp_4.2.2)] h R:=aq ag Tryz.func157 (.two .n (.two .n (.inn (.loop [(1,(.sc (.int .i64))),(2,(.sc (.int .i64))),(3,(.sc (.int .i64))),(10,(.sc .bool)),(11,(.sc .bool))] [(1,4),(10,148)] (.inn (.two .n (.two .n (.two .n (.two (.join [(3,(.sc (.int .i64)))] [(3,4),(38,47)] .n) (.two .n (.two (.join [(13,(.sc (.int .i64))),(14,(.sc (.int .i64)))] [(13,15),(55,68)] .n) (.two (.join [] [(68,81)] .n) (.two (.join [(1,(.sc (.int .i64)))] [(1,2),(15,16),(81,105)] (.two (.join [(97,(.sc .bool))] [(81,98)] .n) .n)) .n))))))))))))) hm
abbrev vg:FuncId:=158
noncomputable def nN (x_0:ByteArray) (R:Value→Heap→Prop) (h:Heap):Prop:=
 R (.bool (!(x_0.toList==x_0.toList))) h
theorem tI (x_0:ByteArray) {R:Value→Heap→Prop} {h:Heap} (hm:nN x_0 R h):ab Tryz.prog 158 #[(.string x_0)] h R:=aq ag Tryz.func158 .n hm
abbrev iM:FuncId:=159
noncomputable def fg (data_0:Sl) (a_1:Int) (b_2:Int) (cmp_3:FuncId×Array Value×Array Value) (R:Value→Heap→Prop) (h:Heap):Prop:=
 aO (σ:=Int) (fun s1 K1 h1=>
 Br (decide (s1<b_2))
 (aO (σ:=Int) (fun s2 K2 h2=>
 aZ (σ:=Unit) (fun _ h4=>
 ∃a9:Addr,(data_0.ptr=some a9∧0≤(IntKind.wrap .i64 (s2-(1:Int)))∧(IntKind.wrap .i64 (s2-(1:Int)))<((data_0.len:Nat):Int))∧
 ∃x10:Int×Int×Int×Int×Int×Int×Int×Sl,ai h4 (a9.add ((IntKind.wrap .i64 (s2-(1:Int))).toNat*8)) 0 [(.int .i64 x10.1),(.int .i64 x10.2.1),(.int .i64 x10.2.2.1),(.int .i64 x10.2.2.2.1),(.int .i64 x10.2.2.2.2.1),(.int .i64 x10.2.2.2.2.2.1),(.int .u32 x10.2.2.2.2.2.2.1),(.slice x10.2.2.2.2.2.2.2.ptr x10.2.2.2.2.2.2.2.len x10.2.2.2.2.2.2.2.cap)]∧
 ∃a11:Addr,(data_0.ptr=some a11∧0≤s2∧s2<((data_0.len:Nat):Int))∧
 ∃x12:Int×Int×Int×Int×Int×Int×Int×Sl,ai h4 (a11.add (s2.toNat*8)) 0 [(.int .i64 x12.1),(.int .i64 x12.2.1),(.int .i64 x12.2.2.1),(.int .i64 x12.2.2.2.1),(.int .i64 x12.2.2.2.2.1),(.int .i64 x12.2.2.2.2.2.1),(.int .u32 x12.2.2.2.2.2.2.1),(.slice x12.2.2.2.2.2.2.2.ptr x12.2.2.2.2.2.2.2.len x12.2.2.2.2.2.2.2.cap)]∧
 ∃a13:Addr,(data_0.ptr=some a13∧0≤s2∧s2<((data_0.len:Nat):Int))∧
 ae Tryz.prog (Instr.storeAt 103 (.pointer (some (a13.add (s2.toNat*8)))) (.agg #[(.int .i64 x10.1),(.int .i64 x10.2.1),(.int .i64 x10.2.2.1),(.int .i64 x10.2.2.2.1),(.int .i64 x10.2.2.2.2.1),(.int .i64 x10.2.2.2.2.2.1),(.int .u32 x10.2.2.2.2.2.2.1),(.slice x10.2.2.2.2.2.2.2.ptr x10.2.2.2.2.2.2.2.len x10.2.2.2.2.2.2.2.cap)])) h4 fun _ h5=>
 (ak.ok [] h5)∧
 ∃a14:Addr,(data_0.ptr=some a14∧0≤(IntKind.wrap .i64 (s2-(1:Int)))∧(IntKind.wrap .i64 (s2-(1:Int)))<((data_0.len:Nat):Int))∧
 ae Tryz.prog (Instr.storeAt 103 (.pointer (some (a14.add ((IntKind.wrap .i64 (s2-(1:Int))).toNat*8)))) (.agg #[(.int .i64 x12.1),(.int .i64 x12.2.1),(.int .i64 x12.2.2.1),(.int .i64 x12.2.2.2.1),(.int .i64 x12.2.2.2.2.1),(.int .i64 x12.2.2.2.2.2.1),(.int .u32 x12.2.2.2.2.2.2.1),(.slice x12.2.2.2.2.2.2.2.ptr x12.2.2.2.2.2.2.2.len x12.2.2.2.2.2.2.2.cap)])) h5 fun _ h6=>
 (ak.ok [] h6)∧
 K2 (IntKind.wrap .i64 (s2-(1:Int))) h6)
 (fun K3=>
 Br (decide (s2>a_1)) (∃a3:Addr,(data_0.ptr=some a3∧0≤s2∧s2<((data_0.len:Nat):Int))∧
 ∃x4:Int×Int×Int×Int×Int×Int×Int×Sl,ai h2 (a3.add (s2.toNat*8)) 0 [(.int .i64 x4.1),(.int .i64 x4.2.1),(.int .i64 x4.2.2.1),(.int .i64 x4.2.2.2.1),(.int .i64 x4.2.2.2.2.1),(.int .i64 x4.2.2.2.2.2.1),(.int .u32 x4.2.2.2.2.2.2.1),(.slice x4.2.2.2.2.2.2.2.ptr x4.2.2.2.2.2.2.2.len x4.2.2.2.2.2.2.2.cap)]∧
 ∃a5:Addr,(data_0.ptr=some a5∧0≤(IntKind.wrap .i64 (s2-(1:Int)))∧(IntKind.wrap .i64 (s2-(1:Int)))<((data_0.len:Nat):Int))∧
 ∃x6:Int×Int×Int×Int×Int×Int×Int×Sl,ai h2 (a5.add ((IntKind.wrap .i64 (s2-(1:Int))).toNat*8)) 0 [(.int .i64 x6.1),(.int .i64 x6.2.1),(.int .i64 x6.2.2.1),(.int .i64 x6.2.2.2.1),(.int .i64 x6.2.2.2.2.1),(.int .i64 x6.2.2.2.2.2.1),(.int .u32 x6.2.2.2.2.2.2.1),(.slice x6.2.2.2.2.2.2.2.ptr x6.2.2.2.2.2.2.2.len x6.2.2.2.2.2.2.2.cap)]∧
 fI C cmp_3.1 (cmp_3.2.1.toList++[(.agg #[(.int .i64 x4.1),(.int .i64 x4.2.1),(.int .i64 x4.2.2.1),(.int .i64 x4.2.2.2.1),(.int .i64 x4.2.2.2.2.1),(.int .i64 x4.2.2.2.2.2.1),(.int .u32 x4.2.2.2.2.2.2.1),(.slice x4.2.2.2.2.2.2.2.ptr x4.2.2.2.2.2.2.2.len x4.2.2.2.2.2.2.2.cap)]),(.agg #[(.int .i64 x6.1),(.int .i64 x6.2.1),(.int .i64 x6.2.2.1),(.int .i64 x6.2.2.2.1),(.int .i64 x6.2.2.2.2.1),(.int .i64 x6.2.2.2.2.2.1),(.int .u32 x6.2.2.2.2.2.2.1),(.slice x6.2.2.2.2.2.2.2.ptr x6.2.2.2.2.2.2.2.len x6.2.2.2.2.2.2.2.cap)])]++cmp_3.2.2.toList) (.one (.sc (.int .i64))) h2 fun r7 h3=>
 (ak.ok [] h3)∧
 Br (decide (r7<(0:Int)))
 (K3 () h3)
 (K1 (IntKind.wrap .i64 (s1+(1:Int))) h3)) ((ak.ok [] h2)∧
 K1 (IntKind.wrap .i64 (s1+(1:Int))) h2))) s1 h1)
 (R (.tuple #[]) h1)) (IntKind.wrap .i64 (a_1+(1:Int))) h
theorem iG (data_0:Sl) (a_1:Int) (b_2:Int) (cmp_3:FuncId×Array Value×Array Value) {R:Value→Heap→Prop} {h:Heap} (hm:fg data_0 a_1 b_2 cmp_3 R h):ab Tryz.prog 159 #[(.slice data_0.ptr data_0.len data_0.cap),(.int .i64 a_1),(.int .i64 b_2),(.func (.func cmp_3.1) cmp_3.2.1 cmp_3.2.2)] h R:=aq ag Tryz.func159 (.two .n (.inn (.loop [(8,(.sc (.int .i64)))] [(8,10),(12,53)] (.two .n (.two (.inn (.two .n (.inn (.loop [(9,(.sc (.int .i64)))] [(9,10),(18,53)] (.two (.join [] [(18,35)] .n) .n))))) .n))))) hm
abbrev jX:FuncId:=160
noncomputable def fP (data_0:Sl) (a_1:Int) (m_2:Int) (b_3:Int) (cmp_4:FuncId×Array Value×Array Value) (R:Value→Heap→Prop) (h:Heap):Prop:=
 Br ((IntKind.wrap .i64 (m_2-a_1))==(1:Int))
 (aO (σ:=Int×Int) (fun s1 K1 h1=>
 Br (decide (s1.1<s1.2))
 ((0≤(1:Int))∧
 ∃a2:Addr,(data_0.ptr=some a2∧0≤(IntKind.wrap .i64 (Int.fdiv (IntKind.wrap .u64 (IntKind.wrap .i64 (s1.1+s1.2))) (2^min (1:Int).toNat (IntKind.bits .u64))))∧(IntKind.wrap .i64 (Int.fdiv (IntKind.wrap .u64 (IntKind.wrap .i64 (s1.1+s1.2))) (2^min (1:Int).toNat (IntKind.bits .u64))))<((data_0.len:Nat):Int))∧
 ∃x3:Int×Int×Int×Int×Int×Int×Int×Sl,ai h1 (a2.add ((IntKind.wrap .i64 (Int.fdiv (IntKind.wrap .u64 (IntKind.wrap .i64 (s1.1+s1.2))) (2^min (1:Int).toNat (IntKind.bits .u64)))).toNat*8)) 0 [(.int .i64 x3.1),(.int .i64 x3.2.1),(.int .i64 x3.2.2.1),(.int .i64 x3.2.2.2.1),(.int .i64 x3.2.2.2.2.1),(.int .i64 x3.2.2.2.2.2.1),(.int .u32 x3.2.2.2.2.2.2.1),(.slice x3.2.2.2.2.2.2.2.ptr x3.2.2.2.2.2.2.2.len x3.2.2.2.2.2.2.2.cap)]∧
 ∃a4:Addr,(data_0.ptr=some a4∧0≤a_1∧a_1<((data_0.len:Nat):Int))∧
 ∃x5:Int×Int×Int×Int×Int×Int×Int×Sl,ai h1 (a4.add (a_1.toNat*8)) 0 [(.int .i64 x5.1),(.int .i64 x5.2.1),(.int .i64 x5.2.2.1),(.int .i64 x5.2.2.2.1),(.int .i64 x5.2.2.2.2.1),(.int .i64 x5.2.2.2.2.2.1),(.int .u32 x5.2.2.2.2.2.2.1),(.slice x5.2.2.2.2.2.2.2.ptr x5.2.2.2.2.2.2.2.len x5.2.2.2.2.2.2.2.cap)]∧
 fI C cmp_4.1 (cmp_4.2.1.toList++[(.agg #[(.int .i64 x3.1),(.int .i64 x3.2.1),(.int .i64 x3.2.2.1),(.int .i64 x3.2.2.2.1),(.int .i64 x3.2.2.2.2.1),(.int .i64 x3.2.2.2.2.2.1),(.int .u32 x3.2.2.2.2.2.2.1),(.slice x3.2.2.2.2.2.2.2.ptr x3.2.2.2.2.2.2.2.len x3.2.2.2.2.2.2.2.cap)]),(.agg #[(.int .i64 x5.1),(.int .i64 x5.2.1),(.int .i64 x5.2.2.1),(.int .i64 x5.2.2.2.1),(.int .i64 x5.2.2.2.2.1),(.int .i64 x5.2.2.2.2.2.1),(.int .u32 x5.2.2.2.2.2.2.1),(.slice x5.2.2.2.2.2.2.2.ptr x5.2.2.2.2.2.2.2.len x5.2.2.2.2.2.2.2.cap)])]++cmp_4.2.2.toList) (.one (.sc (.int .i64))) h1 fun r6 h2=>
 (ak.ok [] h2)∧
 Br (decide (r6<(0:Int)))
 (K1 (IntKind.wrap .i64 ((IntKind.wrap .i64 (Int.fdiv (IntKind.wrap .u64 (IntKind.wrap .i64 (s1.1+s1.2))) (2^min (1:Int).toNat (IntKind.bits .u64))))+(1:Int)),s1.2) h2)
 (K1 (s1.1,IntKind.wrap .i64 (Int.fdiv (IntKind.wrap .u64 (IntKind.wrap .i64 (s1.1+s1.2))) (2^min (1:Int).toNat (IntKind.bits .u64)))) h2))
 (aO (σ:=Int) (fun s7 K2 h3=>
 Br (decide (s7<(IntKind.wrap .i64 (s1.1-(1:Int)))))
 (∃a8:Addr,(data_0.ptr=some a8∧0≤(IntKind.wrap .i64 (s7+(1:Int)))∧(IntKind.wrap .i64 (s7+(1:Int)))<((data_0.len:Nat):Int))∧
 ∃x9:Int×Int×Int×Int×Int×Int×Int×Sl,ai h3 (a8.add ((IntKind.wrap .i64 (s7+(1:Int))).toNat*8)) 0 [(.int .i64 x9.1),(.int .i64 x9.2.1),(.int .i64 x9.2.2.1),(.int .i64 x9.2.2.2.1),(.int .i64 x9.2.2.2.2.1),(.int .i64 x9.2.2.2.2.2.1),(.int .u32 x9.2.2.2.2.2.2.1),(.slice x9.2.2.2.2.2.2.2.ptr x9.2.2.2.2.2.2.2.len x9.2.2.2.2.2.2.2.cap)]∧
 ∃a10:Addr,(data_0.ptr=some a10∧0≤s7∧s7<((data_0.len:Nat):Int))∧
 ∃x11:Int×Int×Int×Int×Int×Int×Int×Sl,ai h3 (a10.add (s7.toNat*8)) 0 [(.int .i64 x11.1),(.int .i64 x11.2.1),(.int .i64 x11.2.2.1),(.int .i64 x11.2.2.2.1),(.int .i64 x11.2.2.2.2.1),(.int .i64 x11.2.2.2.2.2.1),(.int .u32 x11.2.2.2.2.2.2.1),(.slice x11.2.2.2.2.2.2.2.ptr x11.2.2.2.2.2.2.2.len x11.2.2.2.2.2.2.2.cap)]∧
 ∃a12:Addr,(data_0.ptr=some a12∧0≤s7∧s7<((data_0.len:Nat):Int))∧
 ae Tryz.prog (Instr.storeAt 103 (.pointer (some (a12.add (s7.toNat*8)))) (.agg #[(.int .i64 x9.1),(.int .i64 x9.2.1),(.int .i64 x9.2.2.1),(.int .i64 x9.2.2.2.1),(.int .i64 x9.2.2.2.2.1),(.int .i64 x9.2.2.2.2.2.1),(.int .u32 x9.2.2.2.2.2.2.1),(.slice x9.2.2.2.2.2.2.2.ptr x9.2.2.2.2.2.2.2.len x9.2.2.2.2.2.2.2.cap)])) h3 fun _ h4=>
 (ak.ok [] h4)∧
 ∃a13:Addr,(data_0.ptr=some a13∧0≤(IntKind.wrap .i64 (s7+(1:Int)))∧(IntKind.wrap .i64 (s7+(1:Int)))<((data_0.len:Nat):Int))∧
 ae Tryz.prog (Instr.storeAt 103 (.pointer (some (a13.add ((IntKind.wrap .i64 (s7+(1:Int))).toNat*8)))) (.agg #[(.int .i64 x11.1),(.int .i64 x11.2.1),(.int .i64 x11.2.2.1),(.int .i64 x11.2.2.2.1),(.int .i64 x11.2.2.2.2.1),(.int .i64 x11.2.2.2.2.2.1),(.int .u32 x11.2.2.2.2.2.2.1),(.slice x11.2.2.2.2.2.2.2.ptr x11.2.2.2.2.2.2.2.len x11.2.2.2.2.2.2.2.cap)])) h4 fun _ h5=>
 (ak.ok [] h5)∧
 K2 (IntKind.wrap .i64 (s7+(1:Int))) h5)
 (R (.tuple #[]) h3)) a_1 h1)) (m_2,b_3) h)
 (Br ((IntKind.wrap .i64 (b_3-m_2))==(1:Int))
 (aO (σ:=Int×Int) (fun s14 K3 h6=>
 Br (decide (s14.1<s14.2))
 ((0≤(1:Int))∧
 ∃a15:Addr,(data_0.ptr=some a15∧0≤m_2∧m_2<((data_0.len:Nat):Int))∧
 ∃x16:Int×Int×Int×Int×Int×Int×Int×Sl,ai h6 (a15.add (m_2.toNat*8)) 0 [(.int .i64 x16.1),(.int .i64 x16.2.1),(.int .i64 x16.2.2.1),(.int .i64 x16.2.2.2.1),(.int .i64 x16.2.2.2.2.1),(.int .i64 x16.2.2.2.2.2.1),(.int .u32 x16.2.2.2.2.2.2.1),(.slice x16.2.2.2.2.2.2.2.ptr x16.2.2.2.2.2.2.2.len x16.2.2.2.2.2.2.2.cap)]∧
 ∃a17:Addr,(data_0.ptr=some a17∧0≤(IntKind.wrap .i64 (Int.fdiv (IntKind.wrap .u64 (IntKind.wrap .i64 (s14.1+s14.2))) (2^min (1:Int).toNat (IntKind.bits .u64))))∧(IntKind.wrap .i64 (Int.fdiv (IntKind.wrap .u64 (IntKind.wrap .i64 (s14.1+s14.2))) (2^min (1:Int).toNat (IntKind.bits .u64))))<((data_0.len:Nat):Int))∧
 ∃x18:Int×Int×Int×Int×Int×Int×Int×Sl,ai h6 (a17.add ((IntKind.wrap .i64 (Int.fdiv (IntKind.wrap .u64 (IntKind.wrap .i64 (s14.1+s14.2))) (2^min (1:Int).toNat (IntKind.bits .u64)))).toNat*8)) 0 [(.int .i64 x18.1),(.int .i64 x18.2.1),(.int .i64 x18.2.2.1),(.int .i64 x18.2.2.2.1),(.int .i64 x18.2.2.2.2.1),(.int .i64 x18.2.2.2.2.2.1),(.int .u32 x18.2.2.2.2.2.2.1),(.slice x18.2.2.2.2.2.2.2.ptr x18.2.2.2.2.2.2.2.len x18.2.2.2.2.2.2.2.cap)]∧
 fI C cmp_4.1 (cmp_4.2.1.toList++[(.agg #[(.int .i64 x16.1),(.int .i64 x16.2.1),(.int .i64 x16.2.2.1),(.int .i64 x16.2.2.2.1),(.int .i64 x16.2.2.2.2.1),(.int .i64 x16.2.2.2.2.2.1),(.int .u32 x16.2.2.2.2.2.2.1),(.slice x16.2.2.2.2.2.2.2.ptr x16.2.2.2.2.2.2.2.len x16.2.2.2.2.2.2.2.cap)]),(.agg #[(.int .i64 x18.1),(.int .i64 x18.2.1),(.int .i64 x18.2.2.1),(.int .i64 x18.2.2.2.1),(.int .i64 x18.2.2.2.2.1),(.int .i64 x18.2.2.2.2.2.1),(.int .u32 x18.2.2.2.2.2.2.1),(.slice x18.2.2.2.2.2.2.2.ptr x18.2.2.2.2.2.2.2.len x18.2.2.2.2.2.2.2.cap)])]++cmp_4.2.2.toList) (.one (.sc (.int .i64))) h6 fun r19 h7=>
 (ak.ok [] h7)∧
 Br (!(decide (r19<(0:Int))))
 (K3 (IntKind.wrap .i64 ((IntKind.wrap .i64 (Int.fdiv (IntKind.wrap .u64 (IntKind.wrap .i64 (s14.1+s14.2))) (2^min (1:Int).toNat (IntKind.bits .u64))))+(1:Int)),s14.2) h7)
 (K3 (s14.1,IntKind.wrap .i64 (Int.fdiv (IntKind.wrap .u64 (IntKind.wrap .i64 (s14.1+s14.2))) (2^min (1:Int).toNat (IntKind.bits .u64)))) h7))
 (aO (σ:=Int) (fun s20 K4 h8=>
 Br (decide (s20>s14.1))
 (∃a21:Addr,(data_0.ptr=some a21∧0≤(IntKind.wrap .i64 (s20-(1:Int)))∧(IntKind.wrap .i64 (s20-(1:Int)))<((data_0.len:Nat):Int))∧
 ∃x22:Int×Int×Int×Int×Int×Int×Int×Sl,ai h8 (a21.add ((IntKind.wrap .i64 (s20-(1:Int))).toNat*8)) 0 [(.int .i64 x22.1),(.int .i64 x22.2.1),(.int .i64 x22.2.2.1),(.int .i64 x22.2.2.2.1),(.int .i64 x22.2.2.2.2.1),(.int .i64 x22.2.2.2.2.2.1),(.int .u32 x22.2.2.2.2.2.2.1),(.slice x22.2.2.2.2.2.2.2.ptr x22.2.2.2.2.2.2.2.len x22.2.2.2.2.2.2.2.cap)]∧
 ∃a23:Addr,(data_0.ptr=some a23∧0≤s20∧s20<((data_0.len:Nat):Int))∧
 ∃x24:Int×Int×Int×Int×Int×Int×Int×Sl,ai h8 (a23.add (s20.toNat*8)) 0 [(.int .i64 x24.1),(.int .i64 x24.2.1),(.int .i64 x24.2.2.1),(.int .i64 x24.2.2.2.1),(.int .i64 x24.2.2.2.2.1),(.int .i64 x24.2.2.2.2.2.1),(.int .u32 x24.2.2.2.2.2.2.1),(.slice x24.2.2.2.2.2.2.2.ptr x24.2.2.2.2.2.2.2.len x24.2.2.2.2.2.2.2.cap)]∧
 ∃a25:Addr,(data_0.ptr=some a25∧0≤s20∧s20<((data_0.len:Nat):Int))∧
 ae Tryz.prog (Instr.storeAt 103 (.pointer (some (a25.add (s20.toNat*8)))) (.agg #[(.int .i64 x22.1),(.int .i64 x22.2.1),(.int .i64 x22.2.2.1),(.int .i64 x22.2.2.2.1),(.int .i64 x22.2.2.2.2.1),(.int .i64 x22.2.2.2.2.2.1),(.int .u32 x22.2.2.2.2.2.2.1),(.slice x22.2.2.2.2.2.2.2.ptr x22.2.2.2.2.2.2.2.len x22.2.2.2.2.2.2.2.cap)])) h8 fun _ h9=>
 (ak.ok [] h9)∧
 ∃a26:Addr,(data_0.ptr=some a26∧0≤(IntKind.wrap .i64 (s20-(1:Int)))∧(IntKind.wrap .i64 (s20-(1:Int)))<((data_0.len:Nat):Int))∧
 ae Tryz.prog (Instr.storeAt 103 (.pointer (some (a26.add ((IntKind.wrap .i64 (s20-(1:Int))).toNat*8)))) (.agg #[(.int .i64 x24.1),(.int .i64 x24.2.1),(.int .i64 x24.2.2.1),(.int .i64 x24.2.2.2.1),(.int .i64 x24.2.2.2.2.1),(.int .i64 x24.2.2.2.2.2.1),(.int .u32 x24.2.2.2.2.2.2.1),(.slice x24.2.2.2.2.2.2.2.ptr x24.2.2.2.2.2.2.2.len x24.2.2.2.2.2.2.2.cap)])) h9 fun _ h10=>
 (ak.ok [] h10)∧
 K4 (IntKind.wrap .i64 (s20-(1:Int))) h10)
 (R (.tuple #[]) h8)) m_2 h6)) (a_1,m_2) h)
 ((0≤(1:Int))∧
 aZ (σ:=Int×Int) (fun s27 h11=>
 aO (σ:=Int×Int) (fun s28 K6 h12=>
 Br (decide (s28.1<s28.2))
 ((0≤(1:Int))∧
 ∃a29:Addr,(data_0.ptr=some a29∧0≤(IntKind.wrap .i64 ((IntKind.wrap .i64 ((IntKind.wrap .i64 ((IntKind.wrap .i64 (Int.fdiv (IntKind.wrap .u64 (IntKind.wrap .i64 (a_1+b_3))) (2^min (1:Int).toNat (IntKind.bits .u64))))+m_2))-(1:Int)))-(IntKind.wrap .i64 (Int.fdiv (IntKind.wrap .u64 (IntKind.wrap .i64 (s28.1+s28.2))) (2^min (1:Int).toNat (IntKind.bits .u64))))))∧(IntKind.wrap .i64 ((IntKind.wrap .i64 ((IntKind.wrap .i64 ((IntKind.wrap .i64 (Int.fdiv (IntKind.wrap .u64 (IntKind.wrap .i64 (a_1+b_3))) (2^min (1:Int).toNat (IntKind.bits .u64))))+m_2))-(1:Int)))-(IntKind.wrap .i64 (Int.fdiv (IntKind.wrap .u64 (IntKind.wrap .i64 (s28.1+s28.2))) (2^min (1:Int).toNat (IntKind.bits .u64))))))<((data_0.len:Nat):Int))∧
 ∃x30:Int×Int×Int×Int×Int×Int×Int×Sl,ai h12 (a29.add ((IntKind.wrap .i64 ((IntKind.wrap .i64 ((IntKind.wrap .i64 ((IntKind.wrap .i64 (Int.fdiv (IntKind.wrap .u64 (IntKind.wrap .i64 (a_1+b_3))) (2^min (1:Int).toNat (IntKind.bits .u64))))+m_2))-(1:Int)))-(IntKind.wrap .i64 (Int.fdiv (IntKind.wrap .u64 (IntKind.wrap .i64 (s28.1+s28.2))) (2^min (1:Int).toNat (IntKind.bits .u64)))))).toNat*8)) 0 [(.int .i64 x30.1),(.int .i64 x30.2.1),(.int .i64 x30.2.2.1),(.int .i64 x30.2.2.2.1),(.int .i64 x30.2.2.2.2.1),(.int .i64 x30.2.2.2.2.2.1),(.int .u32 x30.2.2.2.2.2.2.1),(.slice x30.2.2.2.2.2.2.2.ptr x30.2.2.2.2.2.2.2.len x30.2.2.2.2.2.2.2.cap)]∧
 ∃a31:Addr,(data_0.ptr=some a31∧0≤(IntKind.wrap .i64 (Int.fdiv (IntKind.wrap .u64 (IntKind.wrap .i64 (s28.1+s28.2))) (2^min (1:Int).toNat (IntKind.bits .u64))))∧(IntKind.wrap .i64 (Int.fdiv (IntKind.wrap .u64 (IntKind.wrap .i64 (s28.1+s28.2))) (2^min (1:Int).toNat (IntKind.bits .u64))))<((data_0.len:Nat):Int))∧
 ∃x32:Int×Int×Int×Int×Int×Int×Int×Sl,ai h12 (a31.add ((IntKind.wrap .i64 (Int.fdiv (IntKind.wrap .u64 (IntKind.wrap .i64 (s28.1+s28.2))) (2^min (1:Int).toNat (IntKind.bits .u64)))).toNat*8)) 0 [(.int .i64 x32.1),(.int .i64 x32.2.1),(.int .i64 x32.2.2.1),(.int .i64 x32.2.2.2.1),(.int .i64 x32.2.2.2.2.1),(.int .i64 x32.2.2.2.2.2.1),(.int .u32 x32.2.2.2.2.2.2.1),(.slice x32.2.2.2.2.2.2.2.ptr x32.2.2.2.2.2.2.2.len x32.2.2.2.2.2.2.2.cap)]∧
 fI C cmp_4.1 (cmp_4.2.1.toList++[(.agg #[(.int .i64 x30.1),(.int .i64 x30.2.1),(.int .i64 x30.2.2.1),(.int .i64 x30.2.2.2.1),(.int .i64 x30.2.2.2.2.1),(.int .i64 x30.2.2.2.2.2.1),(.int .u32 x30.2.2.2.2.2.2.1),(.slice x30.2.2.2.2.2.2.2.ptr x30.2.2.2.2.2.2.2.len x30.2.2.2.2.2.2.2.cap)]),(.agg #[(.int .i64 x32.1),(.int .i64 x32.2.1),(.int .i64 x32.2.2.1),(.int .i64 x32.2.2.2.1),(.int .i64 x32.2.2.2.2.1),(.int .i64 x32.2.2.2.2.2.1),(.int .u32 x32.2.2.2.2.2.2.1),(.slice x32.2.2.2.2.2.2.2.ptr x32.2.2.2.2.2.2.2.len x32.2.2.2.2.2.2.2.cap)])]++cmp_4.2.2.toList) (.one (.sc (.int .i64))) h12 fun r33 h13=>
 (ak.ok [] h13)∧
 Br (!(decide (r33<(0:Int))))
 (K6 (IntKind.wrap .i64 ((IntKind.wrap .i64 (Int.fdiv (IntKind.wrap .u64 (IntKind.wrap .i64 (s28.1+s28.2))) (2^min (1:Int).toNat (IntKind.bits .u64))))+(1:Int)),s28.2) h13)
 (K6 (s28.1,IntKind.wrap .i64 (Int.fdiv (IntKind.wrap .u64 (IntKind.wrap .i64 (s28.1+s28.2))) (2^min (1:Int).toNat (IntKind.bits .u64)))) h13))
 (aZ (σ:=Unit) (fun _ h15=>
 aZ (σ:=Unit) (fun _ h17=>
 Br (decide ((IntKind.wrap .i64 (Int.fdiv (IntKind.wrap .u64 (IntKind.wrap .i64 (a_1+b_3))) (2^min (1:Int).toNat (IntKind.bits .u64))))<(IntKind.wrap .i64 ((IntKind.wrap .i64 ((IntKind.wrap .i64 (Int.fdiv (IntKind.wrap .u64 (IntKind.wrap .i64 (a_1+b_3))) (2^min (1:Int).toNat (IntKind.bits .u64))))+m_2))-s28.1)))) (Br (decide ((IntKind.wrap .i64 ((IntKind.wrap .i64 ((IntKind.wrap .i64 (Int.fdiv (IntKind.wrap .u64 (IntKind.wrap .i64 (a_1+b_3))) (2^min (1:Int).toNat (IntKind.bits .u64))))+m_2))-s28.1))<b_3))
 (af Tryz.prog 160 #[(.slice data_0.ptr data_0.len data_0.cap),(.int .i64 (IntKind.wrap .i64 (Int.fdiv (IntKind.wrap .u64 (IntKind.wrap .i64 (a_1+b_3))) (2^min (1:Int).toNat (IntKind.bits .u64))))),(.int .i64 (IntKind.wrap .i64 ((IntKind.wrap .i64 ((IntKind.wrap .i64 (Int.fdiv (IntKind.wrap .u64 (IntKind.wrap .i64 (a_1+b_3))) (2^min (1:Int).toNat (IntKind.bits .u64))))+m_2))-s28.1))),(.int .i64 b_3),(.func (.func cmp_4.1) cmp_4.2.1 cmp_4.2.2)] (.many []) h17 fun _ h18=>
 R (.tuple #[]) h18)
 (R (.tuple #[]) h17)) (R (.tuple #[]) h17))
 (fun K8=>
 Br (decide (a_1<s28.1)) (Br (decide (s28.1<(IntKind.wrap .i64 (Int.fdiv (IntKind.wrap .u64 (IntKind.wrap .i64 (a_1+b_3))) (2^min (1:Int).toNat (IntKind.bits .u64))))))
 (af Tryz.prog 160 #[(.slice data_0.ptr data_0.len data_0.cap),(.int .i64 a_1),(.int .i64 s28.1),(.int .i64 (IntKind.wrap .i64 (Int.fdiv (IntKind.wrap .u64 (IntKind.wrap .i64 (a_1+b_3))) (2^min (1:Int).toNat (IntKind.bits .u64))))),(.func (.func cmp_4.1) cmp_4.2.1 cmp_4.2.2)] (.many []) h15 fun _ h16=>
 K8 () h16)
 (K8 () h15)) (K8 () h15)))
 (fun K7=>
 Br (decide (s28.1<m_2)) (Br (decide (m_2<(IntKind.wrap .i64 ((IntKind.wrap .i64 ((IntKind.wrap .i64 (Int.fdiv (IntKind.wrap .u64 (IntKind.wrap .i64 (a_1+b_3))) (2^min (1:Int).toNat (IntKind.bits .u64))))+m_2))-s28.1))))
 (af Tryz.prog 201 #[(.slice data_0.ptr data_0.len data_0.cap),(.int .i64 s28.1),(.int .i64 m_2),(.int .i64 (IntKind.wrap .i64 ((IntKind.wrap .i64 ((IntKind.wrap .i64 (Int.fdiv (IntKind.wrap .u64 (IntKind.wrap .i64 (a_1+b_3))) (2^min (1:Int).toNat (IntKind.bits .u64))))+m_2))-s28.1))),(.func (.func cmp_4.1) cmp_4.2.1 cmp_4.2.2)] (.many []) h12 fun _ h14=>
 K7 () h14)
 (K7 () h12)) (K7 () h12)))) (s27.1,s27.2) h11)
 (fun K5=>
 Br (decide (m_2>(IntKind.wrap .i64 (Int.fdiv (IntKind.wrap .u64 (IntKind.wrap .i64 (a_1+b_3))) (2^min (1:Int).toNat (IntKind.bits .u64))))))
 (K5 (IntKind.wrap .i64 ((IntKind.wrap .i64 ((IntKind.wrap .i64 (Int.fdiv (IntKind.wrap .u64 (IntKind.wrap .i64 (a_1+b_3))) (2^min (1:Int).toNat (IntKind.bits .u64))))+m_2))-b_3),IntKind.wrap .i64 (Int.fdiv (IntKind.wrap .u64 (IntKind.wrap .i64 (a_1+b_3))) (2^min (1:Int).toNat (IntKind.bits .u64)))) h)
 (K5 (a_1,m_2) h))))
theorem jH (data_0:Sl) (a_1:Int) (m_2:Int) (b_3:Int) (cmp_4:FuncId×Array Value×Array Value) {R:Value→Heap→Prop} {h:Heap} (hm:fP data_0 a_1 m_2 b_3 cmp_4 R h):ab Tryz.prog 160 #[(.slice data_0.ptr data_0.len data_0.cap),(.int .i64 a_1),(.int .i64 m_2),(.int .i64 b_3),(.func (.func cmp_4.1) cmp_4.2.1 cmp_4.2.2)] h R:=aq ag Tryz.func160 (.two (.two .n (.two (.two .n (.two .n (.two (.inn (.loop [(10,(.sc (.int .i64))),(11,(.sc (.int .i64)))] [(10,13),(31,54)] .n)) (.two (.two .n (.inn (.loop [(13,(.sc (.int .i64)))] [(13,14),(55,77)] .n))) .n)))) .n)) (.two (.two .n (.two (.two .n (.two .n (.two (.inn (.loop [(14,(.sc (.int .i64))),(15,(.sc (.int .i64)))] [(14,17),(83,107)] .n)) (.two (.two .n (.inn (.loop [(17,(.sc (.int .i64)))] [(17,18),(108,129)] .n))) .n)))) .n)) (.two .n (.two .n (.two .n (.two (.join [(20,(.sc (.int .i64))),(21,(.sc (.int .i64)))] [(20,22),(138,147)] .n) (.two .n (.two (.inn (.loop [(20,(.sc (.int .i64))),(21,(.sc (.int .i64)))] [(20,22),(23,24),(149,175)] .n)) (.two .n (.two (.join [] [(178,192)] .n) (.two (.join [] [(192,206)] .n) .n))))))))))) hm
abbrev pN:FuncId:=161
noncomputable def lQ (x_0:Int) (R:Value→Heap→Prop) (h:Heap):Prop:=
 R (.bool (x_0 !=x_0)) h
theorem oy (x_0:Int) {R:Value→Heap→Prop} {h:Heap} (hm:lQ x_0 R h):ab Tryz.prog 161 #[(.int .i64 x_0)] h R:=aq ag Tryz.func161 .n hm
abbrev Hl:FuncId:=162
noncomputable def AH (r_0:Int×Int×Int×Int×Int×Int×Int×Sl) (R:Value→Heap→Prop) (h:Heap):Prop:=
 aK Tryz.prog (Instr.box 103 (.agg #[(.int .i64 r_0.1),(.int .i64 r_0.2.1),(.int .i64 r_0.2.2.1),(.int .i64 r_0.2.2.2.1),(.int .i64 r_0.2.2.2.2.1),(.int .i64 r_0.2.2.2.2.2.1),(.int .u32 r_0.2.2.2.2.2.2.1),(.slice r_0.2.2.2.2.2.2.2.ptr r_0.2.2.2.2.2.2.2.len r_0.2.2.2.2.2.2.2.cap)])) h fun a1 h1=>
 aK Tryz.prog (Instr.alloc 208 true (.tuple #[])) h1 fun a2 h2=>
 ∃x3:Int,cellOf h2 a1=some (.int .i64 x3)∧
 ∃x4:Int,cellOf h2 (a1.add 1)=some (.int .i64 x4)∧
 ∃x5:Int,cellOf h2 (a1.add 2)=some (.int .i64 x5)∧
 ae Tryz.prog (Instr.storeAt 208 (.pointer (some a2)) (.agg #[(.int .i64 x3),(.int .i64 x4),(.int .i64 x5)])) h2 fun _ h3=>
 ∃res6:Int×Int×Int,ai h3 a2 0 [(.int .i64 res6.1),(.int .i64 res6.2.1),(.int .i64 res6.2.2)]∧
 R (.agg #[(.int .i64 res6.1),(.int .i64 res6.2.1),(.int .i64 res6.2.2)]) h3
theorem FI (r_0:Int×Int×Int×Int×Int×Int×Int×Sl) {R:Value→Heap→Prop} {h:Heap} (hm:AH r_0 R h):ab Tryz.prog 162 #[(.agg #[(.int .i64 r_0.1),(.int .i64 r_0.2.1),(.int .i64 r_0.2.2.1),(.int .i64 r_0.2.2.2.1),(.int .i64 r_0.2.2.2.2.1),(.int .i64 r_0.2.2.2.2.2.1),(.int .u32 r_0.2.2.2.2.2.2.1),(.slice r_0.2.2.2.2.2.2.2.ptr r_0.2.2.2.2.2.2.2.len r_0.2.2.2.2.2.2.2.cap)])] h R:=aq ag Tryz.func162 .n hm
abbrev iH:FuncId:=163
noncomputable def eW (s_0:Sl) (del_1:FuncId×Array Value×Array Value) (R:Value→Heap→Prop) (h:Heap):Prop:=
 af Tryz.prog 202 #[(.slice s_0.ptr s_0.len s_0.cap),(.func (.func del_1.1) del_1.2.1 del_1.2.2)] (.one (.sc (.int .i64))) h fun r1 h1=>
 Br (r1==(-1:Int))
 (R (.slice s_0.ptr s_0.len s_0.cap) h1)
 (aO (σ:=Int×Int) (fun s2 K1 h2=>
 Br (decide (s2.2<((s_0.len:Nat):Int)))
 (∃a3:Addr,(s_0.ptr=some a3∧0≤s2.2∧s2.2<((s_0.len:Nat):Int))∧
 ∃x4:Int×Int×Int×Int×Int×Int×Int×Sl,ai h2 (a3.add (s2.2.toNat*8)) 0 [(.int .i64 x4.1),(.int .i64 x4.2.1),(.int .i64 x4.2.2.1),(.int .i64 x4.2.2.2.1),(.int .i64 x4.2.2.2.2.1),(.int .i64 x4.2.2.2.2.2.1),(.int .u32 x4.2.2.2.2.2.2.1),(.slice x4.2.2.2.2.2.2.2.ptr x4.2.2.2.2.2.2.2.len x4.2.2.2.2.2.2.2.cap)]∧
 aK Tryz.prog (Instr.alloc 103 true (.tuple #[])) h2 fun a5 h3=>
 ae Tryz.prog (Instr.storeAt 103 (.pointer (some a5)) (.agg #[(.int .i64 x4.1),(.int .i64 x4.2.1),(.int .i64 x4.2.2.1),(.int .i64 x4.2.2.2.1),(.int .i64 x4.2.2.2.2.1),(.int .i64 x4.2.2.2.2.2.1),(.int .u32 x4.2.2.2.2.2.2.1),(.slice x4.2.2.2.2.2.2.2.ptr x4.2.2.2.2.2.2.2.len x4.2.2.2.2.2.2.2.cap)])) h3 fun _ h4=>
 ∃x6:Int×Int×Int×Int×Int×Int×Int×Sl,ai h4 a5 0 [(.int .i64 x6.1),(.int .i64 x6.2.1),(.int .i64 x6.2.2.1),(.int .i64 x6.2.2.2.1),(.int .i64 x6.2.2.2.2.1),(.int .i64 x6.2.2.2.2.2.1),(.int .u32 x6.2.2.2.2.2.2.1),(.slice x6.2.2.2.2.2.2.2.ptr x6.2.2.2.2.2.2.2.len x6.2.2.2.2.2.2.2.cap)]∧
 fI C del_1.1 (del_1.2.1.toList++[(.agg #[(.int .i64 x6.1),(.int .i64 x6.2.1),(.int .i64 x6.2.2.1),(.int .i64 x6.2.2.2.1),(.int .i64 x6.2.2.2.2.1),(.int .i64 x6.2.2.2.2.2.1),(.int .u32 x6.2.2.2.2.2.2.1),(.slice x6.2.2.2.2.2.2.2.ptr x6.2.2.2.2.2.2.2.len x6.2.2.2.2.2.2.2.cap)])]++del_1.2.2.toList) (.one (.sc .bool)) h4 fun r7 h5=>
 Br (!r7)
 (∃x8:Int×Int×Int×Int×Int×Int×Int×Sl,ai h5 a5 0 [(.int .i64 x8.1),(.int .i64 x8.2.1),(.int .i64 x8.2.2.1),(.int .i64 x8.2.2.2.1),(.int .i64 x8.2.2.2.2.1),(.int .i64 x8.2.2.2.2.2.1),(.int .u32 x8.2.2.2.2.2.2.1),(.slice x8.2.2.2.2.2.2.2.ptr x8.2.2.2.2.2.2.2.len x8.2.2.2.2.2.2.2.cap)]∧
 ∃a9:Addr,(s_0.ptr=some a9∧0≤s2.1∧s2.1<((s_0.len:Nat):Int))∧
 ae Tryz.prog (Instr.storeAt 103 (.pointer (some (a9.add (s2.1.toNat*8)))) (.agg #[(.int .i64 x8.1),(.int .i64 x8.2.1),(.int .i64 x8.2.2.1),(.int .i64 x8.2.2.2.1),(.int .i64 x8.2.2.2.2.1),(.int .i64 x8.2.2.2.2.2.1),(.int .u32 x8.2.2.2.2.2.2.1),(.slice x8.2.2.2.2.2.2.2.ptr x8.2.2.2.2.2.2.2.len x8.2.2.2.2.2.2.2.cap)])) h5 fun _ h6=>
 K1 (IntKind.wrap .i64 (s2.1+(1:Int)),IntKind.wrap .i64 (s2.2+(1:Int))) h6)
 (K1 (s2.1,IntKind.wrap .i64 (s2.2+(1:Int))) h5))
 ((0≤s2.1∧s2.1≤((s_0.len:Nat):Int))∧
 ae Tryz.prog (Builtin.clear_ #[48] 0 #[(.slice (if s_0.cap=s2.1.toNat then s_0.ptr else s_0.ptr.map (·.add (s2.1.toNat*8))) (s_0.len-s2.1.toNat) (s_0.cap-s2.1.toNat))]) h2 fun _ h7=>
 (0≤s2.1∧s2.1≤((s_0.cap:Nat):Int))∧
 R (.slice s_0.ptr s2.1.toNat s_0.cap) h7)) (r1,IntKind.wrap .i64 (r1+(1:Int))) h1)
theorem iu (s_0:Sl) (del_1:FuncId×Array Value×Array Value) {R:Value→Heap→Prop} {h:Heap} (hm:eW s_0 del_1 R h):ab Tryz.prog 163 #[(.slice s_0.ptr s_0.len s_0.cap),(.func (.func del_1.1) del_1.2.1 del_1.2.2)] h R:=aq ag Tryz.func163 (.two .n (.two .n (.two .n (.two (.two .n (.inn (.loop [(5,(.sc (.int .i64))),(6,(.sc (.int .i64)))] [(5,8),(16,36)] .n))) .n)))) hm
abbrev si:FuncId:=164
noncomputable def lR (r_0:Int×Int×Int×Int×Int×Int×Int×Sl) (cap_1:Addr) (R:Value→Heap→Prop) (h:Heap):Prop:=
 aK Tryz.prog (Instr.box 103 (.agg #[(.int .i64 r_0.1),(.int .i64 r_0.2.1),(.int .i64 r_0.2.2.1),(.int .i64 r_0.2.2.2.1),(.int .i64 r_0.2.2.2.2.1),(.int .i64 r_0.2.2.2.2.2.1),(.int .u32 r_0.2.2.2.2.2.2.1),(.slice r_0.2.2.2.2.2.2.2.ptr r_0.2.2.2.2.2.2.2.len r_0.2.2.2.2.2.2.2.cap)])) h fun a1 h1=>
 ∃x2:Option Nat,cellOf h1 cap_1=some (.map x2)∧
 ∃x3:Int×Int×Int×Int×Int×Int×Int×Sl,ai h1 a1 0 [(.int .i64 x3.1),(.int .i64 x3.2.1),(.int .i64 x3.2.2.1),(.int .i64 x3.2.2.2.1),(.int .i64 x3.2.2.2.2.1),(.int .i64 x3.2.2.2.2.2.1),(.int .u32 x3.2.2.2.2.2.2.1),(.slice x3.2.2.2.2.2.2.2.ptr x3.2.2.2.2.2.2.2.len x3.2.2.2.2.2.2.2.cap)]∧
 af Tryz.prog 162 #[(.agg #[(.int .i64 x3.1),(.int .i64 x3.2.1),(.int .i64 x3.2.2.1),(.int .i64 x3.2.2.2.1),(.int .i64 x3.2.2.2.2.1),(.int .i64 x3.2.2.2.2.2.1),(.int .u32 x3.2.2.2.2.2.2.1),(.slice x3.2.2.2.2.2.2.2.ptr x3.2.2.2.2.2.2.2.len x3.2.2.2.2.2.2.2.cap)])] (.one (.agg [(.int .i64),(.int .i64),(.int .i64)])) h1 fun r4 h2=>
 (ak.ok [(cap_1,(.map x2))] h2)∧
 az Tryz.prog (Instr.lookup 206 (.map x2) (.agg #[(.int .i64 r4.1),(.int .i64 r4.2.1),(.int .i64 r4.2.2)]) false) (.one (.sc .bool)) h2 fun v5 h3=>
 (ak.ok [] h3)∧
 R (.bool v5) h3
theorem ru (r_0:Int×Int×Int×Int×Int×Int×Int×Sl) (cap_1:Addr) {R:Value→Heap→Prop} {h:Heap} (hm:lR r_0 cap_1 R h):ab Tryz.prog 164 #[(.agg #[(.int .i64 r_0.1),(.int .i64 r_0.2.1),(.int .i64 r_0.2.2.1),(.int .i64 r_0.2.2.2.1),(.int .i64 r_0.2.2.2.2.1),(.int .i64 r_0.2.2.2.2.2.1),(.int .u32 r_0.2.2.2.2.2.2.1),(.slice r_0.2.2.2.2.2.2.2.ptr r_0.2.2.2.2.2.2.2.len r_0.2.2.2.2.2.2.2.cap)]),(.pointer (some cap_1))] h R:=aq ag Tryz.func164 .n hm
abbrev D8:FuncId:=165
noncomputable def wk (d_0:Option Addr) (m_1:Int×Int×Int×Int×Int×Int×Sl×Sl) (R:Value→Heap→Prop) (h:Heap):Prop:=
 aK Tryz.prog (Instr.box 42 (.agg #[(.int .i64 m_1.1),(.int .i64 m_1.2.1),(.int .i64 m_1.2.2.1),(.int .i64 m_1.2.2.2.1),(.int .i64 m_1.2.2.2.2.1),(.int .i64 m_1.2.2.2.2.2.1),(.slice m_1.2.2.2.2.2.2.1.ptr m_1.2.2.2.2.2.2.1.len m_1.2.2.2.2.2.2.1.cap),(.slice m_1.2.2.2.2.2.2.2.ptr m_1.2.2.2.2.2.2.2.len m_1.2.2.2.2.2.2.2.cap)])) h fun a1 h1=>
 ∃x2:Int×Int×Int×Int×Int×Int×Sl×Sl,ai h1 a1 0 [(.int .i64 x2.1),(.int .i64 x2.2.1),(.int .i64 x2.2.2.1),(.int .i64 x2.2.2.2.1),(.int .i64 x2.2.2.2.2.1),(.int .i64 x2.2.2.2.2.2.1),(.slice x2.2.2.2.2.2.2.1.ptr x2.2.2.2.2.2.2.1.len x2.2.2.2.2.2.2.1.cap),(.slice x2.2.2.2.2.2.2.2.ptr x2.2.2.2.2.2.2.2.len x2.2.2.2.2.2.2.2.cap)]∧
 af Tryz.prog 18 #[(.pointer d_0),(.agg #[(.int .i64 x2.1),(.int .i64 x2.2.1),(.int .i64 x2.2.2.1),(.int .i64 x2.2.2.2.1),(.int .i64 x2.2.2.2.2.1),(.int .i64 x2.2.2.2.2.2.1),(.slice x2.2.2.2.2.2.2.1.ptr x2.2.2.2.2.2.2.1.len x2.2.2.2.2.2.2.1.cap),(.slice x2.2.2.2.2.2.2.2.ptr x2.2.2.2.2.2.2.2.len x2.2.2.2.2.2.2.2.cap)])] (.one (.sc .slc)) h1 fun r3 h2=>
 aO (σ:=Sl×Int) (fun s4 K1 h3=>
 Br (decide (s4.2<((r3.len:Nat):Int)))
 (∃a5:Addr,(r3.ptr=some a5∧0≤s4.2∧s4.2<((r3.len:Nat):Int))∧
 ∃x6:Int×Int×Int×Int×Int×Int×Int×Sl,ai h3 (a5.add (s4.2.toNat*8)) 0 [(.int .i64 x6.1),(.int .i64 x6.2.1),(.int .i64 x6.2.2.1),(.int .i64 x6.2.2.2.1),(.int .i64 x6.2.2.2.2.1),(.int .i64 x6.2.2.2.2.2.1),(.int .u32 x6.2.2.2.2.2.2.1),(.slice x6.2.2.2.2.2.2.2.ptr x6.2.2.2.2.2.2.2.len x6.2.2.2.2.2.2.2.cap)]∧
 aK Tryz.prog (Instr.alloc 103 true (.tuple #[])) h3 fun a7 h4=>
 ae Tryz.prog (Instr.storeAt 103 (.pointer (some a7)) (.agg #[(.int .i64 x6.1),(.int .i64 x6.2.1),(.int .i64 x6.2.2.1),(.int .i64 x6.2.2.2.1),(.int .i64 x6.2.2.2.2.1),(.int .i64 x6.2.2.2.2.2.1),(.int .u32 x6.2.2.2.2.2.2.1),(.slice x6.2.2.2.2.2.2.2.ptr x6.2.2.2.2.2.2.2.len x6.2.2.2.2.2.2.2.cap)])) h4 fun _ h5=>
 ∃x8:Int×Int×Int×Int×Int×Int×Int×Sl,ai h5 a7 0 [(.int .i64 x8.1),(.int .i64 x8.2.1),(.int .i64 x8.2.2.1),(.int .i64 x8.2.2.2.1),(.int .i64 x8.2.2.2.2.1),(.int .i64 x8.2.2.2.2.2.1),(.int .u32 x8.2.2.2.2.2.2.1),(.slice x8.2.2.2.2.2.2.2.ptr x8.2.2.2.2.2.2.2.len x8.2.2.2.2.2.2.2.cap)]∧
 af Tryz.prog 100 #[(.agg #[(.int .i64 x8.1),(.int .i64 x8.2.1),(.int .i64 x8.2.2.1),(.int .i64 x8.2.2.2.1),(.int .i64 x8.2.2.2.2.1),(.int .i64 x8.2.2.2.2.2.1),(.int .u32 x8.2.2.2.2.2.2.1),(.slice x8.2.2.2.2.2.2.2.ptr x8.2.2.2.2.2.2.2.len x8.2.2.2.2.2.2.2.cap)])] (.one (.sc .slc)) h5 fun r9 h6=>
 az Tryz.prog (Instr.buildSlice 65 1 #[(0,(.slice r9.ptr r9.len r9.cap))]) (.one (.sc .slc)) h6 fun v10 h7=>
 az Tryz.prog (Builtin.append_ #[65,65] 65 #[(.slice s4.1.ptr s4.1.len s4.1.cap),(.slice v10.ptr v10.len v10.cap)]) (.one (.sc .slc)) h7 fun v11 h8=>
 K1 ((⟨v11.ptr,v11.len,v11.cap⟩:Sl),IntKind.wrap .i64 (s4.2+(1:Int))) h8)
 (R (.slice s4.1.ptr s4.1.len s4.1.cap) h3)) ((⟨none,0,0⟩:Sl),(0:Int)) h2
theorem Cw (d_0:Option Addr) (m_1:Int×Int×Int×Int×Int×Int×Sl×Sl) {R:Value→Heap→Prop} {h:Heap} (hm:wk d_0 m_1 R h):ab Tryz.prog 165 #[(.pointer d_0),(.agg #[(.int .i64 m_1.1),(.int .i64 m_1.2.1),(.int .i64 m_1.2.2.1),(.int .i64 m_1.2.2.2.1),(.int .i64 m_1.2.2.2.2.1),(.int .i64 m_1.2.2.2.2.2.1),(.slice m_1.2.2.2.2.2.2.1.ptr m_1.2.2.2.2.2.2.1.len m_1.2.2.2.2.2.2.1.cap),(.slice m_1.2.2.2.2.2.2.2.ptr m_1.2.2.2.2.2.2.2.len m_1.2.2.2.2.2.2.2.cap)])] h R:=aq ag Tryz.func165 (.two .n (.two .n (.two (.two .n (.inn (.loop [(5,(.sc .slc)),(12,(.sc (.int .i64)))] [(5,6),(7,8),(12,22)] .n))) .n))) hm
abbrev Jx:FuncId:=166
noncomputable def Dc (b_0:Sl) (R:Value→Heap→Prop) (h:Heap):Prop:=
 aO (σ:=Int×Int) (fun s1 K1 h1=>
 Br (decide (s1.2<((b_0.len:Nat):Int)))
 (∃a2:Addr,(b_0.ptr=some a2∧0≤s1.2∧s1.2<((b_0.len:Nat):Int))∧
 ∃x3:Int,cellOf h1 (a2.add (s1.2.toNat*1))=some (.int .u8 x3)∧
 aO (σ:=Int×Int) (fun s4 K2 h2=>
 Br (decide (s4.2<(8:Int)))
 ((0≤(1:Int))∧
 Br ((IntKind.wrap .u32 ((BitVec.ofInt (IntKind.bits .u32) s4.1&&&(BitVec.ofInt (IntKind.bits .u32) (1:Int))).toNat:Nat))==(1:Int))
 (K2 (IntKind.wrap .u32 ((BitVec.ofInt (IntKind.bits .u32) (Int.fdiv s4.1 (2^min (1:Int).toNat (IntKind.bits .u32)))^^^(BitVec.ofInt (IntKind.bits .u32) (3988292384:Int))).toNat:Nat),IntKind.wrap .i64 (s4.2+(1:Int))) h2)
 (K2 (Int.fdiv s4.1 (2^min (1:Int).toNat (IntKind.bits .u32)),IntKind.wrap .i64 (s4.2+(1:Int))) h2))
 (K1 (s4.1,IntKind.wrap .i64 (s1.2+(1:Int))) h2)) (IntKind.wrap .u32 ((BitVec.ofInt (IntKind.bits .u32) s1.1^^^(BitVec.ofInt (IntKind.bits .u32) (IntKind.wrap .u32 x3))).toNat:Nat),(0:Int)) h1)
 (R (.int .u32 (IntKind.wrap .u32 ((BitVec.ofInt (IntKind.bits .u32) (4294967295:Int)^^^(BitVec.ofInt (IntKind.bits .u32) s1.1)).toNat:Nat))) h1)) ((4294967295:Int),(0:Int)) h
theorem Hm (b_0:Sl) {R:Value→Heap→Prop} {h:Heap} (hm:Dc b_0 R h):ab Tryz.prog 166 #[(.slice b_0.ptr b_0.len b_0.cap)] h R:=aq ag Tryz.func166 (.two .n (.two .n (.two (.two .n (.inn (.loop [(3,(.sc (.int .u32))),(9,(.sc (.int .i64)))] [(3,4),(5,7),(9,29)] (.two .n (.two .n (.two (.inn (.two .n (.two .n (.two .n (.inn (.loop [(3,(.sc (.int .u32))),(17,(.sc (.int .i64)))] [(3,4),(6,7),(17,28)] .n)))))) .n)))))) .n))) hm
abbrev Cx:FuncId:=172
noncomputable def uH (p_0:Int×Int×Int) (seed_1:Int) (ids_2:Sl) (R:Value→Heap→Prop) (h:Heap):Prop:=
 aK Tryz.prog (Instr.box 24 (.agg #[(.int .i64 p_0.1),(.int .i64 p_0.2.1),(.int .i64 p_0.2.2)])) h fun a1 h1=>
 ∃x2:Int×Int×Int,ai h1 a1 0 [(.int .i64 x2.1),(.int .i64 x2.2.1),(.int .i64 x2.2.2)]∧
 af Tryz.prog 27 #[(.agg #[(.int .i64 x2.1),(.int .i64 x2.2.1),(.int .i64 x2.2.2)])] (.one (.sc .bool)) h1 fun r3 h2=>
 (ak.ok [] h2)∧
 Br r3 (∃x4:Int×Int×Int,ai h2 a1 0 [(.int .i64 x4.1),(.int .i64 x4.2.1),(.int .i64 x4.2.2)]∧
 ∃x5:Int×Int×Int,ai h2 a1 0 [(.int .i64 x5.1),(.int .i64 x5.2.1),(.int .i64 x5.2.2)]∧
 af Tryz.prog 204 #[(.agg #[(.int .i64 x4.1),(.int .i64 x4.2.1),(.int .i64 x4.2.2)]),(.int .u32 seed_1),(.slice ids_2.ptr ids_2.len ids_2.cap)] (.one (.sc (.int .i64))) h2 fun r6 h3=>
 (ak.ok [(a1,(.int .i64 x5.1)),(a1.add 1,(.int .i64 x5.2.1)),(a1.add 2,(.int .i64 x5.2.2))] h3)∧
 af Tryz.prog 187 #[(.agg #[(.int .i64 x5.1),(.int .i64 x5.2.1),(.int .i64 x5.2.2)])] (.one (.sc (.int .i64))) h3 fun r7 h4=>
 (ak.ok [] h4)∧
 R (.bool (r6==r7)) h4) ((ak.ok [] h2)∧
 (ak.ok [] h2)∧
 R (.bool false) h2)
theorem AI (p_0:Int×Int×Int) (seed_1:Int) (ids_2:Sl) {R:Value→Heap→Prop} {h:Heap} (hm:uH p_0 seed_1 ids_2 R h):ab Tryz.prog 172 #[(.agg #[(.int .i64 p_0.1),(.int .i64 p_0.2.1),(.int .i64 p_0.2.2)]),(.int .u32 seed_1),(.slice ids_2.ptr ids_2.len ids_2.cap)] h R:=aq ag Tryz.func172 .n hm
abbrev Jy:FuncId:=173
noncomputable def Dd (a_0:Sl) (R:Value→Heap→Prop) (h:Heap):Prop:=
 aO (σ:=Int) (fun s1 K1 h1=>
 Br (decide (s1<((a_0.len:Nat):Int)))
 (∃a2:Addr,(a_0.ptr=some a2∧0≤s1∧s1<((a_0.len:Nat):Int))∧
 ∃x3:Sl,cellOf h1 (a2.add (s1.toNat*1))=some (.slice x3.ptr x3.len x3.cap)∧
 ∃a4:Addr,(a_0.ptr=some a4∧0≤(0:Int)∧(0:Int)<((a_0.len:Nat):Int))∧
 ∃x5:Sl,cellOf h1 (a4.add ((0:Int).toNat*1))=some (.slice x5.ptr x5.len x5.cap)∧
 Br (((x3.len:Nat):Int) !=((x5.len:Nat):Int)) (R (.bool false) h1) (Br (decide (((x3.len:Nat):Int)>(64:Int)))
 (R (.bool false) h1)
 (K1 (IntKind.wrap .i64 (s1+(1:Int))) h1)))
 (R (.bool true) h1)) (0:Int) h
theorem Hn (a_0:Sl) {R:Value→Heap→Prop} {h:Heap} (hm:Dd a_0 R h):ab Tryz.prog 173 #[(.slice a_0.ptr a_0.len a_0.cap)] h R:=aq ag Tryz.func173 (.two .n (.two (.two .n (.inn (.loop [(7,(.sc (.int .i64)))] [(2,3),(4,5),(7,24)] .n))) .n)) hm
abbrev FJ:FuncId:=174
noncomputable def yp (a_0:Sl) (R:Value→Heap→Prop) (h:Heap):Prop:=
 Br (((a_0.len:Nat):Int)==(0:Int))
 (R (.int .i64 (0:Int)) h)
 (∃a1:Addr,(a_0.ptr=some a1∧0≤(0:Int)∧(0:Int)<((a_0.len:Nat):Int))∧
 ∃x2:Sl,cellOf h (a1.add ((0:Int).toNat*1))=some (.slice x2.ptr x2.len x2.cap)∧
 R (.int .i64 ((x2.len:Nat):Int)) h)
theorem D9 (a_0:Sl) {R:Value→Heap→Prop} {h:Heap} (hm:yp a_0 R h):ab Tryz.prog 174 #[(.slice a_0.ptr a_0.len a_0.cap)] h R:=aq ag Tryz.func174 .n hm
abbrev Jz:FuncId:=175
noncomputable def De (a_0:Sl) (R:Value→Heap→Prop) (h:Heap):Prop:=
 az Tryz.prog (Instr.makeSlice 65 (.int .i64 (0:Int)) (.int .i64 ((a_0.len:Nat):Int))) (.one (.sc .slc)) h fun v1 h1=>
 aO (σ:=Sl×Int) (fun s2 K1 h2=>
 Br (decide (s2.2<((a_0.len:Nat):Int)))
 (∃a3:Addr,(a_0.ptr=some a3∧0≤s2.2∧s2.2<((a_0.len:Nat):Int))∧
 ∃x4:Sl,cellOf h2 (a3.add (s2.2.toNat*1))=some (.slice x4.ptr x4.len x4.cap)∧
 af Tryz.prog 109 #[(.slice x4.ptr x4.len x4.cap)] (.one (.sc .slc)) h2 fun r5 h3=>
 az Tryz.prog (Instr.buildSlice 65 1 #[(0,(.slice r5.ptr r5.len r5.cap))]) (.one (.sc .slc)) h3 fun v6 h4=>
 az Tryz.prog (Builtin.append_ #[65,65] 65 #[(.slice s2.1.ptr s2.1.len s2.1.cap),(.slice v6.ptr v6.len v6.cap)]) (.one (.sc .slc)) h4 fun v7 h5=>
 K1 ((⟨v7.ptr,v7.len,v7.cap⟩:Sl),IntKind.wrap .i64 (s2.2+(1:Int))) h5)
 (R (.slice s2.1.ptr s2.1.len s2.1.cap) h2)) ((⟨v1.ptr,v1.len,v1.cap⟩:Sl),(0:Int)) h1
theorem Ho (a_0:Sl) {R:Value→Heap→Prop} {h:Heap} (hm:De a_0 R h):ab Tryz.prog 175 #[(.slice a_0.ptr a_0.len a_0.cap)] h R:=aq ag Tryz.func175 (.two .n (.two .n (.two (.two .n (.inn (.loop [(3,(.sc .slc)),(11,(.sc (.int .i64)))] [(3,4),(5,6),(11,21)] .n))) .n))) hm
abbrev Ea:FuncId:=176
noncomputable def wm (f_0:Option Addr) (a_1:Sl) (cols_2:Int) (R:Value→Heap→Prop) (h:Heap):Prop:=
 aO (σ:=Int×Int) (fun s1 K1 h1=>
 Br (decide (s1.2<cols_2))
 (af Tryz.prog 205 #[(.slice a_1.ptr a_1.len a_1.cap),(.int .i64 s1.1),(.int .i64 s1.2)] (.one (.sc (.int .i64))) h1 fun r2 h2=>
 Br (decide (r2<(0:Int)))
 (K1 (s1.1,IntKind.wrap .i64 (s1.2+(1:Int))) h2)
 (aZ (σ:=Unit) (fun _ h5=>
 aZ (σ:=Unit) (fun _ h9=>
 aO (σ:=Int) (fun s20 K4 h10=>
 Br (decide (s20<((a_1.len:Nat):Int)))
 (Br (s20 !=s1.1)
 (∃a21:Addr,(a_1.ptr=some a21∧0≤s20∧s20<((a_1.len:Nat):Int))∧
 ∃x22:Sl,cellOf h10 (a21.add (s20.toNat*1))=some (.slice x22.ptr x22.len x22.cap)∧
 ∃a23:Addr,(x22.ptr=some a23∧0≤s1.2∧s1.2<((x22.len:Nat):Int))∧
 ∃x24:Int,cellOf h10 (a23.add (s1.2.toNat*1))=some (.int .u8 x24)∧
 ∃a25:Addr,(a_1.ptr=some a25∧0≤s1.1∧s1.1<((a_1.len:Nat):Int))∧
 ∃x26:Sl,cellOf h10 (a25.add (s1.1.toNat*1))=some (.slice x26.ptr x26.len x26.cap)∧
 ∃a27:Addr,(a_1.ptr=some a27∧0≤s20∧s20<((a_1.len:Nat):Int))∧
 ∃x28:Sl,cellOf h10 (a27.add (s20.toNat*1))=some (.slice x28.ptr x28.len x28.cap)∧
 af Tryz.prog 208 #[(.pointer f_0),(.int .u8 x24),(.slice x26.ptr x26.len x26.cap),(.slice x28.ptr x28.len x28.cap)] (.many []) h10 fun _ h11=>
 (ak.ok [(a21.add (s20.toNat*1),(.slice x22.ptr x22.len x22.cap))] h11)∧
 K4 (IntKind.wrap .i64 (s20+(1:Int))) h11)
 (K4 (IntKind.wrap .i64 (s20+(1:Int))) h10))
 (K1 (IntKind.wrap .i64 (s1.1+(1:Int)),IntKind.wrap .i64 (s1.2+(1:Int))) h10)) (0:Int) h9)
 (fun K3=>
 ∃a10:Addr,(a_1.ptr=some a10∧0≤s1.1∧s1.1<((a_1.len:Nat):Int))∧
 ∃x11:Sl,cellOf h5 (a10.add (s1.1.toNat*1))=some (.slice x11.ptr x11.len x11.cap)∧
 ∃a12:Addr,(x11.ptr=some a12∧0≤s1.2∧s1.2<((x11.len:Nat):Int))∧
 ∃x13:Int,cellOf h5 (a12.add (s1.2.toNat*1))=some (.int .u8 x13)∧
 ∃a14:Addr,(a_1.ptr=some a14∧0≤s1.1∧s1.1<((a_1.len:Nat):Int))∧
 ∃x15:Sl,cellOf h5 (a14.add (s1.1.toNat*1))=some (.slice x15.ptr x15.len x15.cap)∧
 af Tryz.prog 207 #[(.pointer f_0),(.int .u8 x13)] (.one (.sc (.int .u8))) h5 fun r16 h6=>
 (ak.ok [(a14.add (s1.1.toNat*1),(.slice x15.ptr x15.len x15.cap)),(a10.add (s1.1.toNat*1),(.slice x11.ptr x11.len x11.cap))] h6)∧
 af Tryz.prog 206 #[(.pointer f_0),(.int .u8 r16),(.slice x15.ptr x15.len x15.cap)] (.one (.sc .slc)) h6 fun r17 h7=>
 (ak.ok [(a10.add (s1.1.toNat*1),(.slice x11.ptr x11.len x11.cap))] h7)∧
 ∃a18:Addr,(a_1.ptr=some a18∧0≤s1.1∧s1.1<((a_1.len:Nat):Int))∧
 ae Tryz.prog (Instr.storeAt 46 (.pointer (some (a18.add (s1.1.toNat*1)))) (.slice r17.ptr r17.len r17.cap)) h7 fun _ h8=>
 (ak.ok [] h8)∧
 K3 () h8))
 (fun K2=>
 ∃a3:Addr,(a_1.ptr=some a3∧0≤r2∧r2<((a_1.len:Nat):Int))∧
 ∃x4:Sl,cellOf h2 (a3.add (r2.toNat*1))=some (.slice x4.ptr x4.len x4.cap)∧
 ∃a5:Addr,(a_1.ptr=some a5∧0≤s1.1∧s1.1<((a_1.len:Nat):Int))∧
 ∃x6:Sl,cellOf h2 (a5.add (s1.1.toNat*1))=some (.slice x6.ptr x6.len x6.cap)∧
 ∃a7:Addr,(a_1.ptr=some a7∧0≤s1.1∧s1.1<((a_1.len:Nat):Int))∧
 ae Tryz.prog (Instr.storeAt 46 (.pointer (some (a7.add (s1.1.toNat*1)))) (.slice x4.ptr x4.len x4.cap)) h2 fun _ h3=>
 (ak.ok [] h3)∧
 ∃a8:Addr,(a_1.ptr=some a8∧0≤r2∧r2<((a_1.len:Nat):Int))∧
 ae Tryz.prog (Instr.storeAt 46 (.pointer (some (a8.add (r2.toNat*1)))) (.slice x6.ptr x6.len x6.cap)) h3 fun _ h4=>
 (ak.ok [] h4)∧
 K2 () h4)))
 (R (.int .i64 s1.1) h1)) ((0:Int),(0:Int)) h
theorem Cy (f_0:Option Addr) (a_1:Sl) (cols_2:Int) {R:Value→Heap→Prop} {h:Heap} (hm:wm f_0 a_1 cols_2 R h):ab Tryz.prog 176 #[(.pointer f_0),(.slice a_1.ptr a_1.len a_1.cap),(.int .i64 cols_2)] h R:=aq ag Tryz.func176 (.two .n (.two .n (.two (.two .n (.inn (.loop [(7,(.sc (.int .i64))),(12,(.sc (.int .i64)))] [(7,11),(12,82)] (.two .n (.two .n (.two (.inn (.two .n (.two .n (.two .n (.two (.join [] [(21,35)] .n) (.two (.join [] [(35,53)] .n) (.two (.two .n (.inn (.loop [(55,(.sc (.int .i64)))] [(10,11),(55,79)] .n))) .n))))))) .n)))))) .n))) hm
abbrev Hp:FuncId:=177
noncomputable def AJ (f_0:Option Addr) (R:Value→Heap→Prop) (h:Heap):Prop:=
 Br (Option.isNone f_0)
 (af Tryz.prog 147 #[] (.one (.sc .ptr)) h fun r1 h1=>
 R (.pointer r1) h1)
 (R (.pointer f_0) h)
theorem FK (f_0:Option Addr) {R:Value→Heap→Prop} {h:Heap} (hm:AJ f_0 R h):ab Tryz.prog 177 #[(.pointer f_0)] h R:=aq ag Tryz.func177 .n hm
abbrev FL:FuncId:=179
noncomputable def yq (R:Value→Heap→Prop) (h:Heap):Prop:=
 aK Tryz.prog (Instr.alloc 223 true (.tuple #[])) h fun a1 h1=>
 aO (σ:=Int×Int) (fun s2 K1 h2=>
 Br (decide (s2.2<(255:Int)))
 ((0≤s2.2∧s2.2<((255:Nat):Int))∧
 ae Tryz.prog (Instr.storeAt 5 (.pointer (some (a1.add (s2.2.toNat*1)))) (.int .u8 s2.1)) h2 fun _ h3=>
 af Tryz.prog 211 #[(.int .u8 s2.1),(.int .u8 (3:Int))] (.one (.sc (.int .u8))) h3 fun r3 h4=>
 K1 (r3,IntKind.wrap .i64 (s2.2+(1:Int))) h4)
 (∃x4:List (Int),(x4.length=255∧ai h2 a1 0 (x4.map (Sc.enc (.int .u8))))∧
 ae Tryz.prog (Instr.storeAt 223 (.pointer (some a1)) (.agg (x4.map (Sc.enc (.int .u8))).toArray)) h2 fun _ h5=>
 ∃res5:List (Int),(res5.length=255∧ai h5 a1 0 (res5.map (Sc.enc (.int .u8))))∧
 R (.agg (res5.map (Sc.enc (.int .u8))).toArray) h5)) ((1:Int),(0:Int)) h1
theorem Eb {R:Value→Heap→Prop} {h:Heap} (hm:yq R h):ab Tryz.prog 179 #[] h R:=aq ag Tryz.func179 (.two .n (.two .n (.two (.two .n (.inn (.loop [(1,(.sc (.int .u8))),(3,(.sc (.int .i64)))] [(1,12)] .n))) .n))) hm
abbrev JA:FuncId:=180
noncomputable def Df (l_0:List (Int)) (R:Value→Heap→Prop) (h:Heap):Prop:=
 aK Tryz.prog (Instr.box 223 (.agg (l_0.map (Sc.enc (.int .u8))).toArray)) h fun a1 h1=>
 aK Tryz.prog (Instr.alloc 225 true (.tuple #[])) h1 fun a2 h2=>
 ∃x3:List (Int),(x3.length=255∧ai h2 a1 0 (x3.map (Sc.enc (.int .u8))))∧
 aO (σ:=Int) (fun s4 K1 h3=>
 Br (decide (s4<(255:Int)))
 (∃x5:Int,(0≤s4∧s4<((255:Nat):Int)∧((x3.map (Sc.enc (.int .u8))).toArray:Array Value)[s4.toNat]?=some (.int .u8 x5))∧
 (0≤x5∧x5<((256:Nat):Int))∧
 ae Tryz.prog (Instr.storeAt 3 (.pointer (some (a2.add (x5.toNat*1)))) (.int .i64 s4)) h3 fun _ h4=>
 K1 (IntKind.wrap .i64 (s4+(1:Int))) h4)
 (∃x6:List (Int),(x6.length=256∧ai h3 a2 0 (x6.map (Sc.enc (.int .i64))))∧
 ae Tryz.prog (Instr.storeAt 225 (.pointer (some a2)) (.agg (x6.map (Sc.enc (.int .i64))).toArray)) h3 fun _ h5=>
 ∃res7:List (Int),(res7.length=256∧ai h5 a2 0 (res7.map (Sc.enc (.int .i64))))∧
 R (.agg (res7.map (Sc.enc (.int .i64))).toArray) h5)) (0:Int) h2
theorem Hq (l_0:List (Int)) {R:Value→Heap→Prop} {h:Heap} (hm:Df l_0 R h):ab Tryz.prog 180 #[(.agg (l_0.map (Sc.enc (.int .u8))).toArray)] h R:=aq ag Tryz.func180 (.two .n (.two (.two .n (.inn (.loop [(6,(.sc (.int .i64)))] [(3,5),(6,14)] .n))) .n)) hm
abbrev Hr:FuncId:=181
noncomputable def AK (p_0:Int×Int×Int) (R:Value→Heap→Prop) (h:Heap):Prop:=
 aK Tryz.prog (Instr.box 24 (.agg #[(.int .i64 p_0.1),(.int .i64 p_0.2.1),(.int .i64 p_0.2.2)])) h fun a1 h1=>
 ∃x2:Int×Int×Int,ai h1 a1 0 [(.int .i64 x2.1),(.int .i64 x2.2.1),(.int .i64 x2.2.2)]∧
 af Tryz.prog 27 #[(.agg #[(.int .i64 x2.1),(.int .i64 x2.2.1),(.int .i64 x2.2.2)])] (.one (.sc .bool)) h1 fun r3 h2=>
 Br (!r3)
 (R (.slice none 0 0) h2)
 (af Tryz.prog 147 #[] (.one (.sc .ptr)) h2 fun r4 h3=>
 ∃x5:Int,cellOf h3 (a1.add 1)=some (.int .i64 x5)∧
 aO (σ:=Sl×Int) (fun s6 K1 h4=>
 Br (decide (s6.2<x5))
 (aZ (σ:=Sl) (fun s11 h7=>
 ∃x12:Int,cellOf h7 a1=some (.int .i64 x12)∧
 aO (σ:=Int) (fun s13 K3 h8=>
 Br (decide (s13<x12))
 (af Tryz.prog 213 #[(.pointer r4),(.int .i64 (IntKind.wrap .i64 ((IntKind.wrap .i64 (s6.2+(1:Int)))*(IntKind.wrap .i64 (s13+(1:Int))))))] (.one (.sc (.int .u8))) h8 fun r14 h9=>
 ∃a15:Addr,(s11.ptr=some a15∧0≤s13∧s13<((s11.len:Nat):Int))∧
 ae Tryz.prog (Instr.storeAt 5 (.pointer (some (a15.add (s13.toNat*1)))) (.int .u8 r14)) h9 fun _ h10=>
 K3 (IntKind.wrap .i64 (s13+(1:Int))) h10)
 (az Tryz.prog (Instr.buildSlice 65 1 #[(0,(.slice s11.ptr s11.len s11.cap))]) (.one (.sc .slc)) h8 fun v16 h11=>
 az Tryz.prog (Builtin.append_ #[65,65] 65 #[(.slice s6.1.ptr s6.1.len s6.1.cap),(.slice v16.ptr v16.len v16.cap)]) (.one (.sc .slc)) h11 fun v17 h12=>
 K1 ((⟨v17.ptr,v17.len,v17.cap⟩:Sl),IntKind.wrap .i64 (s6.2+(1:Int))) h12)) (0:Int) h7)
 (fun K2=>
 ∃x7:Int×Int×Int,ai h4 a1 0 [(.int .i64 x7.1),(.int .i64 x7.2.1),(.int .i64 x7.2.2)]∧
 ∃x8:Int,cellOf h4 a1=some (.int .i64 x8)∧
 af Tryz.prog 187 #[(.agg #[(.int .i64 x7.1),(.int .i64 x7.2.1),(.int .i64 x7.2.2)])] (.one (.sc (.int .i64))) h4 fun r9 h5=>
 (ak.ok [(a1,(.int .i64 x8))] h5)∧
 af Tryz.prog 212 #[(.int .i64 r9),(.int .i64 (IntKind.wrap .i64 (x8+s6.2)))] (.one (.sc .slc)) h5 fun r10 h6=>
 (ak.ok [(a1,(.int .i64 x8))] h6)∧
 K2 (⟨r10.ptr,r10.len,r10.cap⟩:Sl) h6))
 (R (.slice s6.1.ptr s6.1.len s6.1.cap) h4)) ((⟨none,0,0⟩:Sl),(0:Int)) h3)
theorem FM (p_0:Int×Int×Int) {R:Value→Heap→Prop} {h:Heap} (hm:AK p_0 R h):ab Tryz.prog 181 #[(.agg #[(.int .i64 p_0.1),(.int .i64 p_0.2.1),(.int .i64 p_0.2.2)])] h R:=aq ag Tryz.func181 (.two .n (.two .n (.two .n (.two .n (.two (.two .n (.inn (.loop [(4,(.sc .slc)),(14,(.sc (.int .i64)))] [(4,8),(14,45)] (.two .n (.two .n (.two (.inn (.two .n (.two (.join [(6,(.sc .slc))] [(6,7),(17,24)] .n) (.two (.two .n (.inn (.loop [(26,(.sc (.int .i64)))] [(7,8),(26,40)] .n))) .n)))) .n)))))) .n))))) hm
abbrev KV:FuncId:=182
noncomputable def FN (p_0:Int×Int×Int) (seed_1:Int) (id_2:Int) (R:Value→Heap→Prop) (h:Heap):Prop:=
 aK Tryz.prog (Instr.box 24 (.agg #[(.int .i64 p_0.1),(.int .i64 p_0.2.1),(.int .i64 p_0.2.2)])) h fun a1 h1=>
 aZ (σ:=Unit) (fun _ h3=>
 ∃x5:Int×Int×Int,ai h3 a1 0 [(.int .i64 x5.1),(.int .i64 x5.2.1),(.int .i64 x5.2.2)]∧
 af Tryz.prog 187 #[(.agg #[(.int .i64 x5.1),(.int .i64 x5.2.1),(.int .i64 x5.2.2)])] (.one (.sc (.int .i64))) h3 fun r6 h4=>
 az Tryz.prog (Instr.makeSlice 46 (.int .i64 r6) (.int .i64 r6)) (.one (.sc .slc)) h4 fun v7 h5=>
 ∃x8:Int×Int×Int,ai h5 a1 0 [(.int .i64 x8.1),(.int .i64 x8.2.1),(.int .i64 x8.2.2)]∧
 af Tryz.prog 155 #[(.agg #[(.int .i64 x8.1),(.int .i64 x8.2.1),(.int .i64 x8.2.2)]),(.int .u32 seed_1),(.int .i64 id_2)] (.one (.sc .slc)) h5 fun r9 h6=>
 aO (σ:=Int) (fun s10 K2 h7=>
 Br (decide (s10<((r9.len:Nat):Int)))
 (∃a11:Addr,(r9.ptr=some a11∧0≤s10∧s10<((r9.len:Nat):Int))∧
 ∃x12:Int,cellOf h7 (a11.add (s10.toNat*1))=some (.int .i64 x12)∧
 ∃a13:Addr,(v7.ptr=some a13∧0≤x12∧x12<((v7.len:Nat):Int))∧
 ae Tryz.prog (Instr.storeAt 5 (.pointer (some (a13.add (x12.toNat*1)))) (.int .u8 (1:Int))) h7 fun _ h8=>
 K2 (IntKind.wrap .i64 (s10+(1:Int))) h8)
 (R (.slice v7.ptr v7.len v7.cap) h7)) (0:Int) h6)
 (fun K1=>
 ∃x2:Int×Int×Int,ai h1 a1 0 [(.int .i64 x2.1),(.int .i64 x2.2.1),(.int .i64 x2.2.2)]∧
 af Tryz.prog 27 #[(.agg #[(.int .i64 x2.1),(.int .i64 x2.2.1),(.int .i64 x2.2.2)])] (.one (.sc .bool)) h1 fun r3 h2=>
 Br (!r3) (R (.slice none 0 0) h2) (Br (decide (id_2<(0:Int))) (R (.slice none 0 0) h2) (Br (decide (id_2>(65535:Int)))
 (R (.slice none 0 0) h2)
 (K1 () h2))))
theorem JB (p_0:Int×Int×Int) (seed_1:Int) (id_2:Int) {R:Value→Heap→Prop} {h:Heap} (hm:FN p_0 seed_1 id_2 R h):ab Tryz.prog 182 #[(.agg #[(.int .i64 p_0.1),(.int .i64 p_0.2.1),(.int .i64 p_0.2.2)]),(.int .u32 seed_1),(.int .i64 id_2)] h R:=aq ag Tryz.func182 (.two .n (.two (.join [] [(6,7),(10,21)] .n) (.two .n (.two (.two .n (.inn (.loop [(29,(.sc (.int .i64)))] [(9,10),(29,37)] .n))) .n)))) hm
abbrev Cz:FuncId:=183
noncomputable def uI (R:Value→Heap→Prop) (h:Heap):Prop:=
 aK Tryz.prog (Instr.box 234 (.agg #[(.complex .f64 0 0),(.complex .f64 4607182418800017408 0),(.int .i64 (1:Int)),(.int .i64 (1:Int)),(.bool false)])) h fun a1 h1=>
 R (.pointer (some a1)) h1
theorem AL {R:Value→Heap→Prop} {h:Heap} (hm:uI R h):ab Tryz.prog 183 #[] h R:=aq ag Tryz.func183 .n hm
abbrev wo:FuncId:=184
noncomputable def oz (s_0:Option Addr) (R:Value→Heap→Prop) (h:Heap):Prop:=
 ∃a1:Addr,(s_0=some a1)∧
 ∃x2:Nat×Nat,cellOf h a1=some (.complex .f64 x2.1 x2.2)∧
 ∃a3:Addr,(s_0=some a3)∧
 ∃x4:Nat×Nat,cellOf h (a3.add 1)=some (.complex .f64 x4.1 x4.2)∧
 ∃z5:Nat×Nat,(iB Tryz.prog .add 191 (.tmp 5) (.tmp 9) (.complex .f64 x2.1 x2.2) (.complex .f64 x4.1 x4.2) (.complex .f64 z5.1 z5.2))∧
 ∃a6:Addr,(s_0=some a6)∧
 ae Tryz.prog (Instr.storeAt 191 (.pointer (some a6)) (.complex .f64 z5.1 z5.2)) h fun _ h1=>
 (ak.ok [] h1)∧
 ∃a7:Addr,(s_0=some a7)∧
 ∃x8:Int,cellOf h1 (a7.add 2)=some (.int .i64 x8)∧
 ∃a9:Addr,(s_0=some a9)∧
 ae Tryz.prog (Instr.storeAt 3 (.pointer (some (a9.add 2))) (.int .i64 (IntKind.wrap .i64 (x8-(1:Int))))) h1 fun _ h2=>
 ∃a10:Addr,(s_0=some a10)∧
 ∃x11:Int,cellOf h2 (a10.add 2)=some (.int .i64 x11)∧
 Br (decide (x11>(0:Int)))
 (R (.tuple #[]) h2)
 (∃a12:Addr,(s_0=some a12)∧
 ∃x13:Nat×Nat,cellOf h2 (a12.add 1)=some (.complex .f64 x13.1 x13.2)∧
 af Tryz.prog 214 #[(.complex .f64 x13.1 x13.2),(.int .i64 (1:Int))] (.one (.sc (.cpx .f64))) h2 fun r14 h3=>
 ∃a15:Addr,(s_0=some a15)∧
 ae Tryz.prog (Instr.storeAt 191 (.pointer (some (a15.add 1))) (.complex .f64 r14.1 r14.2)) h3 fun _ h4=>
 aZ (σ:=Unit) (fun _ h6=>
 ∃a22:Addr,(s_0=some a22)∧
 ∃x23:Bool,cellOf h6 (a22.add 4)=some (.bool x23)∧
 ∃a24:Addr,(s_0=some a24)∧
 ae Tryz.prog (Instr.storeAt 4 (.pointer (some (a24.add 4))) (.bool (!x23))) h6 fun _ h7=>
 ∃a25:Addr,(s_0=some a25)∧
 ∃x26:Int,cellOf h7 (a25.add 3)=some (.int .i64 x26)∧
 ∃a27:Addr,(s_0=some a27)∧
 ae Tryz.prog (Instr.storeAt 3 (.pointer (some (a27.add 2))) (.int .i64 x26)) h7 fun _ h8=>
 R (.tuple #[]) h8)
 (fun K1=>
 ∃a16:Addr,(s_0=some a16)∧
 ∃x17:Bool,cellOf h4 (a16.add 4)=some (.bool x17)∧
 Br x17
 (∃a18:Addr,(s_0=some a18)∧
 ∃x19:Int,cellOf h4 (a18.add 3)=some (.int .i64 x19)∧
 ∃a20:Addr,(s_0=some a20)∧
 ae Tryz.prog (Instr.storeAt 3 (.pointer (some (a20.add 3))) (.int .i64 (IntKind.wrap .i64 (x19+(1:Int))))) h4 fun _ h5=>
 K1 () h5)
 (K1 () h4)))
theorem vh (s_0:Option Addr) {R:Value→Heap→Prop} {h:Heap} (hm:oz s_0 R h):ab Tryz.prog 184 #[(.pointer s_0)] h R:=aq ag Tryz.func184 (.two .n (.two .n (.two .n (.two .n (.two (.join [] [(33,44)] .n) .n))))) hm
abbrev tJ:FuncId:=186
noncomputable def mz (x_0:Nat) (R:Value→Heap→Prop) (h:Heap):Prop:=
 R (.bool ((FloatKind.format .f64).order x_0 x_0 !=some .eq)) h
theorem sj (x_0:Nat) {R:Value→Heap→Prop} {h:Heap} (hm:mz x_0 R h):ab Tryz.prog 186 #[(.float .f64 x_0)] h R:=aq ag Tryz.func186 .n hm
abbrev Hs:FuncId:=187
noncomputable def AM (p_0:Int×Int×Int) (R:Value→Heap→Prop) (h:Heap):Prop:=
 aK Tryz.prog (Instr.box 24 (.agg #[(.int .i64 p_0.1),(.int .i64 p_0.2.1),(.int .i64 p_0.2.2)])) h fun a1 h1=>
 ∃x2:Int×Int×Int,ai h1 a1 0 [(.int .i64 x2.1),(.int .i64 x2.2.1),(.int .i64 x2.2.2)]∧
 af Tryz.prog 27 #[(.agg #[(.int .i64 x2.1),(.int .i64 x2.2.1),(.int .i64 x2.2.2)])] (.one (.sc .bool)) h1 fun r3 h2=>
 Br (!r3)
 (R (.int .i64 (0:Int)) h2)
 (∃x4:Int,cellOf h2 a1=some (.int .i64 x4)∧
 ∃x5:Int,cellOf h2 (a1.add 1)=some (.int .i64 x5)∧
 R (.int .i64 (IntKind.wrap .i64 (x4+x5))) h2)
theorem FO (p_0:Int×Int×Int) {R:Value→Heap→Prop} {h:Heap} (hm:AM p_0 R h):ab Tryz.prog 187 #[(.agg #[(.int .i64 p_0.1),(.int .i64 p_0.2.1),(.int .i64 p_0.2.2)])] h R:=aq ag Tryz.func187 .n hm
abbrev Ht:FuncId:=188
noncomputable def AN (seed_0:Int) (R:Value→Heap→Prop) (h:Heap):Prop:=
 aK Tryz.prog (Instr.box 268 (.agg #[(.int .u64 (IntKind.wrap .u64 seed_0))])) h fun a1 h1=>
 R (.pointer (some a1)) h1
theorem FP (seed_0:Int) {R:Value→Heap→Prop} {h:Heap} (hm:AN seed_0 R h):ab Tryz.prog 188 #[(.int .u32 seed_0)] h R:=aq ag Tryz.func188 .n hm
abbrev xL:FuncId:=189
noncomputable def pO (d_0:Option Addr) (R:Value→Heap→Prop) (h:Heap):Prop:=
 Br (Option.isNone d_0)
 (R (.int .u32 (0:Int)) h)
 (∃a1:Addr,(d_0=some a1)∧
 ∃x2:Int,cellOf h a1=some (.int .u64 x2)∧
 ∃a3:Addr,(d_0=some a3)∧
 ae Tryz.prog (Instr.storeAt 180 (.pointer (some a3)) (.int .u64 (IntKind.wrap .u64 ((IntKind.wrap .u64 (x2*(6364136223846793005:Int)))+(1442695040888963407:Int))))) h fun _ h1=>
 ∃a4:Addr,(d_0=some a4)∧
 ∃x5:Int,cellOf h1 a4=some (.int .u64 x5)∧
 (0≤(32:Int))∧
 R (.int .u32 (IntKind.wrap .u32 (Int.fdiv x5 (2^min (32:Int).toNat (IntKind.bits .u64))))) h1)
theorem wq (d_0:Option Addr) {R:Value→Heap→Prop} {h:Heap} (hm:pO d_0 R h):ab Tryz.prog 189 #[(.pointer d_0)] h R:=aq ag Tryz.func189 .n hm
abbrev AO:FuncId:=190
noncomputable def sk (t_0:Sl) (d_1:Option Addr) (R:Value→Heap→Prop) (h:Heap):Prop:=
 Br (((t_0.len:Nat):Int)==(0:Int))
 (R (.int .i64 (0:Int)) h)
 (∃a1:Addr,(t_0.ptr=some a1∧0≤(IntKind.wrap .i64 (((t_0.len:Nat):Int)-(1:Int)))∧(IntKind.wrap .i64 (((t_0.len:Nat):Int)-(1:Int)))<((t_0.len:Nat):Int))∧
 ∃x2:Int,cellOf h (a1.add ((IntKind.wrap .i64 (((t_0.len:Nat):Int)-(1:Int))).toNat*1))=some (.int .i64 x2)∧
 af Tryz.prog 224 #[(.pointer d_1),(.int .i64 x2)] (.one (.sc (.int .i64))) h fun r3 h1=>
 af Tryz.prog 223 #[(.slice t_0.ptr t_0.len t_0.cap),(.int .i64 r3)] (.one (.sc (.int .i64))) h1 fun r4 h2=>
 R (.int .i64 r4) h2)
theorem zg (t_0:Sl) (d_1:Option Addr) {R:Value→Heap→Prop} {h:Heap} (hm:sk t_0 d_1 R h):ab Tryz.prog 190 #[(.slice t_0.ptr t_0.len t_0.cap),(.pointer d_1)] h R:=aq ag Tryz.func190 .n hm
end Go.Proofs.YtkciobclldnoiaaGreat
