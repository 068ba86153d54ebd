/- Part of the proofs that the laws of this seat answer true whatever the input reads, and leave it as it was; no condition. -/
import Derived.Test.YtkciobclldnoiaaGreatTabA
set_option linter.unusedVariables false
set_option linter.unusedSimpArgs false
namespace Go.Proofs.YtkciobclldnoiaaGreat
open Go Go.Vc Go.Proofs
set_option maxRecDepth 1000000
abbrev zh:FuncId:=191
noncomputable def qH (l_0:Int) (R:Value→Heap→Prop) (h:Heap):Prop:=
 aZ (σ:=Unit) (fun _ h1=>
 az Tryz.prog (Instr.makeSlice 22 (.int .i64 (0:Int)) (.int .i64 l_0)) (.one (.sc .slc)) h1 fun v2 h2=>
 aO (σ:=Sl×Int×Int) (fun s3 K2 h3=>
 Br (decide (s3.2.2≤l_0))
 (af Tryz.prog 225 #[(.int .i64 l_0),(.int .i64 s3.2.2)] (.one (.sc (.int .i64))) h3 fun r4 h4=>
 az Tryz.prog (Instr.buildSlice 22 1 #[(0,(.int .i64 (IntKind.wrap .i64 (s3.2.1+r4))))]) (.one (.sc .slc)) h4 fun v5 h5=>
 az Tryz.prog (Builtin.append_ #[22,22] 22 #[(.slice s3.1.ptr s3.1.len s3.1.cap),(.slice v5.ptr v5.len v5.cap)]) (.one (.sc .slc)) h5 fun v6 h6=>
 K2 ((⟨v6.ptr,v6.len,v6.cap⟩:Sl),IntKind.wrap .i64 (s3.2.1+r4),IntKind.wrap .i64 (s3.2.2+(1:Int))) h6)
 (R (.slice s3.1.ptr s3.1.len s3.1.cap) h3)) ((⟨v2.ptr,v2.len,v2.cap⟩:Sl),(0:Int),(1:Int)) h2)
 (fun K1=>
 Br (decide (l_0<(1:Int))) (R (.slice none 0 0) h) (Br (decide (l_0>(64:Int)))
 (R (.slice none 0 0) h)
 (K1 () h)))
theorem xM (l_0:Int) {R:Value→Heap→Prop} {h:Heap} (hm:qH l_0 R h):ab Tryz.prog 191 #[(.int .i64 l_0)] h R:=aq ag Tryz.func191 (.two .n (.two (.join [] [(2,3),(6,12)] .n) (.two .n (.two .n (.two (.two .n (.inn (.loop [(3,(.sc .slc)),(4,(.sc (.int .i64))),(5,(.sc (.int .i64)))] [(3,6),(14,28)] .n))) .n))))) hm
abbrev CA:FuncId:=192
noncomputable def uJ (d_0:Option Addr) (n_1:Int) (k_2:Int) (R:Value→Heap→Prop) (h:Heap):Prop:=
 aZ (σ:=Unit) (fun _ h1=>
 az Tryz.prog (Instr.makeSlice 22 (.int .i64 n_1) (.int .i64 n_1)) (.one (.sc .slc)) h1 fun v2 h2=>
 aO (σ:=Int) (fun s3 K2 h3=>
 Br (decide (s3<((v2.len:Nat):Int)))
 (∃a4:Addr,(v2.ptr=some a4∧0≤s3∧s3<((v2.len:Nat):Int))∧
 ae Tryz.prog (Instr.storeAt 3 (.pointer (some (a4.add (s3.toNat*1)))) (.int .i64 s3)) h3 fun _ h4=>
 K2 (IntKind.wrap .i64 (s3+(1:Int))) h4)
 (aO (σ:=Int) (fun s5 K3 h5=>
 Br (decide (s5<k_2))
 (af Tryz.prog 224 #[(.pointer d_0),(.int .i64 (IntKind.wrap .i64 (n_1-s5)))] (.one (.sc (.int .i64))) h5 fun r6 h6=>
 ∃a7:Addr,(v2.ptr=some a7∧0≤(IntKind.wrap .i64 (s5+r6))∧(IntKind.wrap .i64 (s5+r6))<((v2.len:Nat):Int))∧
 ∃x8:Int,cellOf h6 (a7.add ((IntKind.wrap .i64 (s5+r6)).toNat*1))=some (.int .i64 x8)∧
 ∃a9:Addr,(v2.ptr=some a9∧0≤s5∧s5<((v2.len:Nat):Int))∧
 ∃x10:Int,cellOf h6 (a9.add (s5.toNat*1))=some (.int .i64 x10)∧
 ∃a11:Addr,(v2.ptr=some a11∧0≤s5∧s5<((v2.len:Nat):Int))∧
 ae Tryz.prog (Instr.storeAt 3 (.pointer (some (a11.add (s5.toNat*1)))) (.int .i64 x8)) h6 fun _ h7=>
 (ak.ok [] h7)∧
 ∃a12:Addr,(v2.ptr=some a12∧0≤(IntKind.wrap .i64 (s5+r6))∧(IntKind.wrap .i64 (s5+r6))<((v2.len:Nat):Int))∧
 ae Tryz.prog (Instr.storeAt 3 (.pointer (some (a12.add ((IntKind.wrap .i64 (s5+r6)).toNat*1)))) (.int .i64 x10)) h7 fun _ h8=>
 (ak.ok [] h8)∧
 K3 (IntKind.wrap .i64 (s5+(1:Int))) h8)
 ((0≤k_2∧k_2≤((v2.cap:Nat):Int))∧
 af Tryz.prog 81 #[(.slice v2.ptr k_2.toNat v2.cap)] (.one (.sc .slc)) h5 fun r13 h9=>
 af Tryz.prog 38 #[(.slice r13.ptr r13.len r13.cap)] (.many []) h9 fun _ h10=>
 R (.slice r13.ptr r13.len r13.cap) h10)) (0:Int) h3)) (0:Int) h2)
 (fun K1=>
 Br (decide (n_1<(0:Int))) (R (.slice none 0 0) h) (Br (decide (n_1>(64:Int))) (R (.slice none 0 0) h) (Br (decide (k_2<(0:Int))) (R (.slice none 0 0) h) (Br (decide (k_2>n_1))
 (R (.slice none 0 0) h)
 (K1 () h)))))
theorem AP (d_0:Option Addr) (n_1:Int) (k_2:Int) {R:Value→Heap→Prop} {h:Heap} (hm:uJ d_0 n_1 k_2 R h):ab Tryz.prog 192 #[(.pointer d_0),(.int .i64 n_1),(.int .i64 k_2)] h R:=aq ag Tryz.func192 (.two .n (.two (.join [] [(6,7),(12,27)] .n) (.two .n (.two (.two .n (.inn (.loop [(31,(.sc (.int .i64)))] [(8,9),(31,39)] .n))) (.two (.two .n (.inn (.loop [(40,(.sc (.int .i64)))] [(9,11),(40,65)] .n))) .n))))) hm
abbrev iX:FuncId:=193
noncomputable def fo (data_0:Sl) (a_1:Int) (b_2:Int) (cmp_3:FuncId×Array Value×Array Value) (R:Value→Heap→Prop) (h:Heap):Prop:=
 aO (σ:=Int) (fun s1 K1 h1=>
 Br (decide (s1<b_2))
 (aO (σ:=Int) (fun s2 K2 h2=>
 aZ (σ:=Unit) (fun _ h4=>
 ∃a9:Addr,(data_0.ptr=some a9∧0≤(IntKind.wrap .i64 (s2-(1:Int)))∧(IntKind.wrap .i64 (s2-(1:Int)))<((data_0.len:Nat):Int))∧
 ∃x10:ByteArray×Int×Int×Sl,ai h4 (a9.add ((IntKind.wrap .i64 (s2-(1:Int))).toNat*4)) 0 [(.string x10.1),(.int .i64 x10.2.1),(.int .i64 x10.2.2.1),(.slice x10.2.2.2.ptr x10.2.2.2.len x10.2.2.2.cap)]∧
 ∃a11:Addr,(data_0.ptr=some a11∧0≤s2∧s2<((data_0.len:Nat):Int))∧
 ∃x12:ByteArray×Int×Int×Sl,ai h4 (a11.add (s2.toNat*4)) 0 [(.string x12.1),(.int .i64 x12.2.1),(.int .i64 x12.2.2.1),(.slice x12.2.2.2.ptr x12.2.2.2.len x12.2.2.2.cap)]∧
 ∃a13:Addr,(data_0.ptr=some a13∧0≤s2∧s2<((data_0.len:Nat):Int))∧
 ae Tryz.prog (Instr.storeAt 89 (.pointer (some (a13.add (s2.toNat*4)))) (.agg #[(.string x10.1),(.int .i64 x10.2.1),(.int .i64 x10.2.2.1),(.slice x10.2.2.2.ptr x10.2.2.2.len x10.2.2.2.cap)])) h4 fun _ h5=>
 (ak.ok [] h5)∧
 ∃a14:Addr,(data_0.ptr=some a14∧0≤(IntKind.wrap .i64 (s2-(1:Int)))∧(IntKind.wrap .i64 (s2-(1:Int)))<((data_0.len:Nat):Int))∧
 ae Tryz.prog (Instr.storeAt 89 (.pointer (some (a14.add ((IntKind.wrap .i64 (s2-(1:Int))).toNat*4)))) (.agg #[(.string x12.1),(.int .i64 x12.2.1),(.int .i64 x12.2.2.1),(.slice x12.2.2.2.ptr x12.2.2.2.len x12.2.2.2.cap)])) h5 fun _ h6=>
 (ak.ok [] h6)∧
 K2 (IntKind.wrap .i64 (s2-(1:Int))) h6)
 (fun K3=>
 Br (decide (s2>a_1)) (∃a3:Addr,(data_0.ptr=some a3∧0≤s2∧s2<((data_0.len:Nat):Int))∧
 ∃x4:ByteArray×Int×Int×Sl,ai h2 (a3.add (s2.toNat*4)) 0 [(.string x4.1),(.int .i64 x4.2.1),(.int .i64 x4.2.2.1),(.slice x4.2.2.2.ptr x4.2.2.2.len x4.2.2.2.cap)]∧
 ∃a5:Addr,(data_0.ptr=some a5∧0≤(IntKind.wrap .i64 (s2-(1:Int)))∧(IntKind.wrap .i64 (s2-(1:Int)))<((data_0.len:Nat):Int))∧
 ∃x6:ByteArray×Int×Int×Sl,ai h2 (a5.add ((IntKind.wrap .i64 (s2-(1:Int))).toNat*4)) 0 [(.string x6.1),(.int .i64 x6.2.1),(.int .i64 x6.2.2.1),(.slice x6.2.2.2.ptr x6.2.2.2.len x6.2.2.2.cap)]∧
 fI C cmp_3.1 (cmp_3.2.1.toList++[(.agg #[(.string x4.1),(.int .i64 x4.2.1),(.int .i64 x4.2.2.1),(.slice x4.2.2.2.ptr x4.2.2.2.len x4.2.2.2.cap)]),(.agg #[(.string x6.1),(.int .i64 x6.2.1),(.int .i64 x6.2.2.1),(.slice x6.2.2.2.ptr x6.2.2.2.len x6.2.2.2.cap)])]++cmp_3.2.2.toList) (.one (.sc (.int .i64))) h2 fun r7 h3=>
 (ak.ok [] h3)∧
 Br (decide (r7<(0:Int)))
 (K3 () h3)
 (K1 (IntKind.wrap .i64 (s1+(1:Int))) h3)) ((ak.ok [] h2)∧
 K1 (IntKind.wrap .i64 (s1+(1:Int))) h2))) s1 h1)
 (R (.tuple #[]) h1)) (IntKind.wrap .i64 (a_1+(1:Int))) h
theorem iN (data_0:Sl) (a_1:Int) (b_2:Int) (cmp_3:FuncId×Array Value×Array Value) {R:Value→Heap→Prop} {h:Heap} (hm:fo data_0 a_1 b_2 cmp_3 R h):ab Tryz.prog 193 #[(.slice data_0.ptr data_0.len data_0.cap),(.int .i64 a_1),(.int .i64 b_2),(.func (.func cmp_3.1) cmp_3.2.1 cmp_3.2.2)] h R:=aq ag Tryz.func193 (.two .n (.inn (.loop [(8,(.sc (.int .i64)))] [(8,10),(12,53)] (.two .n (.two (.inn (.two .n (.inn (.loop [(9,(.sc (.int .i64)))] [(9,10),(18,53)] (.two (.join [] [(18,35)] .n) .n))))) .n))))) hm
abbrev kq:FuncId:=201
noncomputable def gr (data_0:Sl) (a_1:Int) (m_2:Int) (b_3:Int) (cmp_4:FuncId×Array Value×Array Value) (R:Value→Heap→Prop) (h:Heap):Prop:=
 aO (σ:=Int×Int) (fun s1 K1 h1=>
 Br (s1.1 !=s1.2)
 (Br (decide (s1.1>s1.2))
 (af Tryz.prog 229 #[(.slice data_0.ptr data_0.len data_0.cap),(.int .i64 (IntKind.wrap .i64 (m_2-s1.1))),(.int .i64 m_2),(.int .i64 s1.2),(.func (.func cmp_4.1) cmp_4.2.1 cmp_4.2.2)] (.many []) h1 fun _ h2=>
 K1 (IntKind.wrap .i64 (s1.1-s1.2),s1.2) h2)
 (af Tryz.prog 229 #[(.slice data_0.ptr data_0.len data_0.cap),(.int .i64 (IntKind.wrap .i64 (m_2-s1.1))),(.int .i64 (IntKind.wrap .i64 ((IntKind.wrap .i64 (m_2+s1.2))-s1.1))),(.int .i64 s1.1),(.func (.func cmp_4.1) cmp_4.2.1 cmp_4.2.2)] (.many []) h1 fun _ h3=>
 K1 (s1.1,IntKind.wrap .i64 (s1.2-s1.1)) h3))
 (af Tryz.prog 229 #[(.slice data_0.ptr data_0.len data_0.cap),(.int .i64 (IntKind.wrap .i64 (m_2-s1.1))),(.int .i64 m_2),(.int .i64 s1.1),(.func (.func cmp_4.1) cmp_4.2.1 cmp_4.2.2)] (.many []) h1 fun _ h4=>
 R (.tuple #[]) h4)) (IntKind.wrap .i64 (m_2-a_1),IntKind.wrap .i64 (b_3-m_2)) h
theorem j8 (data_0:Sl) (a_1:Int) (m_2:Int) (b_3:Int) (cmp_4:FuncId×Array Value×Array Value) {R:Value→Heap→Prop} {h:Heap} (hm:gr data_0 a_1 m_2 b_3 cmp_4 R h):ab Tryz.prog 201 #[(.slice data_0.ptr data_0.len data_0.cap),(.int .i64 a_1),(.int .i64 m_2),(.int .i64 b_3),(.func (.func cmp_4.1) cmp_4.2.1 cmp_4.2.2)] h R:=aq ag Tryz.func201 (.two .n (.two .n (.two (.inn (.loop [(10,(.sc (.int .i64))),(11,(.sc (.int .i64)))] [(10,12),(18,50)] .n)) .n))) hm
abbrev iO:FuncId:=202
noncomputable def fh (s_0:Sl) (f_1:FuncId×Array Value×Array Value) (R:Value→Heap→Prop) (h:Heap):Prop:=
 aO (σ:=Int) (fun s1 K1 h1=>
 Br (decide (s1<((s_0.len:Nat):Int)))
 (∃a2:Addr,(s_0.ptr=some a2∧0≤s1∧s1<((s_0.len:Nat):Int))∧
 ∃x3:Int×Int×Int×Int×Int×Int×Int×Sl,ai h1 (a2.add (s1.toNat*8)) 0 [(.int .i64 x3.1),(.int .i64 x3.2.1),(.int .i64 x3.2.2.1),(.int .i64 x3.2.2.2.1),(.int .i64 x3.2.2.2.2.1),(.int .i64 x3.2.2.2.2.2.1),(.int .u32 x3.2.2.2.2.2.2.1),(.slice x3.2.2.2.2.2.2.2.ptr x3.2.2.2.2.2.2.2.len x3.2.2.2.2.2.2.2.cap)]∧
 fI C f_1.1 (f_1.2.1.toList++[(.agg #[(.int .i64 x3.1),(.int .i64 x3.2.1),(.int .i64 x3.2.2.1),(.int .i64 x3.2.2.2.1),(.int .i64 x3.2.2.2.2.1),(.int .i64 x3.2.2.2.2.2.1),(.int .u32 x3.2.2.2.2.2.2.1),(.slice x3.2.2.2.2.2.2.2.ptr x3.2.2.2.2.2.2.2.len x3.2.2.2.2.2.2.2.cap)])]++f_1.2.2.toList) (.one (.sc .bool)) h1 fun r4 h2=>
 Br r4
 (R (.int .i64 s1) h2)
 (K1 (IntKind.wrap .i64 (s1+(1:Int))) h2))
 (R (.int .i64 (-1:Int)) h1)) (0:Int) h
theorem iI (s_0:Sl) (f_1:FuncId×Array Value×Array Value) {R:Value→Heap→Prop} {h:Heap} (hm:fh s_0 f_1 R h):ab Tryz.prog 202 #[(.slice s_0.ptr s_0.len s_0.cap),(.func (.func f_1.1) f_1.2.1 f_1.2.2)] h R:=aq ag Tryz.func202 (.two .n (.two (.two .n (.inn (.loop [(8,(.sc (.int .i64)))] [(4,6),(8,19)] .n))) .n)) hm
abbrev CB:FuncId:=204
noncomputable def uK (p_0:Int×Int×Int) (seed_1:Int) (ids_2:Sl) (R:Value→Heap→Prop) (h:Heap):Prop:=
 aK Tryz.prog (Instr.box 24 (.agg #[(.int .i64 p_0.1),(.int .i64 p_0.2.1),(.int .i64 p_0.2.2)])) h fun a1 h1=>
 ∃x2:Int×Int×Int,ai h1 a1 0 [(.int .i64 x2.1),(.int .i64 x2.2.1),(.int .i64 x2.2.2)]∧
 af Tryz.prog 147 #[] (.one (.sc .ptr)) h1 fun r3 h2=>
 (ak.ok [(a1,(.int .i64 x2.1)),(a1.add 1,(.int .i64 x2.2.1)),(a1.add 2,(.int .i64 x2.2.2))] h2)∧
 af Tryz.prog 148 #[(.agg #[(.int .i64 x2.1),(.int .i64 x2.2.1),(.int .i64 x2.2.2)]),(.int .u32 seed_1),(.slice ids_2.ptr ids_2.len ids_2.cap)] (.one (.sc .slc)) h2 fun r4 h3=>
 (ak.ok [] h3)∧
 af Tryz.prog 230 #[(.pointer r3),(.slice r4.ptr r4.len r4.cap)] (.one (.sc (.int .i64))) h3 fun r5 h4=>
 (ak.ok [] h4)∧
 R (.int .i64 r5) h4
theorem AQ (p_0:Int×Int×Int) (seed_1:Int) (ids_2:Sl) {R:Value→Heap→Prop} {h:Heap} (hm:uK p_0 seed_1 ids_2 R h):ab Tryz.prog 204 #[(.agg #[(.int .i64 p_0.1),(.int .i64 p_0.2.1),(.int .i64 p_0.2.2)]),(.int .u32 seed_1),(.slice ids_2.ptr ids_2.len ids_2.cap)] h R:=aq ag Tryz.func204 .n hm
abbrev Ec:FuncId:=205
noncomputable def wu (a_0:Sl) (top_1:Int) (col_2:Int) (R:Value→Heap→Prop) (h:Heap):Prop:=
 aO (σ:=Int) (fun s1 K1 h1=>
 Br (decide (s1≥((a_0.len:Nat):Int)))
 (R (.int .i64 (-1:Int)) h1)
 (∃a2:Addr,(a_0.ptr=some a2∧0≤s1∧s1<((a_0.len:Nat):Int))∧
 ∃x3:Sl,cellOf h1 (a2.add (s1.toNat*1))=some (.slice x3.ptr x3.len x3.cap)∧
 ∃a4:Addr,(x3.ptr=some a4∧0≤col_2∧col_2<((x3.len:Nat):Int))∧
 ∃x5:Int,cellOf h1 (a4.add (col_2.toNat*1))=some (.int .u8 x5)∧
 Br (x5 !=(0:Int))
 (R (.int .i64 s1) h1)
 (K1 (IntKind.wrap .i64 (s1+(1:Int))) h1))) top_1 h
theorem CC (a_0:Sl) (top_1:Int) (col_2:Int) {R:Value→Heap→Prop} {h:Heap} (hm:wu a_0 top_1 col_2 R h):ab Tryz.prog 205 #[(.slice a_0.ptr a_0.len a_0.cap),(.int .i64 top_1),(.int .i64 col_2)] h R:=aq ag Tryz.func205 (.two .n (.scope 0 [(7,(.sc (.int .i64)))] [(6,8),(9,24)] [.n] [.n] [(1,[.n])])) hm
abbrev FQ:FuncId:=206
noncomputable def yt (f_0:Option Addr) (c_1:Int) (a_2:Sl) (R:Value→Heap→Prop) (h:Heap):Prop:=
 af Tryz.prog 231 #[(.pointer f_0)] (.one (.sc .ptr)) h fun r1 h1=>
 az Tryz.prog (Instr.makeSlice 46 (.int .i64 ((a_2.len:Nat):Int)) (.int .i64 ((a_2.len:Nat):Int))) (.one (.sc .slc)) h1 fun v2 h2=>
 aO (σ:=Int) (fun s3 K1 h3=>
 Br (decide (s3<((a_2.len:Nat):Int)))
 (∃a4:Addr,(a_2.ptr=some a4∧0≤s3∧s3<((a_2.len:Nat):Int))∧
 ∃x5:Int,cellOf h3 (a4.add (s3.toNat*1))=some (.int .u8 x5)∧
 af Tryz.prog 232 #[(.pointer r1),(.int .u8 c_1),(.int .u8 x5)] (.one (.sc (.int .u8))) h3 fun r6 h4=>
 ∃a7:Addr,(v2.ptr=some a7∧0≤s3∧s3<((v2.len:Nat):Int))∧
 ae Tryz.prog (Instr.storeAt 5 (.pointer (some (a7.add (s3.toNat*1)))) (.int .u8 r6)) h4 fun _ h5=>
 K1 (IntKind.wrap .i64 (s3+(1:Int))) h5)
 (R (.slice v2.ptr v2.len v2.cap) h3)) (0:Int) h2
theorem Ed (f_0:Option Addr) (c_1:Int) (a_2:Sl) {R:Value→Heap→Prop} {h:Heap} (hm:yt f_0 c_1 a_2 R h):ab Tryz.prog 206 #[(.pointer f_0),(.int .u8 c_1),(.slice a_2.ptr a_2.len a_2.cap)] h R:=aq ag Tryz.func206 (.two .n (.two .n (.two .n (.two (.two .n (.inn (.loop [(17,(.sc (.int .i64)))] [(8,10),(17,30)] .n))) .n)))) hm
abbrev AR:FuncId:=207
noncomputable def sm (f_0:Option Addr) (a_1:Int) (R:Value→Heap→Prop) (h:Heap):Prop:=
 Br (a_1==(0:Int))
 (R (.int .u8 (0:Int)) h)
 (af Tryz.prog 233 #[(.pointer f_0)] (.one (.sc .ptr)) h fun r1 h1=>
 ∃a2:Addr,(r1=some a2)∧
 (0≤a_1∧a_1<((256:Nat):Int))∧
 ∃x3:Int,cellOf h1 ((a2.add 255).add (a_1.toNat*1))=some (.int .i64 x3)∧
 ((255:Int)≠0)∧
 ∃a4:Addr,(r1=some a4)∧
 (0≤(Int.tmod (IntKind.wrap .i64 ((255:Int)-x3)) (255:Int))∧(Int.tmod (IntKind.wrap .i64 ((255:Int)-x3)) (255:Int))<((255:Nat):Int))∧
 ∃x5:Int,cellOf h1 (a4.add ((Int.tmod (IntKind.wrap .i64 ((255:Int)-x3)) (255:Int)).toNat*1))=some (.int .u8 x5)∧
 R (.int .u8 x5) h1)
theorem zi (f_0:Option Addr) (a_1:Int) {R:Value→Heap→Prop} {h:Heap} (hm:sm f_0 a_1 R h):ab Tryz.prog 207 #[(.pointer f_0),(.int .u8 a_1)] h R:=aq ag Tryz.func207 .n hm
abbrev AS:FuncId:=208
noncomputable def Dg (f_0:Option Addr) (c_1:Int) (a_2:Sl) (to_3:Sl) (R:Value→Heap→Prop) (h:Heap):Prop:=
 Br (c_1==(0:Int))
 (R (.tuple #[]) h)
 (aO (σ:=Int) (fun s1 K1 h1=>
 Br (decide (s1<((a_2.len:Nat):Int)))
 (∃a2:Addr,(a_2.ptr=some a2∧0≤s1∧s1<((a_2.len:Nat):Int))∧
 ∃x3:Int,cellOf h1 (a2.add (s1.toNat*1))=some (.int .u8 x3)∧
 ∃a4:Addr,(to_3.ptr=some a4∧0≤s1∧s1<((to_3.len:Nat):Int))∧
 ∃x5:Int,cellOf h1 (a4.add (s1.toNat*1))=some (.int .u8 x5)∧
 af Tryz.prog 232 #[(.pointer f_0),(.int .u8 c_1),(.int .u8 x3)] (.one (.sc (.int .u8))) h1 fun r6 h2=>
 (ak.ok [(a4.add (s1.toNat*1),(.int .u8 x5))] h2)∧
 ∃a7:Addr,(to_3.ptr=some a7∧0≤s1∧s1<((to_3.len:Nat):Int))∧
 ae Tryz.prog (Instr.storeAt 5 (.pointer (some (a7.add (s1.toNat*1)))) (.int .u8 (IntKind.wrap .u8 ((BitVec.ofInt (IntKind.bits .u8) x5^^^(BitVec.ofInt (IntKind.bits .u8) r6)).toNat:Nat)))) h2 fun _ h3=>
 (ak.ok [] h3)∧
 K1 (IntKind.wrap .i64 (s1+(1:Int))) h3)
 (R (.tuple #[]) h1)) (0:Int) h)
theorem Hu (f_0:Option Addr) (c_1:Int) (a_2:Sl) (to_3:Sl) {R:Value→Heap→Prop} {h:Heap} (hm:Dg f_0 c_1 a_2 to_3 R h):ab Tryz.prog 208 #[(.pointer f_0),(.int .u8 c_1),(.slice a_2.ptr a_2.len a_2.cap),(.slice to_3.ptr to_3.len to_3.cap)] h R:=aq ag Tryz.func208 (.two .n (.two .n (.inn (.loop [(14,(.sc (.int .i64)))] [(8,10),(14,30)] .n)))) hm
abbrev Hv:FuncId:=211
noncomputable def AT (a_0:Int) (b_1:Int) (R:Value→Heap→Prop) (h:Heap):Prop:=
 aO (σ:=Int×Int×Int) (fun s1 K1 h1=>
 Br (s1.2.1==(0:Int))
 (R (.int .u8 s1.2.2) h1)
 (aZ (σ:=Int) (fun s2 h2=>
 (0≤(1:Int))∧
 aZ (σ:=Int) (fun s3 h3=>
 (0≤(1:Int))∧
 K1 (s3,Int.fdiv s1.2.1 (2^min (1:Int).toNat (IntKind.bits .u8)),s2) h3)
 (fun K3=>
 Br ((IntKind.wrap .u8 ((BitVec.ofInt (IntKind.bits .u8) s1.1&&&(BitVec.ofInt (IntKind.bits .u8) (128:Int))).toNat:Nat)) !=(0:Int))
 (K3 (IntKind.wrap .u8 ((BitVec.ofInt (IntKind.bits .u8) (IntKind.wrap .u8 (s1.1*2^min (1:Int).toNat (IntKind.bits .u8)))^^^(BitVec.ofInt (IntKind.bits .u8) (27:Int))).toNat:Nat)) h2)
 (K3 (IntKind.wrap .u8 (s1.1*2^min (1:Int).toNat (IntKind.bits .u8))) h2)))
 (fun K2=>
 Br ((IntKind.wrap .u8 ((BitVec.ofInt (IntKind.bits .u8) s1.2.1&&&(BitVec.ofInt (IntKind.bits .u8) (1:Int))).toNat:Nat))==(1:Int))
 (K2 (IntKind.wrap .u8 ((BitVec.ofInt (IntKind.bits .u8) s1.2.2^^^(BitVec.ofInt (IntKind.bits .u8) s1.1)).toNat:Nat)) h1)
 (K2 s1.2.2 h1)))) (a_0,b_1,(0:Int)) h
theorem FR (a_0:Int) (b_1:Int) {R:Value→Heap→Prop} {h:Heap} (hm:AT a_0 b_1 R h):ab Tryz.prog 211 #[(.int .u8 a_0),(.int .u8 b_1)] h R:=aq ag Tryz.func211 (.two .n (.scope 0 [(0,(.sc (.int .u8))),(1,(.sc (.int .u8))),(5,(.sc (.int .u8)))] [(0,2),(4,26)] [.n] [(.two .n (.two (.join [(5,(.sc (.int .u8)))] [(5,6),(10,16)] .n) (.two .n (.two .n (.two (.join [(0,(.sc (.int .u8)))] [(0,1),(21,24)] .n) .n)))))] [])) hm
abbrev Hw:FuncId:=212
noncomputable def AU (n_0:Int) (at_1:Int) (R:Value→Heap→Prop) (h:Heap):Prop:=
 aZ (σ:=Unit) (fun _ h1=>
 az Tryz.prog (Instr.makeSlice 46 (.int .i64 n_0) (.int .i64 n_0)) (.one (.sc .slc)) h1 fun v2 h2=>
 ∃a3:Addr,(v2.ptr=some a3∧0≤at_1∧at_1<((v2.len:Nat):Int))∧
 ae Tryz.prog (Instr.storeAt 5 (.pointer (some (a3.add (at_1.toNat*1)))) (.int .u8 (1:Int))) h2 fun _ h3=>
 R (.slice v2.ptr v2.len v2.cap) h3)
 (fun K1=>
 Br (decide (n_0<(1:Int))) (R (.slice none 0 0) h) (Br (decide (n_0>(64:Int))) (R (.slice none 0 0) h) (Br (decide (at_1<(0:Int))) (R (.slice none 0 0) h) (Br (decide (at_1≥n_0))
 (R (.slice none 0 0) h)
 (K1 () h)))))
theorem FT (n_0:Int) (at_1:Int) {R:Value→Heap→Prop} {h:Heap} (hm:AU n_0 at_1 R h):ab Tryz.prog 212 #[(.int .i64 n_0),(.int .i64 at_1)] h R:=aq ag Tryz.func212 (.two .n (.two (.join [] [(4,5),(6,21)] .n) .n)) hm
abbrev AV:FuncId:=213
noncomputable def so (f_0:Option Addr) (n_1:Int) (R:Value→Heap→Prop) (h:Heap):Prop:=
 ((255:Int)≠0)∧
 aZ (σ:=Int) (fun s1 h1=>
 af Tryz.prog 233 #[(.pointer f_0)] (.one (.sc .ptr)) h1 fun r2 h2=>
 ∃a3:Addr,(r2=some a3)∧
 (0≤s1∧s1<((255:Nat):Int))∧
 ∃x4:Int,cellOf h2 (a3.add (s1.toNat*1))=some (.int .u8 x4)∧
 R (.int .u8 x4) h2)
 (fun K1=>
 Br (decide ((Int.tmod n_1 (255:Int))<(0:Int)))
 (K1 (IntKind.wrap .i64 ((Int.tmod n_1 (255:Int))+(255:Int))) h)
 (K1 (Int.tmod n_1 (255:Int)) h))
theorem zj (f_0:Option Addr) (n_1:Int) {R:Value→Heap→Prop} {h:Heap} (hm:so f_0 n_1 R h):ab Tryz.prog 213 #[(.pointer f_0),(.int .i64 n_1)] h R:=aq ag Tryz.func213 (.two .n (.two .n (.two (.join [(1,(.sc (.int .i64)))] [(1,2),(7,11)] .n) .n))) hm
abbrev Ee:FuncId:=214
noncomputable def wv (z_0:Nat×Nat) (n_1:Int) (R:Value→Heap→Prop) (h:Heap):Prop:=
 ((4:Int)≠0)∧
 ((4:Int)≠0)∧
 aO (σ:=((Nat×Nat))×Int) (fun s1 K1 h1=>
 Br (decide (s1.2<(Int.tmod (IntKind.wrap .i64 ((Int.tmod n_1 (4:Int))+(4:Int))) (4:Int))))
 (∃z2:Nat×Nat,(iB Tryz.prog .mul 191 (.tmp 11) (.const (.complex .f64 0 4607182418800017408)) (.complex .f64 s1.1.1 s1.1.2) (.complex .f64 0 4607182418800017408) (.complex .f64 z2.1 z2.2))∧
 K1 ((z2.1,z2.2),IntKind.wrap .i64 (s1.2+(1:Int))) h1)
 (R (.complex .f64 s1.1.1 s1.1.2) h1)) ((z_0.1,z_0.2),(0:Int)) h
theorem CD (z_0:Nat×Nat) (n_1:Int) {R:Value→Heap→Prop} {h:Heap} (hm:wv z_0 n_1 R h):ab Tryz.prog 214 #[(.complex .f64 z_0.1 z_0.2),(.int .i64 n_1)] h R:=aq ag Tryz.func214 (.two .n (.two (.two .n (.inn (.loop [(0,(.sc (.cpx .f64))),(9,(.sc (.int .i64)))] [(0,1),(9,14)] .n))) .n)) hm
abbrev xN:FuncId:=223
noncomputable def pP (t_0:Sl) (x_1:Int) (R:Value→Heap→Prop) (h:Heap):Prop:=
 aZ (σ:=Unit) (fun _ h1=>
 aO (σ:=Int) (fun s4 K2 h2=>
 Br (decide (s4<((t_0.len:Nat):Int)))
 (∃a5:Addr,(t_0.ptr=some a5∧0≤s4∧s4<((t_0.len:Nat):Int))∧
 ∃x6:Int,cellOf h2 (a5.add (s4.toNat*1))=some (.int .i64 x6)∧
 Br (decide (x6>x_1))
 (R (.int .i64 (IntKind.wrap .i64 (s4+(1:Int)))) h2)
 (K2 (IntKind.wrap .i64 (s4+(1:Int))) h2))
 (R (.int .i64 (0:Int)) h2)) (0:Int) h1)
 (fun K1=>
 Br (((t_0.len:Nat):Int)==(0:Int)) (R (.int .i64 (0:Int)) h) (Br (decide (x_1<(0:Int))) (R (.int .i64 (0:Int)) h) (∃a1:Addr,(t_0.ptr=some a1∧0≤(IntKind.wrap .i64 (((t_0.len:Nat):Int)-(1:Int)))∧(IntKind.wrap .i64 (((t_0.len:Nat):Int)-(1:Int)))<((t_0.len:Nat):Int))∧
 ∃x2:Int,cellOf h (a1.add ((IntKind.wrap .i64 (((t_0.len:Nat):Int)-(1:Int))).toNat*1))=some (.int .i64 x2)∧
 Br (decide (x_1≥x2))
 (R (.int .i64 (0:Int)) h)
 (K1 () h))))
theorem wx (t_0:Sl) (x_1:Int) {R:Value→Heap→Prop} {h:Heap} (hm:pP t_0 x_1 R h):ab Tryz.prog 223 #[(.slice t_0.ptr t_0.len t_0.cap),(.int .i64 x_1)] h R:=aq ag Tryz.func223 (.two .n (.two (.join [] [(4,5),(7,24)] .n) (.two (.two .n (.inn (.loop [(26,(.sc (.int .i64)))] [(4,7),(26,37)] .n))) .n))) hm
abbrev wy:FuncId:=224
noncomputable def oA (d_0:Option Addr) (n_1:Int) (R:Value→Heap→Prop) (h:Heap):Prop:=
 aZ (σ:=Unit) (fun _ h1=>
 af Tryz.prog 189 #[(.pointer d_0)] (.one (.sc (.int .u32))) h1 fun r2 h2=>
 ((IntKind.wrap .u64 n_1)≠0)∧
 R (.int .i64 (IntKind.wrap .i64 (Int.tmod (IntKind.wrap .u64 r2) (IntKind.wrap .u64 n_1)))) h2)
 (fun K1=>
 Br (Option.isNone d_0) (R (.int .i64 (0:Int)) h) (Br (decide (n_1≤(0:Int)))
 (R (.int .i64 (0:Int)) h)
 (K1 () h)))
theorem vi (d_0:Option Addr) (n_1:Int) {R:Value→Heap→Prop} {h:Heap} (hm:oA d_0 n_1 R h):ab Tryz.prog 224 #[(.pointer d_0),(.int .i64 n_1)] h R:=aq ag Tryz.func224 (.two .n (.two (.join [] [(4,11)] .n) .n)) hm
abbrev xO:FuncId:=225
noncomputable def pQ (l_0:Int) (k_1:Int) (R:Value→Heap→Prop) (h:Heap):Prop:=
 af Tryz.prog 237 #[(.int .i64 l_0)] (.one (.sc (.int .i64))) h fun r1 h1=>
 (l_0≠0)∧
 aZ (σ:=Int) (fun s2 h2=>
 aZ (σ:=Int) (fun s4 h4=>
 R (.int .i64 s4) h4)
 (fun K2=>
 (r1≠0)∧
 Br (decide (k_1<(IntKind.wrap .i64 (Int.tdiv l_0 r1))))
 (((IntKind.wrap .i64 (l_0*k_1))≠0)∧
 K2 (IntKind.wrap .i64 (s2+(IntKind.wrap .i64 (Int.tdiv (IntKind.wrap .i64 ((1048576:Int)*r1)) (IntKind.wrap .i64 (l_0*k_1)))))) h2)
 (Br (k_1==(IntKind.wrap .i64 (Int.tdiv l_0 r1)))
 (af Tryz.prog 77 #[(.int .u64 (IntKind.wrap .u64 r1))] (.one (.sc (.int .i64))) h2 fun r3 h3=>
 (l_0≠0)∧
 K2 (IntKind.wrap .i64 (s2+(IntKind.wrap .i64 (Int.tdiv (IntKind.wrap .i64 ((IntKind.wrap .i64 ((1048576:Int)*r1))*r3)) l_0)))) h3)
 (K2 s2 h2))))
 (fun K1=>
 Br (decide (k_1>(1:Int)))
 (((IntKind.wrap .i64 (k_1*(IntKind.wrap .i64 (k_1-(1:Int)))))≠0)∧
 K1 (IntKind.wrap .i64 (Int.tdiv (1048576:Int) (IntKind.wrap .i64 (k_1*(IntKind.wrap .i64 (k_1-(1:Int))))))) h1)
 (K1 (IntKind.wrap .i64 (Int.tdiv (1048576:Int) l_0)) h1))
theorem wz (l_0:Int) (k_1:Int) {R:Value→Heap→Prop} {h:Heap} (hm:pQ l_0 k_1 R h):ab Tryz.prog 225 #[(.int .i64 l_0),(.int .i64 k_1)] h R:=aq ag Tryz.func225 (.two .n (.two .n (.two .n (.two (.join [(6,(.sc (.int .i64)))] [(6,7),(12,19)] .n) (.two (.join [(6,(.sc (.int .i64)))] [(6,8),(19,48)] .n) .n))))) hm
end Go.Proofs.YtkciobclldnoiaaGreat
