/- Part of the proofs that the laws of this seat answer true whatever the input reads, and leave it as it was; no condition. -/
import Derived.Test.YtdoiokchdaoonaaGreatTabA
set_option linter.unusedVariables false
set_option linter.unusedSimpArgs false
namespace Go.Proofs.YtdoiokchdaoonaaGreat
open Go Go.Vc Go.Proofs
set_option maxRecDepth 1000000
abbrev BF:FuncId:=190
noncomputable def uj (d_0:Option Addr) (m_1:Int×Int×Int×Int×Int×Int×Sl×Sl) (R:Value→Heap→Prop) (h:Heap):Prop:=
 aM Tryz.prog (Instr.box 50 (.agg #[(.int .i64 m_1.1),(.int .i64 m_1.2.1),(.int .i64 m_1.2.2.1),(.int .i64 m_1.2.2.2.1),(.int .i64 m_1.2.2.2.2.1),(.int .i64 m_1.2.2.2.2.2.1),(.slice m_1.2.2.2.2.2.2.1.ptr m_1.2.2.2.2.2.2.1.len m_1.2.2.2.2.2.2.1.cap),(.slice m_1.2.2.2.2.2.2.2.ptr m_1.2.2.2.2.2.2.2.len m_1.2.2.2.2.2.2.2.cap)])) h fun a1 h1=>
 ∃x2:Int×Int×Int×Int×Int×Int×Sl×Sl,ai h1 a1 0 [(.int .i64 x2.1),(.int .i64 x2.2.1),(.int .i64 x2.2.2.1),(.int .i64 x2.2.2.2.1),(.int .i64 x2.2.2.2.2.1),(.int .i64 x2.2.2.2.2.2.1),(.slice x2.2.2.2.2.2.2.1.ptr x2.2.2.2.2.2.2.1.len x2.2.2.2.2.2.2.1.cap),(.slice x2.2.2.2.2.2.2.2.ptr x2.2.2.2.2.2.2.2.len x2.2.2.2.2.2.2.2.cap)]∧
 af Tryz.prog 109 #[(.pointer d_0),(.agg #[(.int .i64 x2.1),(.int .i64 x2.2.1),(.int .i64 x2.2.2.1),(.int .i64 x2.2.2.2.1),(.int .i64 x2.2.2.2.2.1),(.int .i64 x2.2.2.2.2.2.1),(.slice x2.2.2.2.2.2.2.1.ptr x2.2.2.2.2.2.2.1.len x2.2.2.2.2.2.2.1.cap),(.slice x2.2.2.2.2.2.2.2.ptr x2.2.2.2.2.2.2.2.len x2.2.2.2.2.2.2.2.cap)])] (.one (.sc .slc)) h1 fun r3 h2=>
 aK (σ:=Sl×Int) (fun s4 K1 h3=>
 Br (decide (s4.2<((r3.len:Nat):Int)))
 (∃a5:Addr,(r3.ptr=some a5∧0≤s4.2∧s4.2<((r3.len:Nat):Int))∧
 ∃x6:Int×Int×Int×Int×Int×Int×Int×Sl,ai h3 (a5.add (s4.2.toNat*8)) 0 [(.int .i64 x6.1),(.int .i64 x6.2.1),(.int .i64 x6.2.2.1),(.int .i64 x6.2.2.2.1),(.int .i64 x6.2.2.2.2.1),(.int .i64 x6.2.2.2.2.2.1),(.int .u32 x6.2.2.2.2.2.2.1),(.slice x6.2.2.2.2.2.2.2.ptr x6.2.2.2.2.2.2.2.len x6.2.2.2.2.2.2.2.cap)]∧
 aM Tryz.prog (Instr.alloc 149 true (.tuple #[])) h3 fun a7 h4=>
 ae Tryz.prog (Instr.storeAt 149 (.pointer (some a7)) (.agg #[(.int .i64 x6.1),(.int .i64 x6.2.1),(.int .i64 x6.2.2.1),(.int .i64 x6.2.2.2.1),(.int .i64 x6.2.2.2.2.1),(.int .i64 x6.2.2.2.2.2.1),(.int .u32 x6.2.2.2.2.2.2.1),(.slice x6.2.2.2.2.2.2.2.ptr x6.2.2.2.2.2.2.2.len x6.2.2.2.2.2.2.2.cap)])) h4 fun _ h5=>
 ∃x8:Int×Int×Int×Int×Int×Int×Int×Sl,ai h5 a7 0 [(.int .i64 x8.1),(.int .i64 x8.2.1),(.int .i64 x8.2.2.1),(.int .i64 x8.2.2.2.1),(.int .i64 x8.2.2.2.2.1),(.int .i64 x8.2.2.2.2.2.1),(.int .u32 x8.2.2.2.2.2.2.1),(.slice x8.2.2.2.2.2.2.2.ptr x8.2.2.2.2.2.2.2.len x8.2.2.2.2.2.2.2.cap)]∧
 af Tryz.prog 95 #[(.agg #[(.int .i64 x8.1),(.int .i64 x8.2.1),(.int .i64 x8.2.2.1),(.int .i64 x8.2.2.2.1),(.int .i64 x8.2.2.2.2.1),(.int .i64 x8.2.2.2.2.2.1),(.int .u32 x8.2.2.2.2.2.2.1),(.slice x8.2.2.2.2.2.2.2.ptr x8.2.2.2.2.2.2.2.len x8.2.2.2.2.2.2.2.cap)])] (.one (.sc .slc)) h5 fun r9 h6=>
 av Tryz.prog (Instr.buildSlice 78 1 #[(0,(.slice r9.ptr r9.len r9.cap))]) (.one (.sc .slc)) h6 fun v10 h7=>
 av Tryz.prog (Builtin.append_ #[78,78] 78 #[(.slice s4.1.ptr s4.1.len s4.1.cap),(.slice v10.ptr v10.len v10.cap)]) (.one (.sc .slc)) h7 fun v11 h8=>
 K1 ((⟨v11.ptr,v11.len,v11.cap⟩:Sl),IntKind.wrap .i64 (s4.2+(1:Int))) h8)
 (R (.slice s4.1.ptr s4.1.len s4.1.cap) h3)) ((⟨none,0,0⟩:Sl),(0:Int)) h2
theorem z6 (d_0:Option Addr) (m_1:Int×Int×Int×Int×Int×Int×Sl×Sl) {R:Value→Heap→Prop} {h:Heap} (hm:uj d_0 m_1 R h):ab Tryz.prog 190 #[(.pointer d_0),(.agg #[(.int .i64 m_1.1),(.int .i64 m_1.2.1),(.int .i64 m_1.2.2.1),(.int .i64 m_1.2.2.2.1),(.int .i64 m_1.2.2.2.2.1),(.int .i64 m_1.2.2.2.2.2.1),(.slice m_1.2.2.2.2.2.2.1.ptr m_1.2.2.2.2.2.2.1.len m_1.2.2.2.2.2.2.1.cap),(.slice m_1.2.2.2.2.2.2.2.ptr m_1.2.2.2.2.2.2.2.len m_1.2.2.2.2.2.2.2.cap)])] h R:=al ag Tryz.func190 (.two .n (.two .n (.two (.two .n (.inn (.loop [(5,(.sc .slc)),(12,(.sc (.int .i64)))] [(5,6),(7,8),(12,22)] .n))) .n))) hm
abbrev BG:FuncId:=191
noncomputable def uk (f_0:Option Addr) (a_1:Sl) (R:Value→Heap→Prop) (h:Heap):Prop:=
 af Tryz.prog 160 #[(.slice a_1.ptr a_1.len a_1.cap)] (.one (.sc .bool)) h fun r1 h1=>
 Br (!r1)
 (R (.slice none 0 0) h1)
 (af Tryz.prog 162 #[(.slice a_1.ptr a_1.len a_1.cap)] (.one (.sc .slc)) h1 fun r2 h2=>
 af Tryz.prog 164 #[(.pointer f_0)] (.one (.sc .ptr)) h2 fun r3 h3=>
 af Tryz.prog 161 #[(.slice r2.ptr r2.len r2.cap)] (.one (.sc (.int .i64))) h3 fun r4 h4=>
 af Tryz.prog 163 #[(.pointer r3),(.slice r2.ptr r2.len r2.cap),(.int .i64 r4)] (.one (.sc (.int .i64))) h4 fun r5 h5=>
 (0≤r5∧r5≤((r2.cap:Nat):Int))∧
 R (.slice r2.ptr r5.toNat r2.cap) h5)
theorem z7 (f_0:Option Addr) (a_1:Sl) {R:Value→Heap→Prop} {h:Heap} (hm:uk f_0 a_1 R h):ab Tryz.prog 191 #[(.pointer f_0),(.slice a_1.ptr a_1.len a_1.cap)] h R:=al ag Tryz.func191 .n hm
abbrev Dj:FuncId:=192
noncomputable def vU (b_0:Sl) (R:Value→Heap→Prop) (h:Heap):Prop:=
 Br (((b_0.len:Nat):Int) !=(64:Int))
 (R (.tuple #[(.int .i64 (0:Int)),(.slice none 0 0),(.bool false)]) h)
 (∃a1:Addr,(b_0.ptr=some a1∧0≤(3:Int)∧(3:Int)<((b_0.len:Nat):Int))∧
 ∃x2:Int,cellOf h (a1.add ((3:Int).toNat*1))=some (.int .u8 x2)∧
 (0≤(4:Int)∧(4:Int)≤(59:Int)∧(59:Int)≤((b_0.cap:Nat):Int))∧
 af Tryz.prog 115 #[(.slice (if b_0.cap=(4:Int).toNat then b_0.ptr else b_0.ptr.map (·.add ((4:Int).toNat*1))) ((59:Int).toNat-(4:Int).toNat) (b_0.cap-(4:Int).toNat))] (.one (.sc .slc)) h fun r3 h1=>
 (aw.ok [(a1.add ((3:Int).toNat*1),(.int .u8 x2))] h1)∧
 af Tryz.prog 114 #[(.int .i64 (IntKind.wrap .i64 x2)),(.slice r3.ptr r3.len r3.cap)] (.one (.sc .slc)) h1 fun r4 h2=>
 af Tryz.prog 69 #[(.slice b_0.ptr b_0.len b_0.cap),(.slice r4.ptr r4.len r4.cap)] (.one (.sc .bool)) h2 fun r5 h3=>
 Br (!r5)
 (R (.tuple #[(.int .i64 (0:Int)),(.slice none 0 0),(.bool false)]) h3)
 (R (.tuple #[(.int .i64 (IntKind.wrap .i64 x2)),(.slice r3.ptr r3.len r3.cap),(.bool true)]) h3))
theorem BH (b_0:Sl) {R:Value→Heap→Prop} {h:Heap} (hm:vU b_0 R h):ab Tryz.prog 192 #[(.slice b_0.ptr b_0.len b_0.cap)] h R:=al ag Tryz.func192 .n hm
abbrev fP:FuncId:=193
noncomputable def sg (b_0:Sl) (R:Value→Heap→Prop) (h:Heap):Prop:=
 aK (σ:=Int×Int) (fun s1 K1 h1=>
 Br (decide (s1.2<((b_0.len:Nat):Int)))
 (∃a2:Addr,(b_0.ptr=some a2∧0≤s1.2∧s1.2<((b_0.len:Nat):Int))∧
 ∃x3:Int,cellOf h1 (a2.add (s1.2.toNat*1))=some (.int .u8 x3)∧
 (0≤(8:Int))∧
 K1 (IntKind.wrap .i64 ((BitVec.ofInt (IntKind.bits .i64) (IntKind.wrap .i64 (s1.1*2^min (8:Int).toNat (IntKind.bits .i64)))|||(BitVec.ofInt (IntKind.bits .i64) (IntKind.wrap .i64 x3))).toNat:Nat),IntKind.wrap .i64 (s1.2+(1:Int))) h1)
 (R (.int .i64 s1.1) h1)) ((0:Int),(0:Int)) h
theorem yx (b_0:Sl) {R:Value→Heap→Prop} {h:Heap} (hm:sg b_0 R h):ab Tryz.prog 193 #[(.slice b_0.ptr b_0.len b_0.cap)] h R:=al ag Tryz.func193 (.two .n (.two .n (.two (.two .n (.inn (.loop [(3,(.sc (.int .i64))),(8,(.sc (.int .i64)))] [(3,4),(5,6),(8,18)] .n))) .n))) hm
abbrev wU:FuncId:=194
noncomputable def oI (x_0:ByteArray×Int×Int×Sl) (cap_1:Addr) (R:Value→Heap→Prop) (h:Heap):Prop:=
 aM Tryz.prog (Instr.box 54 (.agg #[(.string x_0.1),(.int .i64 x_0.2.1),(.int .i64 x_0.2.2.1),(.slice x_0.2.2.2.ptr x_0.2.2.2.len x_0.2.2.2.cap)])) h fun a1 h1=>
 ∃x2:Int,cellOf h1 (a1.add 1)=some (.int .i64 x2)∧
 ∃x3:Int,cellOf h1 cap_1=some (.int .i64 x3)∧
 Br (x2==x3) (∃x4:Sl,cellOf h1 (a1.add 3)=some (.slice x4.ptr x4.len x4.cap)∧
 ∃x5:Int,cellOf h1 (cap_1.add 1)=some (.int .i64 x5)∧
 Br (decide (((x4.len:Nat):Int)>x5)) (∃x6:Int,cellOf h1 (cap_1.add 6)=some (.int .u32 x6)∧
 ∃x7:Int,cellOf h1 cap_1=some (.int .i64 x7)∧
 ∃x8:Int,cellOf h1 (cap_1.add 1)=some (.int .i64 x8)∧
 ∃x9:Sl,cellOf h1 (a1.add 3)=some (.slice x9.ptr x9.len x9.cap)∧
 ∃x10:Int,cellOf h1 (cap_1.add 1)=some (.int .i64 x10)∧
 ∃a11:Addr,(x9.ptr=some a11∧0≤x10∧x10<((x9.len:Nat):Int))∧
 ∃x12:Int,cellOf h1 (a11.add (x10.toNat*1))=some (.int .i64 x12)∧
 af Tryz.prog 20 #[(.int .i64 x7),(.int .i64 x8),(.int .i64 x12)] (.one (.sc (.int .u32))) h1 fun r13 h2=>
 (aw.ok [(cap_1.add 1,(.int .i64 x10)),(a1.add 3,(.slice x9.ptr x9.len x9.cap)),(cap_1.add 6,(.int .u32 x6)),(cap_1.add 1,(.int .i64 x5)),(a1.add 3,(.slice x4.ptr x4.len x4.cap)),(cap_1,(.int .i64 x3)),(a1.add 1,(.int .i64 x2))] h2)∧
 R (.bool (x6==r13)) h2) ((aw.ok [(cap_1.add 1,(.int .i64 x5)),(a1.add 3,(.slice x4.ptr x4.len x4.cap)),(cap_1,(.int .i64 x3)),(a1.add 1,(.int .i64 x2))] h1)∧
 R (.bool false) h1)) ((aw.ok [(cap_1,(.int .i64 x3)),(a1.add 1,(.int .i64 x2))] h1)∧
 R (.bool false) h1)
theorem vt (x_0:ByteArray×Int×Int×Sl) (cap_1:Addr) {R:Value→Heap→Prop} {h:Heap} (hm:oI x_0 cap_1 R h):ab Tryz.prog 194 #[(.agg #[(.string x_0.1),(.int .i64 x_0.2.1),(.int .i64 x_0.2.2.1),(.slice x_0.2.2.2.ptr x_0.2.2.2.len x_0.2.2.2.cap)]),(.pointer (some cap_1))] h R:=al ag Tryz.func194 .n hm
abbrev jG:FuncId:=195
noncomputable def fM (data_0:Sl) (n_1:Int) (cmp_2:FuncId×Array Value×Array Value) (R:Value→Heap→Prop) (h:Heap):Prop:=
 aK (σ:=Int×Int) (fun s1 K1 h1=>
 Br (decide (s1.2≤n_1))
 (af Tryz.prog 233 #[(.slice data_0.ptr data_0.len data_0.cap),(.int .i64 s1.1),(.int .i64 s1.2),(.func (.func cmp_2.1) cmp_2.2.1 cmp_2.2.2)] (.many []) h1 fun _ h2=>
 K1 (s1.2,IntKind.wrap .i64 (s1.2+(20:Int))) h2)
 (af Tryz.prog 233 #[(.slice data_0.ptr data_0.len data_0.cap),(.int .i64 s1.1),(.int .i64 n_1),(.func (.func cmp_2.1) cmp_2.2.1 cmp_2.2.2)] (.many []) h1 fun _ h3=>
 aK (σ:=Int) (fun s4 K2 h4=>
 Br (decide (s4<n_1))
 (aK (σ:=Int×Int) (fun s5 K3 h5=>
 Br (decide (s5.2≤n_1))
 (af Tryz.prog 234 #[(.slice data_0.ptr data_0.len data_0.cap),(.int .i64 s5.1),(.int .i64 (IntKind.wrap .i64 (s5.1+s4))),(.int .i64 s5.2),(.func (.func cmp_2.1) cmp_2.2.1 cmp_2.2.2)] (.many []) h5 fun _ h6=>
 K3 (s5.2,IntKind.wrap .i64 (s5.2+(IntKind.wrap .i64 ((2:Int)*s4)))) h6)
 (Br (decide ((IntKind.wrap .i64 (s5.1+s4))<n_1))
 (af Tryz.prog 234 #[(.slice data_0.ptr data_0.len data_0.cap),(.int .i64 s5.1),(.int .i64 (IntKind.wrap .i64 (s5.1+s4))),(.int .i64 n_1),(.func (.func cmp_2.1) cmp_2.2.1 cmp_2.2.2)] (.many []) h5 fun _ h7=>
 K2 (IntKind.wrap .i64 (s4*(2:Int))) h7)
 (K2 (IntKind.wrap .i64 (s4*(2:Int))) h5))) ((0:Int),IntKind.wrap .i64 ((2:Int)*s4)) h4)
 (R (.tuple #[]) h4)) (20:Int) h3)) ((0:Int),(20:Int)) h
theorem jr (data_0:Sl) (n_1:Int) (cmp_2:FuncId×Array Value×Array Value) {R:Value→Heap→Prop} {h:Heap} (hm:fM data_0 n_1 cmp_2 R h):ab Tryz.prog 195 #[(.slice data_0.ptr data_0.len data_0.cap),(.int .i64 n_1),(.func (.func cmp_2.1) cmp_2.2.1 cmp_2.2.2)] h R:=al ag Tryz.func195 (.two .n (.two .n (.two (.inn (.loop [(7,(.sc (.int .i64))),(8,(.sc (.int .i64)))] [(7,9),(11,23)] .n)) (.two .n (.inn (.loop [(6,(.sc (.int .i64)))] [(6,10),(28,63)] (.two .n (.inn (.two .n (.two (.inn (.loop [(7,(.sc (.int .i64))),(8,(.sc (.int .i64)))] [(7,9),(33,49)] .n)) .n)))))))))) hm
abbrev BI:FuncId:=207
noncomputable def um (a_0:Sl) (top_1:Int) (col_2:Int) (R:Value→Heap→Prop) (h:Heap):Prop:=
 aK (σ:=Int) (fun s1 K1 h1=>
 Br (decide (s1≥((a_0.len:Nat):Int)))
 (R (.int .i64 (-1:Int)) h1)
 (∃a2:Addr,(a_0.ptr=some a2∧0≤s1∧s1<((a_0.len:Nat):Int))∧
 ∃x3:Sl,cellOf h1 (a2.add (s1.toNat*1))=some (.slice x3.ptr x3.len x3.cap)∧
 ∃a4:Addr,(x3.ptr=some a4∧0≤col_2∧col_2<((x3.len:Nat):Int))∧
 ∃x5:Int,cellOf h1 (a4.add (col_2.toNat*1))=some (.int .u8 x5)∧
 Br (x5 !=(0:Int))
 (R (.int .i64 s1) h1)
 (K1 (IntKind.wrap .i64 (s1+(1:Int))) h1))) top_1 h
theorem z8 (a_0:Sl) (top_1:Int) (col_2:Int) {R:Value→Heap→Prop} {h:Heap} (hm:um a_0 top_1 col_2 R h):ab Tryz.prog 207 #[(.slice a_0.ptr a_0.len a_0.cap),(.int .i64 top_1),(.int .i64 col_2)] h R:=al ag Tryz.func207 (.two .n (.scope 0 [(7,(.sc (.int .i64)))] [(6,8),(9,24)] [.n] [.n] [(1,[.n])])) hm
abbrev Dk:FuncId:=208
noncomputable def vV (f_0:Option Addr) (c_1:Int) (a_2:Sl) (R:Value→Heap→Prop) (h:Heap):Prop:=
 af Tryz.prog 238 #[(.pointer f_0)] (.one (.sc .ptr)) h fun r1 h1=>
 av Tryz.prog (Instr.makeSlice 45 (.int .i64 ((a_2.len:Nat):Int)) (.int .i64 ((a_2.len:Nat):Int))) (.one (.sc .slc)) h1 fun v2 h2=>
 aK (σ:=Int) (fun s3 K1 h3=>
 Br (decide (s3<((a_2.len:Nat):Int)))
 (∃a4:Addr,(a_2.ptr=some a4∧0≤s3∧s3<((a_2.len:Nat):Int))∧
 ∃x5:Int,cellOf h3 (a4.add (s3.toNat*1))=some (.int .u8 x5)∧
 af Tryz.prog 239 #[(.pointer r1),(.int .u8 c_1),(.int .u8 x5)] (.one (.sc (.int .u8))) h3 fun r6 h4=>
 ∃a7:Addr,(v2.ptr=some a7∧0≤s3∧s3<((v2.len:Nat):Int))∧
 ae Tryz.prog (Instr.storeAt 5 (.pointer (some (a7.add (s3.toNat*1)))) (.int .u8 r6)) h4 fun _ h5=>
 K1 (IntKind.wrap .i64 (s3+(1:Int))) h5)
 (R (.slice v2.ptr v2.len v2.cap) h3)) (0:Int) h2
theorem BJ (f_0:Option Addr) (c_1:Int) (a_2:Sl) {R:Value→Heap→Prop} {h:Heap} (hm:vV f_0 c_1 a_2 R h):ab Tryz.prog 208 #[(.pointer f_0),(.int .u8 c_1),(.slice a_2.ptr a_2.len a_2.cap)] h R:=al ag Tryz.func208 (.two .n (.two .n (.two .n (.two (.two .n (.inn (.loop [(17,(.sc (.int .i64)))] [(8,10),(17,30)] .n))) .n)))) hm
abbrev yy:FuncId:=209
noncomputable def qc (f_0:Option Addr) (a_1:Int) (R:Value→Heap→Prop) (h:Heap):Prop:=
 Br (a_1==(0:Int))
 (R (.int .u8 (0:Int)) h)
 (af Tryz.prog 240 #[(.pointer f_0)] (.one (.sc .ptr)) h fun r1 h1=>
 ∃a2:Addr,(r1=some a2)∧
 (0≤a_1∧a_1<((256:Nat):Int))∧
 ∃x3:Int,cellOf h1 ((a2.add 255).add (a_1.toNat*1))=some (.int .i64 x3)∧
 ((255:Int)≠0)∧
 ∃a4:Addr,(r1=some a4)∧
 (0≤(Int.tmod (IntKind.wrap .i64 ((255:Int)-x3)) (255:Int))∧(Int.tmod (IntKind.wrap .i64 ((255:Int)-x3)) (255:Int))<((255:Nat):Int))∧
 ∃x5:Int,cellOf h1 (a4.add ((Int.tmod (IntKind.wrap .i64 ((255:Int)-x3)) (255:Int)).toNat*1))=some (.int .u8 x5)∧
 R (.int .u8 x5) h1)
theorem wV (f_0:Option Addr) (a_1:Int) {R:Value→Heap→Prop} {h:Heap} (hm:qc f_0 a_1 R h):ab Tryz.prog 209 #[(.pointer f_0),(.int .u8 a_1)] h R:=al ag Tryz.func209 .n hm
abbrev yz:FuncId:=210
noncomputable def AO (f_0:Option Addr) (c_1:Int) (a_2:Sl) (to_3:Sl) (R:Value→Heap→Prop) (h:Heap):Prop:=
 Br (c_1==(0:Int))
 (R (.tuple #[]) h)
 (aK (σ:=Int) (fun s1 K1 h1=>
 Br (decide (s1<((a_2.len:Nat):Int)))
 (∃a2:Addr,(a_2.ptr=some a2∧0≤s1∧s1<((a_2.len:Nat):Int))∧
 ∃x3:Int,cellOf h1 (a2.add (s1.toNat*1))=some (.int .u8 x3)∧
 ∃a4:Addr,(to_3.ptr=some a4∧0≤s1∧s1<((to_3.len:Nat):Int))∧
 ∃x5:Int,cellOf h1 (a4.add (s1.toNat*1))=some (.int .u8 x5)∧
 af Tryz.prog 239 #[(.pointer f_0),(.int .u8 c_1),(.int .u8 x3)] (.one (.sc (.int .u8))) h1 fun r6 h2=>
 (aw.ok [(a4.add (s1.toNat*1),(.int .u8 x5))] h2)∧
 ∃a7:Addr,(to_3.ptr=some a7∧0≤s1∧s1<((to_3.len:Nat):Int))∧
 ae Tryz.prog (Instr.storeAt 5 (.pointer (some (a7.add (s1.toNat*1)))) (.int .u8 (IntKind.wrap .u8 ((BitVec.ofInt (IntKind.bits .u8) x5^^^(BitVec.ofInt (IntKind.bits .u8) r6)).toNat:Nat)))) h2 fun _ h3=>
 (aw.ok [] h3)∧
 K1 (IntKind.wrap .i64 (s1+(1:Int))) h3)
 (R (.tuple #[]) h1)) (0:Int) h)
theorem EJ (f_0:Option Addr) (c_1:Int) (a_2:Sl) (to_3:Sl) {R:Value→Heap→Prop} {h:Heap} (hm:AO f_0 c_1 a_2 to_3 R h):ab Tryz.prog 210 #[(.pointer f_0),(.int .u8 c_1),(.slice a_2.ptr a_2.len a_2.cap),(.slice to_3.ptr to_3.len to_3.cap)] h R:=al ag Tryz.func210 (.two .n (.two .n (.inn (.loop [(14,(.sc (.int .i64)))] [(8,10),(14,30)] .n)))) hm
abbrev EK:FuncId:=213
noncomputable def yA (a_0:Int) (b_1:Int) (R:Value→Heap→Prop) (h:Heap):Prop:=
 aK (σ:=Int×Int×Int) (fun s1 K1 h1=>
 Br (s1.2.1==(0:Int))
 (R (.int .u8 s1.2.2) h1)
 (aW (σ:=Int) (fun s2 h2=>
 (0≤(1:Int))∧
 aW (σ:=Int) (fun s3 h3=>
 (0≤(1:Int))∧
 K1 (s3,Int.fdiv s1.2.1 (2^min (1:Int).toNat (IntKind.bits .u8)),s2) h3)
 (fun K3=>
 Br ((IntKind.wrap .u8 ((BitVec.ofInt (IntKind.bits .u8) s1.1&&&(BitVec.ofInt (IntKind.bits .u8) (128:Int))).toNat:Nat)) !=(0:Int))
 (K3 (IntKind.wrap .u8 ((BitVec.ofInt (IntKind.bits .u8) (IntKind.wrap .u8 (s1.1*2^min (1:Int).toNat (IntKind.bits .u8)))^^^(BitVec.ofInt (IntKind.bits .u8) (27:Int))).toNat:Nat)) h2)
 (K3 (IntKind.wrap .u8 (s1.1*2^min (1:Int).toNat (IntKind.bits .u8))) h2)))
 (fun K2=>
 Br ((IntKind.wrap .u8 ((BitVec.ofInt (IntKind.bits .u8) s1.2.1&&&(BitVec.ofInt (IntKind.bits .u8) (1:Int))).toNat:Nat))==(1:Int))
 (K2 (IntKind.wrap .u8 ((BitVec.ofInt (IntKind.bits .u8) s1.2.2^^^(BitVec.ofInt (IntKind.bits .u8) s1.1)).toNat:Nat)) h1)
 (K2 s1.2.2 h1)))) (a_0,b_1,(0:Int)) h
theorem Dl (a_0:Int) (b_1:Int) {R:Value→Heap→Prop} {h:Heap} (hm:yA a_0 b_1 R h):ab Tryz.prog 213 #[(.int .u8 a_0),(.int .u8 b_1)] h R:=al ag Tryz.func213 (.two .n (.scope 0 [(0,(.sc (.int .u8))),(1,(.sc (.int .u8))),(5,(.sc (.int .u8)))] [(0,2),(4,26)] [.n] [(.two .n (.two (.join [(5,(.sc (.int .u8)))] [(5,6),(10,16)] .n) (.two .n (.two .n (.two (.join [(0,(.sc (.int .u8)))] [(0,1),(21,24)] .n) .n)))))] [])) hm
abbrev EL:FuncId:=214
noncomputable def yB (n_0:Int) (at_1:Int) (R:Value→Heap→Prop) (h:Heap):Prop:=
 aW (σ:=Unit) (fun _ h1=>
 av Tryz.prog (Instr.makeSlice 45 (.int .i64 n_0) (.int .i64 n_0)) (.one (.sc .slc)) h1 fun v2 h2=>
 ∃a3:Addr,(v2.ptr=some a3∧0≤at_1∧at_1<((v2.len:Nat):Int))∧
 ae Tryz.prog (Instr.storeAt 5 (.pointer (some (a3.add (at_1.toNat*1)))) (.int .u8 (1:Int))) h2 fun _ h3=>
 R (.slice v2.ptr v2.len v2.cap) h3)
 (fun K1=>
 Br (decide (n_0<(1:Int))) (R (.slice none 0 0) h) (Br (decide (n_0>(64:Int))) (R (.slice none 0 0) h) (Br (decide (at_1<(0:Int))) (R (.slice none 0 0) h) (Br (decide (at_1≥n_0))
 (R (.slice none 0 0) h)
 (K1 () h)))))
theorem Dm (n_0:Int) (at_1:Int) {R:Value→Heap→Prop} {h:Heap} (hm:yB n_0 at_1 R h):ab Tryz.prog 214 #[(.int .i64 n_0),(.int .i64 at_1)] h R:=al ag Tryz.func214 (.two .n (.two (.join [] [(4,5),(6,21)] .n) .n)) hm
abbrev yC:FuncId:=215
noncomputable def qd (f_0:Option Addr) (n_1:Int) (R:Value→Heap→Prop) (h:Heap):Prop:=
 ((255:Int)≠0)∧
 aW (σ:=Int) (fun s1 h1=>
 af Tryz.prog 240 #[(.pointer f_0)] (.one (.sc .ptr)) h1 fun r2 h2=>
 ∃a3:Addr,(r2=some a3)∧
 (0≤s1∧s1<((255:Nat):Int))∧
 ∃x4:Int,cellOf h2 (a3.add (s1.toNat*1))=some (.int .u8 x4)∧
 R (.int .u8 x4) h2)
 (fun K1=>
 Br (decide ((Int.tmod n_1 (255:Int))<(0:Int)))
 (K1 (IntKind.wrap .i64 ((Int.tmod n_1 (255:Int))+(255:Int))) h)
 (K1 (Int.tmod n_1 (255:Int)) h))
theorem wW (f_0:Option Addr) (n_1:Int) {R:Value→Heap→Prop} {h:Heap} (hm:qd f_0 n_1 R h):ab Tryz.prog 215 #[(.pointer f_0),(.int .i64 n_1)] h R:=al ag Tryz.func215 (.two .n (.two .n (.two (.join [(1,(.sc (.int .i64)))] [(1,2),(7,11)] .n) .n))) hm
abbrev BL:FuncId:=216
noncomputable def uo (z_0:Nat×Nat) (n_1:Int) (R:Value→Heap→Prop) (h:Heap):Prop:=
 ((4:Int)≠0)∧
 ((4:Int)≠0)∧
 aK (σ:=((Nat×Nat))×Int) (fun s1 K1 h1=>
 Br (decide (s1.2<(Int.tmod (IntKind.wrap .i64 ((Int.tmod n_1 (4:Int))+(4:Int))) (4:Int))))
 (∃z2:Nat×Nat,(iv Tryz.prog .mul 180 (.tmp 11) (.const (.complex .f64 0 4607182418800017408)) (.complex .f64 s1.1.1 s1.1.2) (.complex .f64 0 4607182418800017408) (.complex .f64 z2.1 z2.2))∧
 K1 ((z2.1,z2.2),IntKind.wrap .i64 (s1.2+(1:Int))) h1)
 (R (.complex .f64 s1.1.1 s1.1.2) h1)) ((z_0.1,z_0.2),(0:Int)) h
theorem Aa (z_0:Nat×Nat) (n_1:Int) {R:Value→Heap→Prop} {h:Heap} (hm:uo z_0 n_1 R h):ab Tryz.prog 216 #[(.complex .f64 z_0.1 z_0.2),(.int .i64 n_1)] h R:=al ag Tryz.func216 (.two .n (.two (.two .n (.inn (.loop [(0,(.sc (.cpx .f64))),(9,(.sc (.int .i64)))] [(0,1),(9,14)] .n))) .n)) hm
abbrev vu:FuncId:=225
noncomputable def nM (t_0:Sl) (x_1:Int) (R:Value→Heap→Prop) (h:Heap):Prop:=
 aW (σ:=Unit) (fun _ h1=>
 aK (σ:=Int) (fun s4 K2 h2=>
 Br (decide (s4<((t_0.len:Nat):Int)))
 (∃a5:Addr,(t_0.ptr=some a5∧0≤s4∧s4<((t_0.len:Nat):Int))∧
 ∃x6:Int,cellOf h2 (a5.add (s4.toNat*1))=some (.int .i64 x6)∧
 Br (decide (x6>x_1))
 (R (.int .i64 (IntKind.wrap .i64 (s4+(1:Int)))) h2)
 (K2 (IntKind.wrap .i64 (s4+(1:Int))) h2))
 (R (.int .i64 (0:Int)) h2)) (0:Int) h1)
 (fun K1=>
 Br (((t_0.len:Nat):Int)==(0:Int)) (R (.int .i64 (0:Int)) h) (Br (decide (x_1<(0:Int))) (R (.int .i64 (0:Int)) h) (∃a1:Addr,(t_0.ptr=some a1∧0≤(IntKind.wrap .i64 (((t_0.len:Nat):Int)-(1:Int)))∧(IntKind.wrap .i64 (((t_0.len:Nat):Int)-(1:Int)))<((t_0.len:Nat):Int))∧
 ∃x2:Int,cellOf h (a1.add ((IntKind.wrap .i64 (((t_0.len:Nat):Int)-(1:Int))).toNat*1))=some (.int .i64 x2)∧
 Br (decide (x_1≥x2))
 (R (.int .i64 (0:Int)) h)
 (K1 () h))))
theorem uq (t_0:Sl) (x_1:Int) {R:Value→Heap→Prop} {h:Heap} (hm:nM t_0 x_1 R h):ab Tryz.prog 225 #[(.slice t_0.ptr t_0.len t_0.cap),(.int .i64 x_1)] h R:=al ag Tryz.func225 (.two .n (.two (.join [] [(4,5),(7,24)] .n) (.two (.two .n (.inn (.loop [(26,(.sc (.int .i64)))] [(4,7),(26,37)] .n))) .n))) hm
abbrev ur:FuncId:=226
noncomputable def mF (d_0:Option Addr) (n_1:Int) (R:Value→Heap→Prop) (h:Heap):Prop:=
 aW (σ:=Unit) (fun _ h1=>
 af Tryz.prog 176 #[(.pointer d_0)] (.one (.sc (.int .u32))) h1 fun r2 h2=>
 ((IntKind.wrap .u64 n_1)≠0)∧
 R (.int .i64 (IntKind.wrap .i64 (Int.tmod (IntKind.wrap .u64 r2) (IntKind.wrap .u64 n_1)))) h2)
 (fun K1=>
 Br (Option.isNone d_0) (R (.int .i64 (0:Int)) h) (Br (decide (n_1≤(0:Int)))
 (R (.int .i64 (0:Int)) h)
 (K1 () h)))
theorem sH (d_0:Option Addr) (n_1:Int) {R:Value→Heap→Prop} {h:Heap} (hm:mF d_0 n_1 R h):ab Tryz.prog 226 #[(.pointer d_0),(.int .i64 n_1)] h R:=al ag Tryz.func226 (.two .n (.two (.join [] [(4,11)] .n) .n)) hm
end Go.Proofs.YtdoiokchdaoonaaGreat
