/- Part of the proofs that the laws of this seat answer true whatever the input reads, and leave it as it was; no condition. -/
import Derived.Test.YtkciobclldnoiaaGreatDoorTabA
set_option linter.unusedVariables false
set_option linter.unusedSimpArgs false
namespace Go.Proofs.YtkciobclldnoiaaGreatDoor
open Go Go.Vc Go.Proofs
set_option maxRecDepth 1000000
abbrev C0:FuncId:=235
noncomputable def xp (a_0:Sl) (b_1:Sl) (R:Value→Heap→Prop) (h:Heap):Prop:=
 Br (((a_0.len:Nat):Int) !=((b_1.len:Nat):Int))
 (R (.tuple #[(.slice none 0 0),(.bool false)]) h)
 (aw Tryz.prog (Instr.makeSlice 53 (.int .i64 ((a_0.len:Nat):Int)) (.int .i64 ((a_0.len:Nat):Int))) (.one (.sc .slc)) h fun v1 h1=>
 aH (σ:=Int) (fun s2 K1 h2=>
 Br (decide (s2<((a_0.len:Nat):Int)))
 (∃a3:Addr,(a_0.ptr=some a3∧0≤s2∧s2<((a_0.len:Nat):Int))∧
 ∃x4:Int,cellOf h2 (a3.add (s2.toNat*1))=some (.int .u8 x4)∧
 ∃a5:Addr,(b_1.ptr=some a5∧0≤s2∧s2<((b_1.len:Nat):Int))∧
 ∃x6:Int,cellOf h2 (a5.add (s2.toNat*1))=some (.int .u8 x6)∧
 ∃a7:Addr,(v1.ptr=some a7∧0≤s2∧s2<((v1.len:Nat):Int))∧
 ab Tryz.prog (Instr.storeAt 5 (.pointer (some (a7.add (s2.toNat*1)))) (.int .u8 (IntKind.wrap .u8 ((BitVec.ofInt (IntKind.bits .u8) x4^^^(BitVec.ofInt (IntKind.bits .u8) x6)).toNat:Nat)))) h2 fun _ h3=>
 (aE.ok [] h3)∧
 K1 (IntKind.wrap .i64 (s2+(1:Int))) h3)
 (R (.tuple #[(.slice v1.ptr v1.len v1.cap),(.bool true)]) h2)) (0:Int) h1)
theorem Bq (a_0:Sl) (b_1:Sl) {R:Value→Heap→Prop} {h:Heap} (hm:xp a_0 b_1 R h):ae Tryz.prog 235 #[(.slice a_0.ptr a_0.len a_0.cap),(.slice b_1.ptr b_1.len b_1.cap)] h R:=al ag Tryz.func235 (.two .n (.two .n (.two .n (.two (.two .n (.inn (.loop [(18,(.sc (.int .i64)))] [(7,8),(18,34)] .n))) .n)))) hm
abbrev Aa:FuncId:=236
noncomputable def sl (f_0:Option Addr) (c_1:Int) (a_2:Sl) (R:Value→Heap→Prop) (h:Heap):Prop:=
 af Tryz.prog 289 #[(.pointer f_0)] (.one (.sc .ptr)) h fun r1 h1=>
 aw Tryz.prog (Instr.makeSlice 53 (.int .i64 ((a_2.len:Nat):Int)) (.int .i64 ((a_2.len:Nat):Int))) (.one (.sc .slc)) h1 fun v2 h2=>
 aH (σ:=Int) (fun s3 K1 h3=>
 Br (decide (s3<((a_2.len:Nat):Int)))
 (∃a4:Addr,(a_2.ptr=some a4∧0≤s3∧s3<((a_2.len:Nat):Int))∧
 ∃x5:Int,cellOf h3 (a4.add (s3.toNat*1))=some (.int .u8 x5)∧
 af Tryz.prog 262 #[(.pointer r1),(.int .u8 c_1),(.int .u8 x5)] (.one (.sc (.int .u8))) h3 fun r6 h4=>
 ∃a7:Addr,(v2.ptr=some a7∧0≤s3∧s3<((v2.len:Nat):Int))∧
 ab Tryz.prog (Instr.storeAt 5 (.pointer (some (a7.add (s3.toNat*1)))) (.int .u8 r6)) h4 fun _ h5=>
 K1 (IntKind.wrap .i64 (s3+(1:Int))) h5)
 (R (.slice v2.ptr v2.len v2.cap) h3)) (0:Int) h2
theorem yf (f_0:Option Addr) (c_1:Int) (a_2:Sl) {R:Value→Heap→Prop} {h:Heap} (hm:sl f_0 c_1 a_2 R h):ae Tryz.prog 236 #[(.pointer f_0),(.int .u8 c_1),(.slice a_2.ptr a_2.len a_2.cap)] h R:=al ag Tryz.func236 (.two .n (.two .n (.two .n (.two (.two .n (.inn (.loop [(17,(.sc (.int .i64)))] [(8,10),(17,30)] .n))) .n)))) hm
abbrev yg:FuncId:=237
noncomputable def qH (a_0:Sl) (top_1:Int) (col_2:Int) (R:Value→Heap→Prop) (h:Heap):Prop:=
 aH (σ:=Int) (fun s1 K1 h1=>
 Br (decide (s1≥((a_0.len:Nat):Int)))
 (R (.int .i64 (-1:Int)) h1)
 (∃a2:Addr,(a_0.ptr=some a2∧0≤s1∧s1<((a_0.len:Nat):Int))∧
 ∃x3:Sl,cellOf h1 (a2.add (s1.toNat*1))=some (.slice x3.ptr x3.len x3.cap)∧
 ∃a4:Addr,(x3.ptr=some a4∧0≤col_2∧col_2<((x3.len:Nat):Int))∧
 ∃x5:Int,cellOf h1 (a4.add (col_2.toNat*1))=some (.int .u8 x5)∧
 Br (x5 !=(0:Int))
 (R (.int .i64 s1) h1)
 (K1 (IntKind.wrap .i64 (s1+(1:Int))) h1))) top_1 h
theorem wE (a_0:Sl) (top_1:Int) (col_2:Int) {R:Value→Heap→Prop} {h:Heap} (hm:qH a_0 top_1 col_2 R h):ae Tryz.prog 237 #[(.slice a_0.ptr a_0.len a_0.cap),(.int .i64 top_1),(.int .i64 col_2)] h R:=al ag Tryz.func237 (.two .n (.scope 0 [(7,(.sc (.int .i64)))] [(6,8),(9,24)] [.n] [.n] [(1,[.n])])) hm
abbrev uX:FuncId:=238
noncomputable def nz (f_0:Option Addr) (a_1:Int) (R:Value→Heap→Prop) (h:Heap):Prop:=
 Br (a_1==(0:Int))
 (R (.int .u8 (0:Int)) h)
 (af Tryz.prog 175 #[(.pointer f_0)] (.one (.sc .ptr)) h fun r1 h1=>
 ∃a2:Addr,(r1=some a2)∧
 (0≤a_1∧a_1<((256:Nat):Int))∧
 ∃x3:Int,cellOf h1 ((a2.add 255).add (a_1.toNat*1))=some (.int .i64 x3)∧
 ((255:Int)≠0)∧
 ∃a4:Addr,(r1=some a4)∧
 (0≤(Int.tmod (IntKind.wrap .i64 ((255:Int)-x3)) (255:Int))∧(Int.tmod (IntKind.wrap .i64 ((255:Int)-x3)) (255:Int))<((255:Nat):Int))∧
 ∃x5:Int,cellOf h1 (a4.add ((Int.tmod (IntKind.wrap .i64 ((255:Int)-x3)) (255:Int)).toNat*1))=some (.int .u8 x5)∧
 R (.int .u8 x5) h1)
theorem tm (f_0:Option Addr) (a_1:Int) {R:Value→Heap→Prop} {h:Heap} (hm:nz f_0 a_1 R h):ae Tryz.prog 238 #[(.pointer f_0),(.int .u8 a_1)] h R:=al ag Tryz.func238 .n hm
abbrev uY:FuncId:=239
noncomputable def xq (f_0:Option Addr) (c_1:Int) (a_2:Sl) (to_3:Sl) (R:Value→Heap→Prop) (h:Heap):Prop:=
 Br (c_1==(0:Int))
 (R (.tuple #[]) h)
 (aH (σ:=Int) (fun s1 K1 h1=>
 Br (decide (s1<((a_2.len:Nat):Int)))
 (∃a2:Addr,(a_2.ptr=some a2∧0≤s1∧s1<((a_2.len:Nat):Int))∧
 ∃x3:Int,cellOf h1 (a2.add (s1.toNat*1))=some (.int .u8 x3)∧
 ∃a4:Addr,(to_3.ptr=some a4∧0≤s1∧s1<((to_3.len:Nat):Int))∧
 ∃x5:Int,cellOf h1 (a4.add (s1.toNat*1))=some (.int .u8 x5)∧
 af Tryz.prog 262 #[(.pointer f_0),(.int .u8 c_1),(.int .u8 x3)] (.one (.sc (.int .u8))) h1 fun r6 h2=>
 (aE.ok [(a4.add (s1.toNat*1),(.int .u8 x5))] h2)∧
 ∃a7:Addr,(to_3.ptr=some a7∧0≤s1∧s1<((to_3.len:Nat):Int))∧
 ab Tryz.prog (Instr.storeAt 5 (.pointer (some (a7.add (s1.toNat*1)))) (.int .u8 (IntKind.wrap .u8 ((BitVec.ofInt (IntKind.bits .u8) x5^^^(BitVec.ofInt (IntKind.bits .u8) r6)).toNat:Nat)))) h2 fun _ h3=>
 (aE.ok [] h3)∧
 K1 (IntKind.wrap .i64 (s1+(1:Int))) h3)
 (R (.tuple #[]) h1)) (0:Int) h)
theorem Bt (f_0:Option Addr) (c_1:Int) (a_2:Sl) (to_3:Sl) {R:Value→Heap→Prop} {h:Heap} (hm:xq f_0 c_1 a_2 to_3 R h):ae Tryz.prog 239 #[(.pointer f_0),(.int .u8 c_1),(.slice a_2.ptr a_2.len a_2.cap),(.slice to_3.ptr to_3.len to_3.cap)] h R:=al ag Tryz.func239 (.two .n (.two .n (.inn (.loop [(14,(.sc (.int .i64)))] [(8,10),(14,30)] .n)))) hm
abbrev Ab:FuncId:=240
noncomputable def sm (b_0:Sl) (R:Value→Heap→Prop) (h:Heap):Prop:=
 Br (((b_0.len:Nat):Int) !=(64:Int))
 (R (.tuple #[(.int .i64 (0:Int)),(.slice none 0 0),(.bool false)]) h)
 (∃a1:Addr,(b_0.ptr=some a1∧0≤(3:Int)∧(3:Int)<((b_0.len:Nat):Int))∧
 ∃x2:Int,cellOf h (a1.add ((3:Int).toNat*1))=some (.int .u8 x2)∧
 (0≤(4:Int)∧(4:Int)≤(59:Int)∧(59:Int)≤((b_0.cap:Nat):Int))∧
 af Tryz.prog 98 #[(.slice (if b_0.cap=(4:Int).toNat then b_0.ptr else b_0.ptr.map (·.add ((4:Int).toNat*1))) ((59:Int).toNat-(4:Int).toNat) (b_0.cap-(4:Int).toNat))] (.one (.sc .slc)) h fun r3 h1=>
 (aE.ok [(a1.add ((3:Int).toNat*1),(.int .u8 x2))] h1)∧
 af Tryz.prog 123 #[(.int .i64 (IntKind.wrap .i64 x2)),(.slice r3.ptr r3.len r3.cap)] (.one (.sc .slc)) h1 fun r4 h2=>
 af Tryz.prog 39 #[(.slice b_0.ptr b_0.len b_0.cap),(.slice r4.ptr r4.len r4.cap)] (.one (.sc .bool)) h2 fun r5 h3=>
 Br (!r5)
 (R (.tuple #[(.int .i64 (0:Int)),(.slice none 0 0),(.bool false)]) h3)
 (R (.tuple #[(.int .i64 (IntKind.wrap .i64 x2)),(.slice r3.ptr r3.len r3.cap),(.bool true)]) h3))
theorem yh (b_0:Sl) {R:Value→Heap→Prop} {h:Heap} (hm:sm b_0 R h):ae Tryz.prog 240 #[(.slice b_0.ptr b_0.len b_0.cap)] h R:=al ag Tryz.func240 .n hm
abbrev eS:FuncId:=241
noncomputable def o6 (b_0:Sl) (R:Value→Heap→Prop) (h:Heap):Prop:=
 aH (σ:=Int×Int) (fun s1 K1 h1=>
 Br (decide (s1.2<((b_0.len:Nat):Int)))
 (∃a2:Addr,(b_0.ptr=some a2∧0≤s1.2∧s1.2<((b_0.len:Nat):Int))∧
 ∃x3:Int,cellOf h1 (a2.add (s1.2.toNat*1))=some (.int .u8 x3)∧
 (0≤(8:Int))∧
 K1 (IntKind.wrap .i64 ((BitVec.ofInt (IntKind.bits .i64) (IntKind.wrap .i64 (s1.1*2^min (8:Int).toNat (IntKind.bits .i64)))|||(BitVec.ofInt (IntKind.bits .i64) (IntKind.wrap .i64 x3))).toNat:Nat),IntKind.wrap .i64 (s1.2+(1:Int))) h1)
 (R (.int .i64 s1.1) h1)) ((0:Int),(0:Int)) h
theorem uZ (b_0:Sl) {R:Value→Heap→Prop} {h:Heap} (hm:o6 b_0 R h):ae Tryz.prog 241 #[(.slice b_0.ptr b_0.len b_0.cap)] h R:=al ag Tryz.func241 (.two .n (.two .n (.two (.two .n (.inn (.loop [(3,(.sc (.int .i64))),(8,(.sc (.int .i64)))] [(3,4),(5,6),(8,18)] .n))) .n))) hm
abbrev tn:FuncId:=242
noncomputable def mC (x_0:ByteArray×Int×Int×Sl) (cap_1:Addr) (R:Value→Heap→Prop) (h:Heap):Prop:=
 aU Tryz.prog (Instr.box 87 (.agg #[(.string x_0.1),(.int .i64 x_0.2.1),(.int .i64 x_0.2.2.1),(.slice x_0.2.2.2.ptr x_0.2.2.2.len x_0.2.2.2.cap)])) h fun a1 h1=>
 ∃x2:Int,cellOf h1 (a1.add 1)=some (.int .i64 x2)∧
 ∃x3:Int,cellOf h1 cap_1=some (.int .i64 x3)∧
 Br (x2==x3) (∃x4:Sl,cellOf h1 (a1.add 3)=some (.slice x4.ptr x4.len x4.cap)∧
 ∃x5:Int,cellOf h1 (cap_1.add 1)=some (.int .i64 x5)∧
 Br (decide (((x4.len:Nat):Int)>x5)) (∃x6:Int,cellOf h1 (cap_1.add 6)=some (.int .u32 x6)∧
 ∃x7:Int,cellOf h1 cap_1=some (.int .i64 x7)∧
 ∃x8:Int,cellOf h1 (cap_1.add 1)=some (.int .i64 x8)∧
 ∃x9:Sl,cellOf h1 (a1.add 3)=some (.slice x9.ptr x9.len x9.cap)∧
 ∃x10:Int,cellOf h1 (cap_1.add 1)=some (.int .i64 x10)∧
 ∃a11:Addr,(x9.ptr=some a11∧0≤x10∧x10<((x9.len:Nat):Int))∧
 ∃x12:Int,cellOf h1 (a11.add (x10.toNat*1))=some (.int .i64 x12)∧
 af Tryz.prog 43 #[(.int .i64 x7),(.int .i64 x8),(.int .i64 x12)] (.one (.sc (.int .u32))) h1 fun r13 h2=>
 (aE.ok [(cap_1.add 1,(.int .i64 x10)),(a1.add 3,(.slice x9.ptr x9.len x9.cap)),(cap_1.add 6,(.int .u32 x6)),(cap_1.add 1,(.int .i64 x5)),(a1.add 3,(.slice x4.ptr x4.len x4.cap)),(cap_1,(.int .i64 x3)),(a1.add 1,(.int .i64 x2))] h2)∧
 R (.bool (x6==r13)) h2) ((aE.ok [(cap_1.add 1,(.int .i64 x5)),(a1.add 3,(.slice x4.ptr x4.len x4.cap)),(cap_1,(.int .i64 x3)),(a1.add 1,(.int .i64 x2))] h1)∧
 R (.bool false) h1)) ((aE.ok [(cap_1,(.int .i64 x3)),(a1.add 1,(.int .i64 x2))] h1)∧
 R (.bool false) h1)
theorem rJ (x_0:ByteArray×Int×Int×Sl) (cap_1:Addr) {R:Value→Heap→Prop} {h:Heap} (hm:mC x_0 cap_1 R h):ae Tryz.prog 242 #[(.agg #[(.string x_0.1),(.int .i64 x_0.2.1),(.int .i64 x_0.2.2.1),(.slice x_0.2.2.2.ptr x_0.2.2.2.len x_0.2.2.2.cap)]),(.pointer (some cap_1))] h R:=al ag Tryz.func242 .n hm
abbrev iy:FuncId:=243
noncomputable def eN (data_0:Sl) (n_1:Int) (cmp_2:FuncId×Array Value×Array Value) (R:Value→Heap→Prop) (h:Heap):Prop:=
 aH (σ:=Int×Int) (fun s1 K1 h1=>
 Br (decide (s1.2≤n_1))
 (af Tryz.prog 290 #[(.slice data_0.ptr data_0.len data_0.cap),(.int .i64 s1.1),(.int .i64 s1.2),(.func (.func cmp_2.1) cmp_2.2.1 cmp_2.2.2)] (.many []) h1 fun _ h2=>
 K1 (s1.2,IntKind.wrap .i64 (s1.2+(20:Int))) h2)
 (af Tryz.prog 290 #[(.slice data_0.ptr data_0.len data_0.cap),(.int .i64 s1.1),(.int .i64 n_1),(.func (.func cmp_2.1) cmp_2.2.1 cmp_2.2.2)] (.many []) h1 fun _ h3=>
 aH (σ:=Int) (fun s4 K2 h4=>
 Br (decide (s4<n_1))
 (aH (σ:=Int×Int) (fun s5 K3 h5=>
 Br (decide (s5.2≤n_1))
 (af Tryz.prog 291 #[(.slice data_0.ptr data_0.len data_0.cap),(.int .i64 s5.1),(.int .i64 (IntKind.wrap .i64 (s5.1+s4))),(.int .i64 s5.2),(.func (.func cmp_2.1) cmp_2.2.1 cmp_2.2.2)] (.many []) h5 fun _ h6=>
 K3 (s5.2,IntKind.wrap .i64 (s5.2+(IntKind.wrap .i64 ((2:Int)*s4)))) h6)
 (Br (decide ((IntKind.wrap .i64 (s5.1+s4))<n_1))
 (af Tryz.prog 291 #[(.slice data_0.ptr data_0.len data_0.cap),(.int .i64 s5.1),(.int .i64 (IntKind.wrap .i64 (s5.1+s4))),(.int .i64 n_1),(.func (.func cmp_2.1) cmp_2.2.1 cmp_2.2.2)] (.many []) h5 fun _ h7=>
 K2 (IntKind.wrap .i64 (s4*(2:Int))) h7)
 (K2 (IntKind.wrap .i64 (s4*(2:Int))) h5))) ((0:Int),IntKind.wrap .i64 ((2:Int)*s4)) h4)
 (R (.tuple #[]) h4)) (20:Int) h3)) ((0:Int),(20:Int)) h
theorem ic (data_0:Sl) (n_1:Int) (cmp_2:FuncId×Array Value×Array Value) {R:Value→Heap→Prop} {h:Heap} (hm:eN data_0 n_1 cmp_2 R h):ae Tryz.prog 243 #[(.slice data_0.ptr data_0.len data_0.cap),(.int .i64 n_1),(.func (.func cmp_2.1) cmp_2.2.1 cmp_2.2.2)] h R:=al ag Tryz.func243 (.two .n (.two .n (.two (.inn (.loop [(7,(.sc (.int .i64))),(8,(.sc (.int .i64)))] [(7,9),(11,23)] .n)) (.two .n (.inn (.loop [(6,(.sc (.int .i64)))] [(6,10),(28,63)] (.two .n (.inn (.two .n (.two (.inn (.loop [(7,(.sc (.int .i64))),(8,(.sc (.int .i64)))] [(7,9),(33,49)] .n)) .n)))))))))) hm
abbrev u5:FuncId:=262
noncomputable def nA (f_0:Option Addr) (a_1:Int) (b_2:Int) (R:Value→Heap→Prop) (h:Heap):Prop:=
 ba (σ:=Unit) (fun _ h1=>
 af Tryz.prog 175 #[(.pointer f_0)] (.one (.sc .ptr)) h1 fun r2 h2=>
 ∃a3:Addr,(r2=some a3)∧
 (0≤a_1∧a_1<((256:Nat):Int))∧
 ∃x4:Int,cellOf h2 ((a3.add 255).add (a_1.toNat*1))=some (.int .i64 x4)∧
 ∃a5:Addr,(r2=some a5)∧
 (0≤b_2∧b_2<((256:Nat):Int))∧
 ∃x6:Int,cellOf h2 ((a5.add 255).add (b_2.toNat*1))=some (.int .i64 x6)∧
 ((255:Int)≠0)∧
 ∃a7:Addr,(r2=some a7)∧
 (0≤(Int.tmod (IntKind.wrap .i64 (x4+x6)) (255:Int))∧(Int.tmod (IntKind.wrap .i64 (x4+x6)) (255:Int))<((255:Nat):Int))∧
 ∃x8:Int,cellOf h2 (a7.add ((Int.tmod (IntKind.wrap .i64 (x4+x6)) (255:Int)).toNat*1))=some (.int .u8 x8)∧
 R (.int .u8 x8) h2)
 (fun K1=>
 Br (a_1==(0:Int)) (R (.int .u8 (0:Int)) h) (Br (b_2==(0:Int))
 (R (.int .u8 (0:Int)) h)
 (K1 () h)))
theorem tp (f_0:Option Addr) (a_1:Int) (b_2:Int) {R:Value→Heap→Prop} {h:Heap} (hm:nA f_0 a_1 b_2 R h):ae Tryz.prog 262 #[(.pointer f_0),(.int .u8 a_1),(.int .u8 b_2)] h R:=al ag Tryz.func262 (.two .n (.two (.join [] [(6,7),(8,14)] .n) .n)) hm
abbrev rK:FuncId:=263
noncomputable def lV (t_0:Sl) (x_1:Int) (R:Value→Heap→Prop) (h:Heap):Prop:=
 ba (σ:=Unit) (fun _ h1=>
 aH (σ:=Int) (fun s4 K2 h2=>
 Br (decide (s4<((t_0.len:Nat):Int)))
 (∃a5:Addr,(t_0.ptr=some a5∧0≤s4∧s4<((t_0.len:Nat):Int))∧
 ∃x6:Int,cellOf h2 (a5.add (s4.toNat*1))=some (.int .i64 x6)∧
 Br (decide (x6>x_1))
 (R (.int .i64 (IntKind.wrap .i64 (s4+(1:Int)))) h2)
 (K2 (IntKind.wrap .i64 (s4+(1:Int))) h2))
 (R (.int .i64 (0:Int)) h2)) (0:Int) h1)
 (fun K1=>
 Br (((t_0.len:Nat):Int)==(0:Int)) (R (.int .i64 (0:Int)) h) (Br (decide (x_1<(0:Int))) (R (.int .i64 (0:Int)) h) (∃a1:Addr,(t_0.ptr=some a1∧0≤(IntKind.wrap .i64 (((t_0.len:Nat):Int)-(1:Int)))∧(IntKind.wrap .i64 (((t_0.len:Nat):Int)-(1:Int)))<((t_0.len:Nat):Int))∧
 ∃x2:Int,cellOf h (a1.add ((IntKind.wrap .i64 (((t_0.len:Nat):Int)-(1:Int))).toNat*1))=some (.int .i64 x2)∧
 Br (decide (x_1≥x2))
 (R (.int .i64 (0:Int)) h)
 (K1 () h))))
theorem qI (t_0:Sl) (x_1:Int) {R:Value→Heap→Prop} {h:Heap} (hm:lV t_0 x_1 R h):ae Tryz.prog 263 #[(.slice t_0.ptr t_0.len t_0.cap),(.int .i64 x_1)] h R:=al ag Tryz.func263 (.two .n (.two (.join [] [(4,5),(7,24)] .n) (.two (.two .n (.inn (.loop [(26,(.sc (.int .i64)))] [(4,7),(26,37)] .n))) .n))) hm
abbrev qJ:FuncId:=264
noncomputable def kO (d_0:Option Addr) (n_1:Int) (R:Value→Heap→Prop) (h:Heap):Prop:=
 ba (σ:=Unit) (fun _ h1=>
 af Tryz.prog 202 #[(.pointer d_0)] (.one (.sc (.int .u32))) h1 fun r2 h2=>
 ((IntKind.wrap .u64 n_1)≠0)∧
 R (.int .i64 (IntKind.wrap .i64 (Int.tmod (IntKind.wrap .u64 r2) (IntKind.wrap .u64 n_1)))) h2)
 (fun K1=>
 Br (Option.isNone d_0) (R (.int .i64 (0:Int)) h) (Br (decide (n_1≤(0:Int)))
 (R (.int .i64 (0:Int)) h)
 (K1 () h)))
theorem px (d_0:Option Addr) (n_1:Int) {R:Value→Heap→Prop} {h:Heap} (hm:kO d_0 n_1 R h):ae Tryz.prog 264 #[(.pointer d_0),(.int .i64 n_1)] h R:=al ag Tryz.func264 (.two .n (.two (.join [] [(4,11)] .n) .n)) hm
abbrev rL:FuncId:=265
noncomputable def lW (l_0:Int) (k_1:Int) (R:Value→Heap→Prop) (h:Heap):Prop:=
 af Tryz.prog 302 #[(.int .i64 l_0)] (.one (.sc (.int .i64))) h fun r1 h1=>
 (l_0≠0)∧
 ba (σ:=Int) (fun s2 h2=>
 ba (σ:=Int) (fun s4 h4=>
 R (.int .i64 s4) h4)
 (fun K2=>
 (r1≠0)∧
 Br (decide (k_1<(IntKind.wrap .i64 (Int.tdiv l_0 r1))))
 (((IntKind.wrap .i64 (l_0*k_1))≠0)∧
 K2 (IntKind.wrap .i64 (s2+(IntKind.wrap .i64 (Int.tdiv (IntKind.wrap .i64 ((1048576:Int)*r1)) (IntKind.wrap .i64 (l_0*k_1)))))) h2)
 (Br (k_1==(IntKind.wrap .i64 (Int.tdiv l_0 r1)))
 (af Tryz.prog 166 #[(.int .u64 (IntKind.wrap .u64 r1))] (.one (.sc (.int .i64))) h2 fun r3 h3=>
 (l_0≠0)∧
 K2 (IntKind.wrap .i64 (s2+(IntKind.wrap .i64 (Int.tdiv (IntKind.wrap .i64 ((IntKind.wrap .i64 ((1048576:Int)*r1))*r3)) l_0)))) h3)
 (K2 s2 h2))))
 (fun K1=>
 Br (decide (k_1>(1:Int)))
 (((IntKind.wrap .i64 (k_1*(IntKind.wrap .i64 (k_1-(1:Int)))))≠0)∧
 K1 (IntKind.wrap .i64 (Int.tdiv (1048576:Int) (IntKind.wrap .i64 (k_1*(IntKind.wrap .i64 (k_1-(1:Int))))))) h1)
 (K1 (IntKind.wrap .i64 (Int.tdiv (1048576:Int) l_0)) h1))
theorem qK (l_0:Int) (k_1:Int) {R:Value→Heap→Prop} {h:Heap} (hm:lW l_0 k_1 R h):ae Tryz.prog 265 #[(.int .i64 l_0),(.int .i64 k_1)] h R:=al ag Tryz.func265 (.two .n (.two .n (.two .n (.two (.join [(6,(.sc (.int .i64)))] [(6,7),(12,19)] .n) (.two (.join [(6,(.sc (.int .i64)))] [(6,8),(19,48)] .n) .n))))) hm
end Go.Proofs.YtkciobclldnoiaaGreatDoor
