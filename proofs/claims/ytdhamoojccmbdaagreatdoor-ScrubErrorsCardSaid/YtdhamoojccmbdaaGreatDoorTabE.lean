/- Part of the proofs that the laws of this seat answer true whatever the input reads, and leave it as it was; no condition. -/
import Derived.Test.YtdhamoojccmbdaaGreatDoorTabA
set_option linter.unusedVariables false
set_option linter.unusedSimpArgs false
namespace Go.Proofs.YtdhamoojccmbdaaGreatDoor
open Go Go.Vc Go.Proofs
set_option maxRecDepth 1000000
abbrev uk:FuncId:=183
noncomputable def oC (b_0:Sl) (R:Value→Heap→Prop) (h:Heap):Prop:=
 Br (((b_0.len:Nat):Int) !=(64:Int))
 (R (.tuple #[(.int .i64 (0:Int)),(.slice none 0 0),(.bool false)]) h)
 (∃a1:Addr,(b_0.ptr=some a1∧0≤(3:Int)∧(3:Int)<((b_0.len:Nat):Int))∧
 ∃x2:Int,cellOf h (a1.add ((3:Int).toNat*1))=some (.int .u8 x2)∧
 (0≤(4:Int)∧(4:Int)≤(59:Int)∧(59:Int)≤((b_0.cap:Nat):Int))∧
 af Tryz.prog 91 #[(.slice (if b_0.cap=(4:Int).toNat then b_0.ptr else b_0.ptr.map (·.add ((4:Int).toNat*1))) ((59:Int).toNat-(4:Int).toNat) (b_0.cap-(4:Int).toNat))] (.one (.sc .slc)) h fun r3 h1=>
 (aC.ok [(a1.add ((3:Int).toNat*1),(.int .u8 x2))] h1)∧
 af Tryz.prog 142 #[(.int .i64 (IntKind.wrap .i64 x2)),(.slice r3.ptr r3.len r3.cap)] (.one (.sc .slc)) h1 fun r4 h2=>
 af Tryz.prog 58 #[(.slice b_0.ptr b_0.len b_0.cap),(.slice r4.ptr r4.len r4.cap)] (.one (.sc .bool)) h2 fun r5 h3=>
 Br (!r5)
 (R (.tuple #[(.int .i64 (0:Int)),(.slice none 0 0),(.bool false)]) h3)
 (R (.tuple #[(.int .i64 (IntKind.wrap .i64 x2)),(.slice r3.ptr r3.len r3.cap),(.bool true)]) h3))
theorem sA (b_0:Sl) {R:Value→Heap→Prop} {h:Heap} (hm:oC b_0 R h):ae Tryz.prog 183 #[(.slice b_0.ptr b_0.len b_0.cap)] h R:=aw ah Tryz.func183 .n hm
abbrev dG:FuncId:=184
noncomputable def mm (b_0:Sl) (R:Value→Heap→Prop) (h:Heap):Prop:=
 aR (σ:=Int×Int) (fun s1 K1 h1=>
 Br (decide (s1.2<((b_0.len:Nat):Int)))
 (∃a2:Addr,(b_0.ptr=some a2∧0≤s1.2∧s1.2<((b_0.len:Nat):Int))∧
 ∃x3:Int,cellOf h1 (a2.add (s1.2.toNat*1))=some (.int .u8 x3)∧
 (0≤(8:Int))∧
 K1 (IntKind.wrap .i64 ((BitVec.ofInt (IntKind.bits .i64) (IntKind.wrap .i64 (s1.1*2^min (8:Int).toNat (IntKind.bits .i64)))|||(BitVec.ofInt (IntKind.bits .i64) (IntKind.wrap .i64 x3))).toNat:Nat),IntKind.wrap .i64 (s1.2+(1:Int))) h1)
 (R (.int .i64 s1.1) h1)) ((0:Int),(0:Int)) h
theorem qc (b_0:Sl) {R:Value→Heap→Prop} {h:Heap} (hm:mm b_0 R h):ae Tryz.prog 184 #[(.slice b_0.ptr b_0.len b_0.cap)] h R:=aw ah Tryz.func184 (.two .n (.two .n (.two (.two .n (.inn (.loop [(3,(.sc (.int .i64))),(8,(.sc (.int .i64)))] [(3,4),(5,6),(8,18)] .n))) .n))) hm
abbrev o1:FuncId:=185
noncomputable def kB (x_0:ByteArray×Int×Int×Sl) (cap_1:Addr) (R:Value→Heap→Prop) (h:Heap):Prop:=
 aW Tryz.prog (Instr.box 96 (.agg #[(.string x_0.1),(.int .i64 x_0.2.1),(.int .i64 x_0.2.2.1),(.slice x_0.2.2.2.ptr x_0.2.2.2.len x_0.2.2.2.cap)])) h fun a1 h1=>
 ∃x2:Int,cellOf h1 (a1.add 1)=some (.int .i64 x2)∧
 ∃x3:Int,cellOf h1 cap_1=some (.int .i64 x3)∧
 Br (x2==x3) (∃x4:Sl,cellOf h1 (a1.add 3)=some (.slice x4.ptr x4.len x4.cap)∧
 ∃x5:Int,cellOf h1 (cap_1.add 1)=some (.int .i64 x5)∧
 Br (decide (((x4.len:Nat):Int)>x5)) (∃x6:Int,cellOf h1 (cap_1.add 6)=some (.int .u32 x6)∧
 ∃x7:Int,cellOf h1 cap_1=some (.int .i64 x7)∧
 ∃x8:Int,cellOf h1 (cap_1.add 1)=some (.int .i64 x8)∧
 ∃x9:Sl,cellOf h1 (a1.add 3)=some (.slice x9.ptr x9.len x9.cap)∧
 ∃x10:Int,cellOf h1 (cap_1.add 1)=some (.int .i64 x10)∧
 ∃a11:Addr,(x9.ptr=some a11∧0≤x10∧x10<((x9.len:Nat):Int))∧
 ∃x12:Int,cellOf h1 (a11.add (x10.toNat*1))=some (.int .i64 x12)∧
 af Tryz.prog 77 #[(.int .i64 x7),(.int .i64 x8),(.int .i64 x12)] (.one (.sc (.int .u32))) h1 fun r13 h2=>
 (aC.ok [(cap_1.add 1,(.int .i64 x10)),(a1.add 3,(.slice x9.ptr x9.len x9.cap)),(cap_1.add 6,(.int .u32 x6)),(cap_1.add 1,(.int .i64 x5)),(a1.add 3,(.slice x4.ptr x4.len x4.cap)),(cap_1,(.int .i64 x3)),(a1.add 1,(.int .i64 x2))] h2)∧
 R (.bool (x6==r13)) h2) ((aC.ok [(cap_1.add 1,(.int .i64 x5)),(a1.add 3,(.slice x4.ptr x4.len x4.cap)),(cap_1,(.int .i64 x3)),(a1.add 1,(.int .i64 x2))] h1)∧
 R (.bool false) h1)) ((aC.ok [(cap_1,(.int .i64 x3)),(a1.add 1,(.int .i64 x2))] h1)∧
 R (.bool false) h1)
theorem nZ (x_0:ByteArray×Int×Int×Sl) (cap_1:Addr) {R:Value→Heap→Prop} {h:Heap} (hm:kB x_0 cap_1 R h):ae Tryz.prog 185 #[(.agg #[(.string x_0.1),(.int .i64 x_0.2.1),(.int .i64 x_0.2.2.1),(.slice x_0.2.2.2.ptr x_0.2.2.2.len x_0.2.2.2.cap)]),(.pointer (some cap_1))] h R:=aw ah Tryz.func185 .n hm
abbrev gd:FuncId:=186
noncomputable def dE (data_0:Sl) (n_1:Int) (cmp_2:FuncId×Array Value×Array Value) (R:Value→Heap→Prop) (h:Heap):Prop:=
 aR (σ:=Int×Int) (fun s1 K1 h1=>
 Br (decide (s1.2≤n_1))
 (af Tryz.prog 244 #[(.slice data_0.ptr data_0.len data_0.cap),(.int .i64 s1.1),(.int .i64 s1.2),(.func (.func cmp_2.1) cmp_2.2.1 cmp_2.2.2)] (.many []) h1 fun _ h2=>
 K1 (s1.2,IntKind.wrap .i64 (s1.2+(20:Int))) h2)
 (af Tryz.prog 244 #[(.slice data_0.ptr data_0.len data_0.cap),(.int .i64 s1.1),(.int .i64 n_1),(.func (.func cmp_2.1) cmp_2.2.1 cmp_2.2.2)] (.many []) h1 fun _ h3=>
 aR (σ:=Int) (fun s4 K2 h4=>
 Br (decide (s4<n_1))
 (aR (σ:=Int×Int) (fun s5 K3 h5=>
 Br (decide (s5.2≤n_1))
 (af Tryz.prog 245 #[(.slice data_0.ptr data_0.len data_0.cap),(.int .i64 s5.1),(.int .i64 (IntKind.wrap .i64 (s5.1+s4))),(.int .i64 s5.2),(.func (.func cmp_2.1) cmp_2.2.1 cmp_2.2.2)] (.many []) h5 fun _ h6=>
 K3 (s5.2,IntKind.wrap .i64 (s5.2+(IntKind.wrap .i64 ((2:Int)*s4)))) h6)
 (Br (decide ((IntKind.wrap .i64 (s5.1+s4))<n_1))
 (af Tryz.prog 245 #[(.slice data_0.ptr data_0.len data_0.cap),(.int .i64 s5.1),(.int .i64 (IntKind.wrap .i64 (s5.1+s4))),(.int .i64 n_1),(.func (.func cmp_2.1) cmp_2.2.1 cmp_2.2.2)] (.many []) h5 fun _ h7=>
 K2 (IntKind.wrap .i64 (s4*(2:Int))) h7)
 (K2 (IntKind.wrap .i64 (s4*(2:Int))) h5))) ((0:Int),IntKind.wrap .i64 ((2:Int)*s4)) h4)
 (R (.tuple #[]) h4)) (20:Int) h3)) ((0:Int),(20:Int)) h
theorem fS (data_0:Sl) (n_1:Int) (cmp_2:FuncId×Array Value×Array Value) {R:Value→Heap→Prop} {h:Heap} (hm:dE data_0 n_1 cmp_2 R h):ae Tryz.prog 186 #[(.slice data_0.ptr data_0.len data_0.cap),(.int .i64 n_1),(.func (.func cmp_2.1) cmp_2.2.1 cmp_2.2.2)] h R:=aw ah Tryz.func186 (.two .n (.two .n (.two (.inn (.loop [(7,(.sc (.int .i64))),(8,(.sc (.int .i64)))] [(7,9),(11,23)] .n)) (.two .n (.inn (.loop [(6,(.sc (.int .i64)))] [(6,10),(28,63)] (.two .n (.inn (.two .n (.two (.inn (.loop [(7,(.sc (.int .i64))),(8,(.sc (.int .i64)))] [(7,9),(33,49)] .n)) .n)))))))))) hm
abbrev wB:FuncId:=190
noncomputable def rP (b_0:Sl) (R:Value→Heap→Prop) (h:Heap):Prop:=
 aR (σ:=Int×Int) (fun s1 K1 h1=>
 Br (decide (s1.2<((b_0.len:Nat):Int)))
 (∃a2:Addr,(b_0.ptr=some a2∧0≤s1.2∧s1.2<((b_0.len:Nat):Int))∧
 ∃x3:Int,cellOf h1 (a2.add (s1.2.toNat*1))=some (.int .u8 x3)∧
 aR (σ:=Int×Int) (fun s4 K2 h2=>
 Br (decide (s4.2<(8:Int)))
 ((0≤(1:Int))∧
 Br ((IntKind.wrap .u32 ((BitVec.ofInt (IntKind.bits .u32) s4.1&&&(BitVec.ofInt (IntKind.bits .u32) (1:Int))).toNat:Nat))==(1:Int))
 (K2 (IntKind.wrap .u32 ((BitVec.ofInt (IntKind.bits .u32) (Int.fdiv s4.1 (2^min (1:Int).toNat (IntKind.bits .u32)))^^^(BitVec.ofInt (IntKind.bits .u32) (3988292384:Int))).toNat:Nat),IntKind.wrap .i64 (s4.2+(1:Int))) h2)
 (K2 (Int.fdiv s4.1 (2^min (1:Int).toNat (IntKind.bits .u32)),IntKind.wrap .i64 (s4.2+(1:Int))) h2))
 (K1 (s4.1,IntKind.wrap .i64 (s1.2+(1:Int))) h2)) (IntKind.wrap .u32 ((BitVec.ofInt (IntKind.bits .u32) s1.1^^^(BitVec.ofInt (IntKind.bits .u32) (IntKind.wrap .u32 x3))).toNat:Nat),(0:Int)) h1)
 (R (.int .u32 (IntKind.wrap .u32 ((BitVec.ofInt (IntKind.bits .u32) (4294967295:Int)^^^(BitVec.ofInt (IntKind.bits .u32) s1.1)).toNat:Nat))) h1)) ((4294967295:Int),(0:Int)) h
theorem u6 (b_0:Sl) {R:Value→Heap→Prop} {h:Heap} (hm:rP b_0 R h):ae Tryz.prog 190 #[(.slice b_0.ptr b_0.len b_0.cap)] h R:=aw ah Tryz.func190 (.two .n (.two .n (.two (.two .n (.inn (.loop [(3,(.sc (.int .u32))),(9,(.sc (.int .i64)))] [(3,4),(5,7),(9,29)] (.two .n (.two .n (.two (.inn (.two .n (.two .n (.two .n (.inn (.loop [(3,(.sc (.int .u32))),(17,(.sc (.int .i64)))] [(3,4),(6,7),(17,28)] .n)))))) .n)))))) .n))) hm
abbrev o2:FuncId:=206
noncomputable def kC (x_0:Int) (R:Value→Heap→Prop) (h:Heap):Prop:=
 R (.bool (x_0 !=x_0)) h
theorem n0 (x_0:Int) {R:Value→Heap→Prop} {h:Heap} (hm:kC x_0 R h):ae Tryz.prog 206 #[(.int .i64 x_0)] h R:=aw ah Tryz.func206 .n hm
end Go.Proofs.YtdhamoojccmbdaaGreatDoor
