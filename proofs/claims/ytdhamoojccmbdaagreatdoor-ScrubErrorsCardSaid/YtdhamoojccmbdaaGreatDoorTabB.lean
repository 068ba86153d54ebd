/- Part of the proofs that the laws of this seat answer true whatever the input reads, and leave it as it was; no condition. -/
import Derived.Test.YtdhamoojccmbdaaGreatDoorTabA
set_option linter.unusedVariables false
set_option linter.unusedSimpArgs false
namespace Go.Proofs.YtdhamoojccmbdaaGreatDoor
open Go Go.Vc Go.Proofs
set_option maxRecDepth 1000000
abbrev hZ:FuncId:=21
noncomputable def iX (s_0:Option Addr) (R:Value→Heap→Prop) (h:Heap):Prop:=
 Br (Option.isNone s_0)
 (R (.slice none 0 0) h)
 (∃a1:Addr,(s_0=some a1)∧
 ∃x2:Sl,cellOf h (a1.add 6)=some (.slice x2.ptr x2.len x2.cap)∧
 af Tryz.prog 66 #[(.func (.func 11) #[(.pointer s_0)] #[]),(.slice x2.ptr x2.len x2.cap)] (.one (.sc .slc)) h fun r3 h1=>
 R (.slice r3.ptr r3.len r3.cap) h1)
theorem lQ (s_0:Option Addr) {R:Value→Heap→Prop} {h:Heap} (hm:iX s_0 R h):ae Tryz.prog 21 #[(.pointer s_0)] h R:=aw ah Tryz.func21 .n hm
abbrev qP:FuncId:=30
noncomputable def me (p_0:Int×Int×Int) (n_1:Int) (R:Value→Heap→Prop) (h:Heap):Prop:=
 aW Tryz.prog (Instr.box 24 (.agg #[(.int .i64 p_0.1),(.int .i64 p_0.2.1),(.int .i64 p_0.2.2)])) h fun a1 h1=>
 bn (σ:=Unit) (fun _ h3=>
 ∃x5:Int×Int×Int,aj h3 a1 0 [(.int .i64 x5.1),(.int .i64 x5.2.1),(.int .i64 x5.2.2)]∧
 af Tryz.prog 81 #[(.agg #[(.int .i64 x5.1),(.int .i64 x5.2.1),(.int .i64 x5.2.2)])] (.one (.sc (.int .i64))) h3 fun r6 h4=>
 (r6≠0)∧
 R (.int .i64 (IntKind.wrap .i64 ((IntKind.wrap .i64 (Int.tdiv (IntKind.wrap .i64 (n_1-(1:Int))) r6))+(1:Int)))) h4)
 (fun K1=>
 ∃x2:Int×Int×Int,aj h1 a1 0 [(.int .i64 x2.1),(.int .i64 x2.2.1),(.int .i64 x2.2.2)]∧
 af Tryz.prog 39 #[(.agg #[(.int .i64 x2.1),(.int .i64 x2.2.1),(.int .i64 x2.2.2)])] (.one (.sc .bool)) h1 fun r3 h2=>
 Br (!r3) (R (.int .i64 (0:Int)) h2) (Br (decide (n_1≤(0:Int)))
 (R (.int .i64 (0:Int)) h2)
 (K1 () h2)))
theorem pP (p_0:Int×Int×Int) (n_1:Int) {R:Value→Heap→Prop} {h:Heap} (hm:me p_0 n_1 R h):ae Tryz.prog 30 #[(.agg #[(.int .i64 p_0.1),(.int .i64 p_0.2.1),(.int .i64 p_0.2.2)]),(.int .i64 n_1)] h R:=aw ah Tryz.func30 (.two .n (.two (.join [] [(4,12)] .n) .n)) hm
abbrev k9:FuncId:=31
noncomputable def jk (s_0:Option Addr) (t_1:Int) (most_2:Int) (R:Value→Heap→Prop) (h:Heap):Prop:=
 bn (σ:=Unit) (fun _ h2=>
 af Tryz.prog 19 #[(.pointer s_0)] (.one (.agg [(.int .i64),(.int .i64),(.int .i64),(.int .i64),(.int .i64),(.int .i64),.slc,.slc])) h2 fun r3 h3=>
 af Tryz.prog 21 #[(.pointer s_0)] (.one (.sc .slc)) h3 fun r4 h4=>
 aW Tryz.prog (Instr.box 138 (.agg #[(.pointer s_0),(.int .i64 r3.1),(.int .i64 r3.2.1),(.int .i64 r3.2.2.1),(.int .i64 r3.2.2.2.1),(.int .i64 r3.2.2.2.2.1),(.int .i64 r3.2.2.2.2.2.1),(.slice r3.2.2.2.2.2.2.1.ptr r3.2.2.2.2.2.2.1.len r3.2.2.2.2.2.2.1.cap),(.slice r3.2.2.2.2.2.2.2.ptr r3.2.2.2.2.2.2.2.len r3.2.2.2.2.2.2.2.cap),(.slice r4.ptr r4.len r4.cap),(.int .i64 t_1),(.int .i64 most_2),(.int .i64 (0:Int))])) h4 fun a5 h5=>
 bn (σ:=Unit) (fun _ h8=>
 af Tryz.prog 84 #[(.pointer (some a5))] (.one (.sc (.int .i64))) h8 fun r13 h9=>
 Br (r13 !=(0:Int))
 (R (.tuple #[(.int .i64 (0:Int)),(.int .i64 r13)]) h9)
 (∃a14:Addr,(some a5=some a14)∧
 ∃x15:Sl,cellOf h9 ((a14.add 1).add 7)=some (.slice x15.ptr x15.len x15.cap)∧
 aR (σ:=Int) (fun s16 K4 h10=>
 Br (decide (s16<((x15.len:Nat):Int)))
 (∃a17:Addr,(x15.ptr=some a17∧0≤s16∧s16<((x15.len:Nat):Int))∧
 ∃x18:ByteArray×Int×Int×Sl,aj h10 (a17.add (s16.toNat*4)) 0 [(.string x18.1),(.int .i64 x18.2.1),(.int .i64 x18.2.2.1),(.slice x18.2.2.2.ptr x18.2.2.2.len x18.2.2.2.cap)]∧
 aW Tryz.prog (Instr.alloc 96 true (.tuple #[])) h10 fun a19 h11=>
 ab Tryz.prog (Instr.storeAt 96 (.pointer (some a19)) (.agg #[(.string x18.1),(.int .i64 x18.2.1),(.int .i64 x18.2.2.1),(.slice x18.2.2.2.ptr x18.2.2.2.len x18.2.2.2.cap)])) h11 fun _ h12=>
 ∃x20:Sl,cellOf h12 (a19.add 3)=some (.slice x20.ptr x20.len x20.cap)∧
 aR (σ:=Int) (fun s21 K5 h13=>
 Br (decide (s21<((x20.len:Nat):Int)))
 (∃x22:ByteArray×Int×Int×Sl,aj h13 a19 0 [(.string x22.1),(.int .i64 x22.2.1),(.int .i64 x22.2.2.1),(.slice x22.2.2.2.ptr x22.2.2.2.len x22.2.2.2.cap)]∧
 af Tryz.prog 85 #[(.pointer (some a5)),(.agg #[(.string x22.1),(.int .i64 x22.2.1),(.int .i64 x22.2.2.1),(.slice x22.2.2.2.ptr x22.2.2.2.len x22.2.2.2.cap)]),(.int .i64 s21)] (.one (.sc (.int .i64))) h13 fun r23 h14=>
 Br (r23 !=(0:Int))
 (∃a24:Addr,(some a5=some a24)∧
 ∃x25:Int,cellOf h14 (a24.add 12)=some (.int .i64 x25)∧
 R (.tuple #[(.int .i64 x25),(.int .i64 r23)]) h14)
 (K5 (IntKind.wrap .i64 (s21+(1:Int))) h14))
 (K4 (IntKind.wrap .i64 (s16+(1:Int))) h13)) (0:Int) h12)
 (∃a26:Addr,(some a5=some a26)∧
 ∃x27:Int,cellOf h10 (a26.add 12)=some (.int .i64 x27)∧
 R (.tuple #[(.int .i64 x27),(.int .i64 (0:Int))]) h10)) (0:Int) h9))
 (fun K2=>
 bn (σ:=Bool) (fun s8 h6=>
 Br s8
 (R (.tuple #[(.int .i64 (0:Int)),(.int .i64 (1:Int))]) h6)
 (∃a9:Addr,(some a5=some a9)∧
 ∃x10:Sl,cellOf h6 (a9.add 9)=some (.slice x10.ptr x10.len x10.cap)∧
 af Tryz.prog 83 #[(.int .i64 ((x10.len:Nat):Int)),(.int .i64 t_1)] (.one (.sc (.int .i64))) h6 fun r11 h7=>
 Br (decide (r11>(4096:Int)))
 (R (.tuple #[(.int .i64 (0:Int)),(.int .i64 (13:Int))]) h7)
 (K2 () h7)))
 (fun K3=>
 Br (decide (t_1<(0:Int))) (K3 true h5) (∃a6:Addr,(some a5=some a6)∧
 ∃x7:Sl,cellOf h5 (a6.add 9)=some (.slice x7.ptr x7.len x7.cap)∧
 Br (decide (t_1≥((x7.len:Nat):Int))) (K3 true h5) (Br (decide (most_2<(0:Int))) (K3 true h5) (K3 (decide (most_2>(64:Int))) h5))))))
 (fun K1=>
 Br (Option.isNone s_0) (R (.tuple #[(.int .i64 (0:Int)),(.int .i64 (14:Int))]) h) (af Tryz.prog 82 #[(.pointer s_0)] (.one (.sc .bool)) h fun r1 h1=>
 Br r1
 (R (.tuple #[(.int .i64 (0:Int)),(.int .i64 (14:Int))]) h1)
 (K1 () h1)))
theorem ky (s_0:Option Addr) (t_1:Int) (most_2:Int) {R:Value→Heap→Prop} {h:Heap} (hm:jk s_0 t_1 most_2 R h):ae Tryz.prog 31 #[(.pointer s_0),(.int .i64 t_1),(.int .i64 most_2)] h R:=aw ah Tryz.func31 (.two .n (.two (.join [] [(6,8),(14,20)] .n) (.two .n (.two (.join [] [(6,8),(29,58)] (.inn (.two (.join [(29,(.sc .bool))] [(29,49)] .n) .n))) (.two .n (.two (.two .n (.inn (.loop [(69,(.sc (.int .i64)))] [(6,8),(11,14),(69,92)] (.two .n (.two .n (.two (.inn (.two .n (.two .n (.inn (.loop [(76,(.sc (.int .i64)))] [(6,8),(12,14),(76,91)] .n))))) .n)))))) .n)))))) hm
abbrev gS:FuncId:=32
noncomputable def ia (s_0:Option Addr) (R:Value→Heap→Prop) (h:Heap):Prop:=
 Br (Option.isNone s_0)
 (R (.pointer none) h)
 (∃a1:Addr,(s_0=some a1)∧
 ∃x2:Option Addr,cellOf h (a1.add 8)=some (.pointer x2)∧
 R (.pointer x2) h)
theorem lf (s_0:Option Addr) {R:Value→Heap→Prop} {h:Heap} (hm:ia s_0 R h):ae Tryz.prog 32 #[(.pointer s_0)] h R:=aw ah Tryz.func32 .n hm
abbrev iY:FuncId:=33
noncomputable def jo (p_0:Option Addr) (n_1:Int) (R:Value→Heap→Prop) (h:Heap):Prop:=
 af Tryz.prog 86 #[(.pointer p_0)] (.one (.sc .bool)) h fun r1 h1=>
 Br (!r1)
 (R (.tuple #[]) h1)
 (∃a2:Addr,(p_0=some a2)∧
 ab Tryz.prog (Instr.storeAt 4 (.pointer (some (a2.add 1))) (.bool (decide (n_1≥(0:Int))))) h1 fun _ h2=>
 ∃a3:Addr,(p_0=some a3)∧
 ab Tryz.prog (Instr.storeAt 3 (.pointer (some (a3.add 2))) (.int .i64 (if(0:Int)>n_1 then(0:Int)else n_1))) h2 fun _ h3=>
 R (.tuple #[]) h3)
theorem mr (p_0:Option Addr) (n_1:Int) {R:Value→Heap→Prop} {h:Heap} (hm:jo p_0 n_1 R h):ae Tryz.prog 33 #[(.pointer p_0),(.int .i64 n_1)] h R:=aw ah Tryz.func33 .n hm
abbrev ib:FuncId:=34
noncomputable def iZ (p_0:Option Addr) (R:Value→Heap→Prop) (h:Heap):Prop:=
 af Tryz.prog 86 #[(.pointer p_0)] (.one (.sc .bool)) h fun r1 h1=>
 Br (!r1)
 (R (.bool false) h1)
 (∃a2:Addr,(p_0=some a2)∧
 ∃x3:Bool,cellOf h1 (a2.add 1)=some (.bool x3)∧
 Br (!x3)
 (R (.bool true) h1)
 (∃a4:Addr,(p_0=some a4)∧
 ∃x5:Int,cellOf h1 (a4.add 2)=some (.int .i64 x5)∧
 Br (x5==(0:Int))
 (∃a6:Addr,(p_0=some a6)∧
 ab Tryz.prog (Instr.storeAt 4 (.pointer (some a6)) (.bool true)) h1 fun _ h2=>
 ∃a7:Addr,(p_0=some a7)∧
 ∃x8:Int,cellOf h2 (a7.add 3)=some (.int .i64 x8)∧
 ∃a9:Addr,(p_0=some a9)∧
 ab Tryz.prog (Instr.storeAt 3 (.pointer (some (a9.add 3))) (.int .i64 (IntKind.wrap .i64 (x8+(1:Int))))) h2 fun _ h3=>
 R (.bool false) h3)
 (∃a10:Addr,(p_0=some a10)∧
 ∃x11:Int,cellOf h1 (a10.add 2)=some (.int .i64 x11)∧
 ∃a12:Addr,(p_0=some a12)∧
 ab Tryz.prog (Instr.storeAt 3 (.pointer (some (a12.add 2))) (.int .i64 (IntKind.wrap .i64 (x11-(1:Int))))) h1 fun _ h4=>
 R (.bool true) h4)))
theorem lR (p_0:Option Addr) {R:Value→Heap→Prop} {h:Heap} (hm:iZ p_0 R h):ae Tryz.prog 34 #[(.pointer p_0)] h R:=aw ah Tryz.func34 .n hm
abbrev j1:FuncId:=35
noncomputable def fZ (R:Value→Heap→Prop) (h:Heap):Prop:=
 af Tryz.prog 8 #[] (.one (.sc .ptr)) h fun r1 h1=>
 av Tryz.prog (Instr.buildSlice 22 1 #[(0,(.int .i64 (5:Int)))]) (.one (.sc .slc)) h1 fun v2 h2=>
 af Tryz.prog 9 #[(.agg #[(.int .i64 (1:Int)),(.int .i64 (1:Int)),(.int .i64 (1:Int))]),(.int .i64 (0:Int)),(.pointer r1),(.slice v2.ptr v2.len v2.cap)] (.many [(.sc .ptr),(.sc (.int .i64))]) h2 fun r3 h3=>
 af Tryz.prog 31 #[(.pointer r3.1),(.int .i64 (0:Int)),(.int .i64 (0:Int))] (.many [(.sc (.int .i64)),(.sc (.int .i64))]) h3 fun r4 h4=>
 af Tryz.prog 31 #[(.pointer r3.1),(.int .i64 (1:Int)),(.int .i64 (0:Int))] (.many [(.sc (.int .i64)),(.sc (.int .i64))]) h4 fun r5 h5=>
 Br (r3.2==(0:Int)) (Br (r4.2==(0:Int)) (Br (r4.1==(0:Int)) (R (.bool (r5.2==(1:Int))) h5) (R (.bool false) h5)) (R (.bool false) h5)) (R (.bool false) h5)
theorem jz {R:Value→Heap→Prop} {h:Heap} (hm:fZ R h):ae Tryz.prog 35 #[] h R:=aw ah Tryz.func35 .n hm
abbrev kc:FuncId:=36
noncomputable def gl (a_0:Int) (b_1:Int) (c_2:Int) (R:Value→Heap→Prop) (h:Heap):Prop:=
 aW Tryz.prog (Instr.alloc 24 true (.tuple #[])) h fun a1 h1=>
 af Tryz.prog 10 #[(.int .i64 a_0),(.int .i64 (6:Int))] (.one (.sc (.int .i64))) h1 fun r2 h2=>
 af Tryz.prog 10 #[(.int .i64 b_1),(.int .i64 (3:Int))] (.one (.sc (.int .i64))) h2 fun r3 h3=>
 af Tryz.prog 10 #[(.int .i64 c_2),(.int .i64 (9:Int))] (.one (.sc (.int .i64))) h3 fun r4 h4=>
 ab Tryz.prog (Instr.storeAt 24 (.pointer (some a1)) (.agg #[(.int .i64 (IntKind.wrap .i64 ((1:Int)+r2))),(.int .i64 (IntKind.wrap .i64 ((1:Int)+r3))),(.int .i64 (IntKind.wrap .i64 ((1:Int)+r4)))])) h4 fun _ h5=>
 ∃res5:Int×Int×Int,aj h5 a1 0 [(.int .i64 res5.1),(.int .i64 res5.2.1),(.int .i64 res5.2.2)]∧
 R (.agg #[(.int .i64 res5.1),(.int .i64 res5.2.1),(.int .i64 res5.2.2)]) h5
theorem j3 (a_0:Int) (b_1:Int) (c_2:Int) {R:Value→Heap→Prop} {h:Heap} (hm:gl a_0 b_1 c_2 R h):ae Tryz.prog 36 #[(.int .i64 a_0),(.int .i64 b_1),(.int .i64 c_2)] h R:=aw ah Tryz.func36 .n hm
abbrev lh:FuncId:=37
noncomputable def gT (l_0:Sl) (k_1:Int) (R:Value→Heap→Prop) (h:Heap):Prop:=
 Br (decide (k_1<((l_0.len:Nat):Int)))
 (∃a1:Addr,(l_0.ptr=some a1∧0≤k_1∧k_1<((l_0.len:Nat):Int))∧
 ∃x2:Int,cellOf h (a1.add (k_1.toNat*1))=some (.int .i64 x2)∧
 R (.int .i64 x2) h)
 (R (.int .i64 (0:Int)) h)
theorem kR (l_0:Sl) (k_1:Int) {R:Value→Heap→Prop} {h:Heap} (hm:gT l_0 k_1 R h):ae Tryz.prog 37 #[(.slice l_0.ptr l_0.len l_0.cap),(.int .i64 k_1)] h R:=aw ah Tryz.func37 .n hm
abbrev pQ:FuncId:=38
noncomputable def lj (cells_0:Sl) (R:Value→Heap→Prop) (h:Heap):Prop:=
 aR (σ:=Sl×Int) (fun s1 K1 h1=>
 Br (decide (s1.2<((cells_0.len:Nat):Int)))
 (∃a2:Addr,(cells_0.ptr=some a2∧0≤s1.2∧s1.2<((cells_0.len:Nat):Int))∧
 ∃x3:Int,cellOf h1 (a2.add (s1.2.toNat*1))=some (.int .i64 x3)∧
 bn (σ:=Unit) (fun _ h2=>
 Br (decide (x3>(0:Int)))
 (av Tryz.prog (Instr.buildSlice 22 1 #[(0,(.int .i64 s1.2))]) (.one (.sc .slc)) h2 fun v5 h3=>
 av Tryz.prog (Builtin.append_ #[22,22] 22 #[(.slice s1.1.ptr s1.1.len s1.1.cap),(.slice v5.ptr v5.len v5.cap)]) (.one (.sc .slc)) h3 fun v6 h4=>
 K1 ((⟨v6.ptr,v6.len,v6.cap⟩:Sl),IntKind.wrap .i64 (s1.2+(1:Int))) h4)
 (K1 ((⟨s1.1.ptr,s1.1.len,s1.1.cap⟩:Sl),IntKind.wrap .i64 (s1.2+(1:Int))) h2))
 (fun K2=>
 Br (decide (x3<(0:Int))) (R (.tuple #[(.slice none 0 0),(.bool false)]) h1) (Br (decide (x3>(512:Int)))
 (R (.tuple #[(.slice none 0 0),(.bool false)]) h1)
 (K2 () h1))))
 (Br (decide (((cells_0.len:Nat):Int)≤(64:Int))) (R (.tuple #[(.slice s1.1.ptr s1.1.len s1.1.cap),(.bool (decide (((s1.1.len:Nat):Int)>(0:Int))))]) h1) (R (.tuple #[(.slice s1.1.ptr s1.1.len s1.1.cap),(.bool false)]) h1))) ((⟨none,0,0⟩:Sl),(0:Int)) h
theorem oX (cells_0:Sl) {R:Value→Heap→Prop} {h:Heap} (hm:lj cells_0 R h):ae Tryz.prog 38 #[(.slice cells_0.ptr cells_0.len cells_0.cap)] h R:=aw ah Tryz.func38 (.two .n (.two .n (.two (.two .n (.inn (.loop [(4,(.sc .slc)),(9,(.sc (.int .i64)))] [(2,7),(9,27)] (.two .n (.two .n (.two (.inn (.two .n (.two (.join [] [(2,4),(14,20)] .n) .n))) .n)))))) .n))) hm
abbrev wz:FuncId:=39
noncomputable def rN (p_0:Int×Int×Int) (R:Value→Heap→Prop) (h:Heap):Prop:=
 aW Tryz.prog (Instr.box 24 (.agg #[(.int .i64 p_0.1),(.int .i64 p_0.2.1),(.int .i64 p_0.2.2)])) h fun a1 h1=>
 ∃x2:Int,cellOf h1 a1=some (.int .i64 x2)∧
 Br (decide (x2≥(1:Int))) (∃x3:Int,cellOf h1 a1=some (.int .i64 x3)∧
 Br (decide (x3≤(16:Int))) (∃x4:Int,cellOf h1 (a1.add 1)=some (.int .i64 x4)∧
 Br (decide (x4≥(1:Int))) (∃x5:Int,cellOf h1 (a1.add 1)=some (.int .i64 x5)∧
 Br (decide (x5≤(4:Int))) (∃x6:Int,cellOf h1 (a1.add 2)=some (.int .i64 x6)∧
 Br (decide (x6≥(1:Int))) (∃x7:Int,cellOf h1 (a1.add 2)=some (.int .i64 x7)∧
 R (.bool (decide (x7≤(24:Int)))) h1) (R (.bool false) h1)) (R (.bool false) h1)) (R (.bool false) h1)) (R (.bool false) h1)) (R (.bool false) h1)
theorem uU (p_0:Int×Int×Int) {R:Value→Heap→Prop} {h:Heap} (hm:rN p_0 R h):ae Tryz.prog 39 #[(.agg #[(.int .i64 p_0.1),(.int .i64 p_0.2.1),(.int .i64 p_0.2.2)])] h R:=aw ah Tryz.func39 .n hm
abbrev mu:FuncId:=40
noncomputable def ja (p_0:Option Addr) (R:Value→Heap→Prop) (h:Heap):Prop:=
 Br (Option.isNone p_0)
 (R (.int .i64 (0:Int)) h)
 (∃a1:Addr,(p_0=some a1)∧
 ∃x2:Int,cellOf h (a1.add 3)=some (.int .i64 x2)∧
 R (.int .i64 x2) h)
theorem lS (p_0:Option Addr) {R:Value→Heap→Prop} {h:Heap} (hm:ja p_0 R h):ae Tryz.prog 40 #[(.pointer p_0)] h R:=aw ah Tryz.func40 .n hm
abbrev si:FuncId:=41
noncomputable def nb (m_0:Int×Int×Int×Int×Int×Int×Sl×Sl) (R:Value→Heap→Prop) (h:Heap):Prop:=
 aW Tryz.prog (Instr.box 47 (.agg #[(.int .i64 m_0.1),(.int .i64 m_0.2.1),(.int .i64 m_0.2.2.1),(.int .i64 m_0.2.2.2.1),(.int .i64 m_0.2.2.2.2.1),(.int .i64 m_0.2.2.2.2.2.1),(.slice m_0.2.2.2.2.2.2.1.ptr m_0.2.2.2.2.2.2.1.len m_0.2.2.2.2.2.2.1.cap),(.slice m_0.2.2.2.2.2.2.2.ptr m_0.2.2.2.2.2.2.2.len m_0.2.2.2.2.2.2.2.cap)])) h fun a1 h1=>
 ∃x2:Int×Int×Int×Int×Int×Int×Sl×Sl,aj h1 a1 0 [(.int .i64 x2.1),(.int .i64 x2.2.1),(.int .i64 x2.2.2.1),(.int .i64 x2.2.2.2.1),(.int .i64 x2.2.2.2.2.1),(.int .i64 x2.2.2.2.2.2.1),(.slice x2.2.2.2.2.2.2.1.ptr x2.2.2.2.2.2.2.1.len x2.2.2.2.2.2.2.1.cap),(.slice x2.2.2.2.2.2.2.2.ptr x2.2.2.2.2.2.2.2.len x2.2.2.2.2.2.2.2.cap)]∧
 af Tryz.prog 87 #[(.agg #[(.int .i64 x2.1),(.int .i64 x2.2.1),(.int .i64 x2.2.2.1),(.int .i64 x2.2.2.2.1),(.int .i64 x2.2.2.2.2.1),(.int .i64 x2.2.2.2.2.2.1),(.slice x2.2.2.2.2.2.2.1.ptr x2.2.2.2.2.2.2.1.len x2.2.2.2.2.2.2.1.cap),(.slice x2.2.2.2.2.2.2.2.ptr x2.2.2.2.2.2.2.2.len x2.2.2.2.2.2.2.2.cap)])] (.one (.sc .slc)) h1 fun r3 h2=>
 ((48:Int)≠0)∧
 aR (σ:=Sl×Int) (fun s4 K1 h3=>
 Br (decide (s4.2<(IntKind.wrap .i64 (Int.tdiv (IntKind.wrap .i64 ((IntKind.wrap .i64 (((r3.len:Nat):Int)+(48:Int)))-(1:Int))) (48:Int)))))
 (∃x5:Int,cellOf h3 a1=some (.int .i64 x5)∧
 (0≤(IntKind.wrap .i64 (s4.2*(48:Int)))∧(IntKind.wrap .i64 (s4.2*(48:Int)))≤(if(IntKind.wrap .i64 ((IntKind.wrap .i64 (s4.2+(1:Int)))*(48:Int)))<((r3.len:Nat):Int)then IntKind.wrap .i64 ((IntKind.wrap .i64 (s4.2+(1:Int)))*(48:Int))else((r3.len:Nat):Int))∧(if(IntKind.wrap .i64 ((IntKind.wrap .i64 (s4.2+(1:Int)))*(48:Int)))<((r3.len:Nat):Int)then IntKind.wrap .i64 ((IntKind.wrap .i64 (s4.2+(1:Int)))*(48:Int))else((r3.len:Nat):Int))≤((r3.cap:Nat):Int))∧
 af Tryz.prog 88 #[(.int .i64 x5),(.int .i64 s4.2),(.int .i64 (IntKind.wrap .i64 (Int.tdiv (IntKind.wrap .i64 ((IntKind.wrap .i64 (((r3.len:Nat):Int)+(48:Int)))-(1:Int))) (48:Int)))),(.slice (if r3.cap=(IntKind.wrap .i64 (s4.2*(48:Int))).toNat then r3.ptr else r3.ptr.map (·.add ((IntKind.wrap .i64 (s4.2*(48:Int))).toNat*1))) ((if(IntKind.wrap .i64 ((IntKind.wrap .i64 (s4.2+(1:Int)))*(48:Int)))<((r3.len:Nat):Int)then IntKind.wrap .i64 ((IntKind.wrap .i64 (s4.2+(1:Int)))*(48:Int))else((r3.len:Nat):Int)).toNat-(IntKind.wrap .i64 (s4.2*(48:Int))).toNat) (r3.cap-(IntKind.wrap .i64 (s4.2*(48:Int))).toNat))] (.one (.sc .slc)) h3 fun r6 h4=>
 (aC.ok [] h4)∧
 av Tryz.prog (Instr.buildSlice 59 1 #[(0,(.slice r6.ptr r6.len r6.cap))]) (.one (.sc .slc)) h4 fun v7 h5=>
 (aC.ok [] h5)∧
 av Tryz.prog (Builtin.append_ #[59,59] 59 #[(.slice s4.1.ptr s4.1.len s4.1.cap),(.slice v7.ptr v7.len v7.cap)]) (.one (.sc .slc)) h5 fun v8 h6=>
 (aC.ok [] h6)∧
 K1 ((⟨v8.ptr,v8.len,v8.cap⟩:Sl),IntKind.wrap .i64 (s4.2+(1:Int))) h6)
 (R (.slice s4.1.ptr s4.1.len s4.1.cap) h3)) ((⟨none,0,0⟩:Sl),(0:Int)) h2
theorem qQ (m_0:Int×Int×Int×Int×Int×Int×Sl×Sl) {R:Value→Heap→Prop} {h:Heap} (hm:nb m_0 R h):ae Tryz.prog 41 #[(.agg #[(.int .i64 m_0.1),(.int .i64 m_0.2.1),(.int .i64 m_0.2.2.1),(.int .i64 m_0.2.2.2.1),(.int .i64 m_0.2.2.2.2.1),(.int .i64 m_0.2.2.2.2.2.1),(.slice m_0.2.2.2.2.2.2.1.ptr m_0.2.2.2.2.2.2.1.len m_0.2.2.2.2.2.2.1.cap),(.slice m_0.2.2.2.2.2.2.2.ptr m_0.2.2.2.2.2.2.2.len m_0.2.2.2.2.2.2.2.cap)])] h R:=aw ah Tryz.func41 (.two .n (.two .n (.two .n (.two .n (.two (.two .n (.inn (.loop [(5,(.sc .slc)),(16,(.sc (.int .i64)))] [(5,8),(16,39)] .n))) .n))))) hm
abbrev wA:FuncId:=42
noncomputable def rO (at_0:FuncId×Array Value×Array Value) (l_1:Sl) (R:Value→Heap→Prop) (h:Heap):Prop:=
 aR (σ:=Sl×Int) (fun s1 K1 h1=>
 Br (decide (s1.2<((l_1.len:Nat):Int)))
 (∃a2:Addr,(l_1.ptr=some a2∧0≤s1.2∧s1.2<((l_1.len:Nat):Int))∧
 ∃x3:Int×Sl,aj h1 (a2.add (s1.2.toNat*2)) 0 [(.int .i64 x3.1),(.slice x3.2.ptr x3.2.len x3.2.cap)]∧
 aW Tryz.prog (Instr.alloc 102 true (.tuple #[])) h1 fun a4 h2=>
 ab Tryz.prog (Instr.storeAt 102 (.pointer (some a4)) (.agg #[(.int .i64 x3.1),(.slice x3.2.ptr x3.2.len x3.2.cap)])) h2 fun _ h3=>
 bn (σ:=Unit) (fun _ h7=>
 ∃x11:Int,cellOf h7 a4=some (.int .i64 x11)∧
 av Tryz.prog (Instr.buildSlice 22 1 #[(0,(.int .i64 x11))]) (.one (.sc .slc)) h7 fun v12 h8=>
 av Tryz.prog (Builtin.append_ #[22,22] 22 #[(.slice s1.1.ptr s1.1.len s1.1.cap),(.slice v12.ptr v12.len v12.cap)]) (.one (.sc .slc)) h8 fun v13 h9=>
 K1 ((⟨v13.ptr,v13.len,v13.cap⟩:Sl),IntKind.wrap .i64 (s1.2+(1:Int))) h9)
 (fun K2=>
 bn (σ:=Int) (fun s9 h6=>
 Br (s9 !=(0:Int))
 (R (.int .i64 s9) h6)
 (K2 () h6))
 (fun K3=>
 ∃x5:Int,cellOf h3 a4=some (.int .i64 x5)∧
 ∃x6:Sl,cellOf h3 (a4.add 1)=some (.slice x6.ptr x6.len x6.cap)∧
 ga C at_0.1 (at_0.2.1.toList++[(.int .i64 x5)]++at_0.2.2.toList) (.one (.sc .ptr)) h3 fun r7 h4=>
 (aC.ok [(a4.add 1,(.slice x6.ptr x6.len x6.cap))] h4)∧
 af Tryz.prog 89 #[(.pointer r7),(.slice x6.ptr x6.len x6.cap)] (.one (.sc (.int .i64))) h4 fun r8 h5=>
 (aC.ok [] h5)∧
 K3 r8 h5)))
 (af Tryz.prog 90 #[(.func (.func at_0.1) at_0.2.1 at_0.2.2),(.slice s1.1.ptr s1.1.len s1.1.cap)] (.one (.sc (.int .i64))) h1 fun r14 h10=>
 R (.int .i64 r14) h10)) ((⟨none,0,0⟩:Sl),(0:Int)) h
theorem uV (at_0:FuncId×Array Value×Array Value) (l_1:Sl) {R:Value→Heap→Prop} {h:Heap} (hm:rO at_0 l_1 R h):ae Tryz.prog 42 #[(.func (.func at_0.1) at_0.2.1 at_0.2.2),(.slice l_1.ptr l_1.len l_1.cap)] h R:=aw ah Tryz.func42 (.two .n (.two .n (.two (.two .n (.inn (.loop [(5,(.sc .slc)),(11,(.sc (.int .i64)))] [(4,6),(7,9),(11,31)] (.two .n (.two .n (.two (.inn (.two .n (.two (.join [] [(4,5),(8,9),(15,25)] (.two (.join [(8,(.sc (.int .i64)))] [(8,9),(15,22)] .n) .n)) .n))) .n)))))) .n))) hm
abbrev tX:FuncId:=43
noncomputable def ou (m_0:Int×Int×Int×Int×Int×Int×Sl×Sl) (slots_1:Sl) (R:Value→Heap→Prop) (h:Heap):Prop:=
 aW Tryz.prog (Instr.box 47 (.agg #[(.int .i64 m_0.1),(.int .i64 m_0.2.1),(.int .i64 m_0.2.2.1),(.int .i64 m_0.2.2.2.1),(.int .i64 m_0.2.2.2.2.1),(.int .i64 m_0.2.2.2.2.2.1),(.slice m_0.2.2.2.2.2.2.1.ptr m_0.2.2.2.2.2.2.1.len m_0.2.2.2.2.2.2.1.cap),(.slice m_0.2.2.2.2.2.2.2.ptr m_0.2.2.2.2.2.2.2.len m_0.2.2.2.2.2.2.2.cap)])) h fun a1 h1=>
 ∃x2:Int×Int×Int×Int×Int×Int×Sl×Sl,aj h1 a1 0 [(.int .i64 x2.1),(.int .i64 x2.2.1),(.int .i64 x2.2.2.1),(.int .i64 x2.2.2.2.1),(.int .i64 x2.2.2.2.2.1),(.int .i64 x2.2.2.2.2.2.1),(.slice x2.2.2.2.2.2.2.1.ptr x2.2.2.2.2.2.2.1.len x2.2.2.2.2.2.2.1.cap),(.slice x2.2.2.2.2.2.2.2.ptr x2.2.2.2.2.2.2.2.len x2.2.2.2.2.2.2.2.cap)]∧
 af Tryz.prog 41 #[(.agg #[(.int .i64 x2.1),(.int .i64 x2.2.1),(.int .i64 x2.2.2.1),(.int .i64 x2.2.2.2.1),(.int .i64 x2.2.2.2.2.1),(.int .i64 x2.2.2.2.2.2.1),(.slice x2.2.2.2.2.2.2.1.ptr x2.2.2.2.2.2.2.1.len x2.2.2.2.2.2.2.1.cap),(.slice x2.2.2.2.2.2.2.2.ptr x2.2.2.2.2.2.2.2.len x2.2.2.2.2.2.2.2.cap)])] (.one (.sc .slc)) h1 fun r3 h2=>
 aR (σ:=Sl×Int) (fun s4 K1 h3=>
 Br (decide (s4.2<((slots_1.len:Nat):Int)))
 (∃a5:Addr,(slots_1.ptr=some a5∧0≤s4.2∧s4.2<((slots_1.len:Nat):Int))∧
 ∃x6:Int,cellOf h3 (a5.add (s4.2.toNat*1))=some (.int .i64 x6)∧
 aR (σ:=Sl×Int) (fun s7 K2 h4=>
 Br (decide (s7.2<((r3.len:Nat):Int)))
 (∃a8:Addr,(r3.ptr=some a8∧0≤s7.2∧s7.2<((r3.len:Nat):Int))∧
 ∃x9:Sl,cellOf h4 (a8.add (s7.2.toNat*1))=some (.slice x9.ptr x9.len x9.cap)∧
 av Tryz.prog (Instr.buildSlice 90 1 #[(0,(.agg #[(.int .i64 x6),(.slice x9.ptr x9.len x9.cap)]))]) (.one (.sc .slc)) h4 fun v10 h5=>
 av Tryz.prog (Builtin.append_ #[90,90] 90 #[(.slice s7.1.ptr s7.1.len s7.1.cap),(.slice v10.ptr v10.len v10.cap)]) (.one (.sc .slc)) h5 fun v11 h6=>
 K2 ((⟨v11.ptr,v11.len,v11.cap⟩:Sl),IntKind.wrap .i64 (s7.2+(1:Int))) h6)
 (K1 ((⟨s7.1.ptr,s7.1.len,s7.1.cap⟩:Sl),IntKind.wrap .i64 (s4.2+(1:Int))) h4)) ((⟨s4.1.ptr,s4.1.len,s4.1.cap⟩:Sl),(0:Int)) h3)
 (R (.slice s4.1.ptr s4.1.len s4.1.cap) h3)) ((⟨none,0,0⟩:Sl),(0:Int)) h2
theorem sj (m_0:Int×Int×Int×Int×Int×Int×Sl×Sl) (slots_1:Sl) {R:Value→Heap→Prop} {h:Heap} (hm:ou m_0 slots_1 R h):ae Tryz.prog 43 #[(.agg #[(.int .i64 m_0.1),(.int .i64 m_0.2.1),(.int .i64 m_0.2.2.1),(.int .i64 m_0.2.2.2.1),(.int .i64 m_0.2.2.2.2.1),(.int .i64 m_0.2.2.2.2.2.1),(.slice m_0.2.2.2.2.2.2.1.ptr m_0.2.2.2.2.2.2.1.len m_0.2.2.2.2.2.2.1.cap),(.slice m_0.2.2.2.2.2.2.2.ptr m_0.2.2.2.2.2.2.2.len m_0.2.2.2.2.2.2.2.cap)]),(.slice slots_1.ptr slots_1.len slots_1.cap)] h R:=aw ah Tryz.func43 (.two .n (.two .n (.two .n (.two (.two .n (.inn (.loop [(6,(.sc .slc)),(15,(.sc (.int .i64)))] [(6,7),(8,9),(10,11),(15,33)] (.two .n (.two .n (.two (.inn (.two .n (.two .n (.inn (.loop [(6,(.sc .slc)),(21,(.sc (.int .i64)))] [(6,7),(10,11),(21,32)] .n))))) .n)))))) .n)))) hm
abbrev tY:FuncId:=44
noncomputable def ov (l_0:Sl) (R:Value→Heap→Prop) (h:Heap):Prop:=
 aR (σ:=Sl×Int) (fun s1 K1 h1=>
 Br (decide (s1.2<((l_0.len:Nat):Int)))
 (∃a2:Addr,(l_0.ptr=some a2∧0≤s1.2∧s1.2<((l_0.len:Nat):Int))∧
 ∃x3:Sl,cellOf h1 (a2.add (s1.2.toNat*1))=some (.slice x3.ptr x3.len x3.cap)∧
 af Tryz.prog 91 #[(.slice x3.ptr x3.len x3.cap)] (.one (.sc .slc)) h1 fun r4 h2=>
 av Tryz.prog (Instr.buildSlice 59 1 #[(0,(.slice r4.ptr r4.len r4.cap))]) (.one (.sc .slc)) h2 fun v5 h3=>
 av Tryz.prog (Builtin.append_ #[59,59] 59 #[(.slice s1.1.ptr s1.1.len s1.1.cap),(.slice v5.ptr v5.len v5.cap)]) (.one (.sc .slc)) h3 fun v6 h4=>
 K1 ((⟨v6.ptr,v6.len,v6.cap⟩:Sl),IntKind.wrap .i64 (s1.2+(1:Int))) h4)
 (R (.slice s1.1.ptr s1.1.len s1.1.cap) h1)) ((⟨none,0,0⟩:Sl),(0:Int)) h
theorem sk (l_0:Sl) {R:Value→Heap→Prop} {h:Heap} (hm:ov l_0 R h):ae Tryz.prog 44 #[(.slice l_0.ptr l_0.len l_0.cap)] h R:=aw ah Tryz.func44 (.two .n (.two .n (.two (.two .n (.inn (.loop [(3,(.sc .slc)),(8,(.sc (.int .i64)))] [(3,4),(5,6),(8,18)] .n))) .n))) hm
abbrev mv:FuncId:=54
noncomputable def jb (d_0:Option Addr) (R:Value→Heap→Prop) (h:Heap):Prop:=
 Br (!(Option.isNone d_0)) (∃a1:Addr,(d_0=some a1)∧
 ∃x2:Bool,cellOf h (a1.add 6)=some (.bool x2)∧
 R (.bool x2) h) (R (.bool false) h)
theorem lT (d_0:Option Addr) {R:Value→Heap→Prop} {h:Heap} (hm:jb d_0 R h):ae Tryz.prog 54 #[(.pointer d_0)] h R:=aw ah Tryz.func54 .n hm
abbrev eU:FuncId:=56
noncomputable def cO (s_0:Sl) (s_1:Sl) (eq_2:FuncId×Array Value×Array Value) (R:Value→Heap→Prop) (h:Heap):Prop:=
 Br (((s_0.len:Nat):Int) !=((s_1.len:Nat):Int))
 (R (.bool false) h)
 (aR (σ:=Int) (fun s1 K1 h1=>
 Br (decide (s1<((s_0.len:Nat):Int)))
 (∃a2:Addr,(s_0.ptr=some a2∧0≤s1∧s1<((s_0.len:Nat):Int))∧
 ∃x3:Sl,cellOf h1 (a2.add (s1.toNat*1))=some (.slice x3.ptr x3.len x3.cap)∧
 ∃a4:Addr,(s_1.ptr=some a4∧0≤s1∧s1<((s_1.len:Nat):Int))∧
 ∃x5:Sl,cellOf h1 (a4.add (s1.toNat*1))=some (.slice x5.ptr x5.len x5.cap)∧
 ga C eq_2.1 (eq_2.2.1.toList++[(.slice x3.ptr x3.len x3.cap),(.slice x5.ptr x5.len x5.cap)]++eq_2.2.2.toList) (.one (.sc .bool)) h1 fun r6 h2=>
 Br (!r6)
 (R (.bool false) h2)
 (K1 (IntKind.wrap .i64 (s1+(1:Int))) h2))
 (R (.bool true) h1)) (0:Int) h)
theorem eE (s_0:Sl) (s_1:Sl) (eq_2:FuncId×Array Value×Array Value) {R:Value→Heap→Prop} {h:Heap} (hm:cO s_0 s_1 eq_2 R h):ae Tryz.prog 56 #[(.slice s_0.ptr s_0.len s_0.cap),(.slice s_1.ptr s_1.len s_1.cap),(.func (.func eq_2.1) eq_2.2.1 eq_2.2.2)] h R:=aw ah Tryz.func56 (.two .n (.two .n (.two (.two .n (.inn (.loop [(17,(.sc (.int .i64)))] [(6,10),(17,32)] .n))) .n))) hm
abbrev nc:FuncId:=57
noncomputable def jq (d_0:Option Addr) (R:Value→Heap→Prop) (h:Heap):Prop:=
 Br (Option.isNone d_0)
 (R (.slice none 0 0) h)
 (∃a1:Addr,(d_0=some a1)∧
 ∃x2:Sl,cellOf h (a1.add 2)=some (.slice x2.ptr x2.len x2.cap)∧
 af Tryz.prog 44 #[(.slice x2.ptr x2.len x2.cap)] (.one (.sc .slc)) h fun r3 h1=>
 R (.slice r3.ptr r3.len r3.cap) h1)
theorem mw (d_0:Option Addr) {R:Value→Heap→Prop} {h:Heap} (hm:jq d_0 R h):ae Tryz.prog 57 #[(.pointer d_0)] h R:=aw ah Tryz.func57 .n hm
abbrev iw:FuncId:=58
noncomputable def mf (a_0:Sl) (b_1:Sl) (R:Value→Heap→Prop) (h:Heap):Prop:=
 av Tryz.prog (convert 38 9 (.slice a_0.ptr a_0.len a_0.cap)) (.one (.sc .str)) h fun v1 h1=>
 av Tryz.prog (convert 38 9 (.slice b_1.ptr b_1.len b_1.cap)) (.one (.sc .str)) h1 fun v2 h2=>
 R (.bool (v1.toList==v2.toList)) h2
theorem pR (a_0:Sl) (b_1:Sl) {R:Value→Heap→Prop} {h:Heap} (hm:mf a_0 b_1 R h):ae Tryz.prog 58 #[(.slice a_0.ptr a_0.len a_0.cap),(.slice b_1.ptr b_1.len b_1.cap)] h R:=aw ah Tryz.func58 .n hm
abbrev gm:FuncId:=59
noncomputable def gA (d_0:Option Addr) (l_1:Sl) (R:Value→Heap→Prop) (h:Heap):Prop:=
 aR (σ:=Int) (fun s1 K1 h1=>
 Br (decide (s1<((l_1.len:Nat):Int)))
 (∃a2:Addr,(l_1.ptr=some a2∧0≤s1∧s1<((l_1.len:Nat):Int))∧
 ∃x3:Sl,cellOf h1 (a2.add (s1.toNat*1))=some (.slice x3.ptr x3.len x3.cap)∧
 Br (((x3.len:Nat):Int) !=(64:Int))
 (R (.int .i64 (1:Int)) h1)
 (K1 (IntKind.wrap .i64 (s1+(1:Int))) h1))
 (bn (σ:=Unit) (fun _ h4=>
 ∃a13:Addr,(d_0=some a13)∧
 ∃x14:Option Addr,cellOf h4 a13=some (.pointer x14)∧
 af Tryz.prog 34 #[(.pointer x14)] (.one (.sc .bool)) h4 fun r15 h5=>
 Br (!r15)
 (af Tryz.prog 44 #[(.slice l_1.ptr l_1.len l_1.cap)] (.one (.sc .slc)) h5 fun r16 h6=>
 ∃a17:Addr,(d_0=some a17)∧
 ab Tryz.prog (Instr.storeAt 59 (.pointer (some (a17.add 4))) (.slice r16.ptr r16.len r16.cap)) h6 fun _ h7=>
 ∃a18:Addr,(d_0=some a18)∧
 ab Tryz.prog (Instr.storeAt 4 (.pointer (some (a18.add 5))) (.bool true)) h7 fun _ h8=>
 R (.int .i64 (14:Int)) h8)
 (af Tryz.prog 44 #[(.slice l_1.ptr l_1.len l_1.cap)] (.one (.sc .slc)) h5 fun r19 h9=>
 ∃a20:Addr,(d_0=some a20)∧
 ab Tryz.prog (Instr.storeAt 59 (.pointer (some (a20.add 2))) (.slice r19.ptr r19.len r19.cap)) h9 fun _ h10=>
 ∃a21:Addr,(d_0=some a21)∧
 ab Tryz.prog (Instr.storeAt 3 (.pointer (some (a21.add 3))) (.int .i64 (0:Int))) h10 fun _ h11=>
 af Tryz.prog 111 #[(.pointer d_0)] (.one (.sc (.int .i64))) h11 fun r22 h12=>
 R (.int .i64 r22) h12))
 (fun K2=>
 bn (σ:=Bool) (fun s6 h2=>
 Br s6
 (R (.int .i64 (5:Int)) h2)
 (∃a7:Addr,(d_0=some a7)∧
 ∃x8:Int,cellOf h2 (a7.add 1)=some (.int .i64 x8)∧
 Br (decide (((l_1.len:Nat):Int)>x8))
 (R (.int .i64 (7:Int)) h2)
 (∃a9:Addr,(d_0=some a9)∧
 ∃x10:Option Addr,cellOf h2 a9=some (.pointer x10)∧
 af Tryz.prog 86 #[(.pointer x10)] (.one (.sc .bool)) h2 fun r11 h3=>
 Br (!r11)
 (R (.int .i64 (14:Int)) h3)
 (K2 () h3))))
 (fun K3=>
 Br (Option.isNone d_0) (K3 true h1) (∃a4:Addr,(d_0=some a4)∧
 ∃x5:Bool,cellOf h1 (a4.add 6)=some (.bool x5)∧
 K3 x5 h1))))) (0:Int) h
theorem kd (d_0:Option Addr) (l_1:Sl) {R:Value→Heap→Prop} {h:Heap} (hm:gA d_0 l_1 R h):ae Tryz.prog 59 #[(.pointer d_0),(.slice l_1.ptr l_1.len l_1.cap)] h R:=aw ah Tryz.func59 (.two .n (.two (.two .n (.inn (.loop [(9,(.sc (.int .i64)))] [(4,5),(6,7),(9,17)] .n))) (.two (.join [] [(4,5),(17,41)] (.inn (.two (.join [(17,(.sc .bool))] [(17,26)] .n) .n))) .n))) hm
abbrev ow:FuncId:=62
noncomputable def pS (m_0:Int×Int×Int×Int×Int×Int×Sl×Sl) (R:Value→Heap→Prop) (h:Heap):Prop:=
 aW Tryz.prog (Instr.box 47 (.agg #[(.int .i64 m_0.1),(.int .i64 m_0.2.1),(.int .i64 m_0.2.2.1),(.int .i64 m_0.2.2.2.1),(.int .i64 m_0.2.2.2.2.1),(.int .i64 m_0.2.2.2.2.2.1),(.slice m_0.2.2.2.2.2.2.1.ptr m_0.2.2.2.2.2.2.1.len m_0.2.2.2.2.2.2.1.cap),(.slice m_0.2.2.2.2.2.2.2.ptr m_0.2.2.2.2.2.2.2.len m_0.2.2.2.2.2.2.2.cap)])) h fun a1 h1=>
 aW Tryz.prog (Instr.alloc 47 true (.tuple #[])) h1 fun a2 h2=>
 bn (σ:=Unit) (fun _ h7=>
 ∃x8:Sl,cellOf h7 (a1.add 7)=some (.slice x8.ptr x8.len x8.cap)∧
 aR (σ:=Int) (fun s9 K2 h8=>
 Br (decide (s9<((x8.len:Nat):Int)))
 (∃x10:Sl,cellOf h8 (a1.add 7)=some (.slice x10.ptr x10.len x10.cap)∧
 ∃x11:Sl,cellOf h8 (a1.add 7)=some (.slice x11.ptr x11.len x11.cap)∧
 ∃a12:Addr,(x11.ptr=some a12∧0≤s9∧s9<((x11.len:Nat):Int))∧
 ∃x13:Sl,cellOf h8 ((a12.add (s9.toNat*4)).add 3)=some (.slice x13.ptr x13.len x13.cap)∧
 af Tryz.prog 79 #[(.slice x13.ptr x13.len x13.cap)] (.one (.sc .slc)) h8 fun r14 h9=>
 (aC.ok [(a1.add 7,(.slice x11.ptr x11.len x11.cap)),(a1.add 7,(.slice x10.ptr x10.len x10.cap))] h9)∧
 ∃a15:Addr,(x10.ptr=some a15∧0≤s9∧s9<((x10.len:Nat):Int))∧
 ab Tryz.prog (Instr.storeAt 22 (.pointer (some ((a15.add (s9.toNat*4)).add 3))) (.slice r14.ptr r14.len r14.cap)) h9 fun _ h10=>
 (aC.ok [] h10)∧
 K2 (IntKind.wrap .i64 (s9+(1:Int))) h10)
 (∃x16:Int×Int×Int×Int×Int×Int×Sl×Sl,aj h8 a1 0 [(.int .i64 x16.1),(.int .i64 x16.2.1),(.int .i64 x16.2.2.1),(.int .i64 x16.2.2.2.1),(.int .i64 x16.2.2.2.2.1),(.int .i64 x16.2.2.2.2.2.1),(.slice x16.2.2.2.2.2.2.1.ptr x16.2.2.2.2.2.2.1.len x16.2.2.2.2.2.2.1.cap),(.slice x16.2.2.2.2.2.2.2.ptr x16.2.2.2.2.2.2.2.len x16.2.2.2.2.2.2.2.cap)]∧
 ab Tryz.prog (Instr.storeAt 47 (.pointer (some a2)) (.agg #[(.int .i64 x16.1),(.int .i64 x16.2.1),(.int .i64 x16.2.2.1),(.int .i64 x16.2.2.2.1),(.int .i64 x16.2.2.2.2.1),(.int .i64 x16.2.2.2.2.2.1),(.slice x16.2.2.2.2.2.2.1.ptr x16.2.2.2.2.2.2.1.len x16.2.2.2.2.2.2.1.cap),(.slice x16.2.2.2.2.2.2.2.ptr x16.2.2.2.2.2.2.2.len x16.2.2.2.2.2.2.2.cap)])) h8 fun _ h11=>
 ∃res17:Int×Int×Int×Int×Int×Int×Sl×Sl,aj h11 a2 0 [(.int .i64 res17.1),(.int .i64 res17.2.1),(.int .i64 res17.2.2.1),(.int .i64 res17.2.2.2.1),(.int .i64 res17.2.2.2.2.1),(.int .i64 res17.2.2.2.2.2.1),(.slice res17.2.2.2.2.2.2.1.ptr res17.2.2.2.2.2.2.1.len res17.2.2.2.2.2.2.1.cap),(.slice res17.2.2.2.2.2.2.2.ptr res17.2.2.2.2.2.2.2.len res17.2.2.2.2.2.2.2.cap)]∧
 R (.agg #[(.int .i64 res17.1),(.int .i64 res17.2.1),(.int .i64 res17.2.2.1),(.int .i64 res17.2.2.2.1),(.int .i64 res17.2.2.2.2.1),(.int .i64 res17.2.2.2.2.2.1),(.slice res17.2.2.2.2.2.2.1.ptr res17.2.2.2.2.2.2.1.len res17.2.2.2.2.2.2.1.cap),(.slice res17.2.2.2.2.2.2.2.ptr res17.2.2.2.2.2.2.2.len res17.2.2.2.2.2.2.2.cap)]) h11)) (0:Int) h7)
 (fun K1=>
 ∃x3:Sl,cellOf h2 (a1.add 6)=some (.slice x3.ptr x3.len x3.cap)∧
 ∃x4:Sl,cellOf h2 (a1.add 7)=some (.slice x4.ptr x4.len x4.cap)∧
 af Tryz.prog 79 #[(.slice x3.ptr x3.len x3.cap)] (.one (.sc .slc)) h2 fun r5 h3=>
 (aC.ok [(a1.add 7,(.slice x4.ptr x4.len x4.cap))] h3)∧
 af Tryz.prog 112 #[(.slice x4.ptr x4.len x4.cap)] (.one (.sc .slc)) h3 fun r6 h4=>
 (aC.ok [] h4)∧
 ab Tryz.prog (Instr.storeAt 22 (.pointer (some (a1.add 6))) (.slice r5.ptr r5.len r5.cap)) h4 fun _ h5=>
 (aC.ok [] h5)∧
 ab Tryz.prog (Instr.storeAt 45 (.pointer (some (a1.add 7))) (.slice r6.ptr r6.len r6.cap)) h5 fun _ h6=>
 (aC.ok [] h6)∧
 K1 () h6)
theorem tZ (m_0:Int×Int×Int×Int×Int×Int×Sl×Sl) {R:Value→Heap→Prop} {h:Heap} (hm:pS m_0 R h):ae Tryz.prog 62 #[(.agg #[(.int .i64 m_0.1),(.int .i64 m_0.2.1),(.int .i64 m_0.2.2.1),(.int .i64 m_0.2.2.2.1),(.int .i64 m_0.2.2.2.2.1),(.int .i64 m_0.2.2.2.2.2.1),(.slice m_0.2.2.2.2.2.2.1.ptr m_0.2.2.2.2.2.2.1.len m_0.2.2.2.2.2.2.1.cap),(.slice m_0.2.2.2.2.2.2.2.ptr m_0.2.2.2.2.2.2.2.len m_0.2.2.2.2.2.2.2.cap)])] h R:=aw ah Tryz.func62 (.two .n (.two (.join [] [(4,12)] .n) (.two (.two .n (.inn (.loop [(15,(.sc (.int .i64)))] [(3,4),(15,31)] .n))) .n))) hm
abbrev uW:FuncId:=63
noncomputable def pT (m_0:Int×Int×Int×Int×Int×Int×Sl×Sl) (R:Value→Heap→Prop) (h:Heap):Prop:=
 aW Tryz.prog (Instr.box 47 (.agg #[(.int .i64 m_0.1),(.int .i64 m_0.2.1),(.int .i64 m_0.2.2.1),(.int .i64 m_0.2.2.2.1),(.int .i64 m_0.2.2.2.2.1),(.int .i64 m_0.2.2.2.2.2.1),(.slice m_0.2.2.2.2.2.2.1.ptr m_0.2.2.2.2.2.2.1.len m_0.2.2.2.2.2.2.1.cap),(.slice m_0.2.2.2.2.2.2.2.ptr m_0.2.2.2.2.2.2.2.len m_0.2.2.2.2.2.2.2.cap)])) h fun a1 h1=>
 bn (σ:=Unit) (fun _ h6=>
 bn (σ:=Unit) (fun _ h8=>
 ∃x15:Sl,cellOf h8 (a1.add 7)=some (.slice x15.ptr x15.len x15.cap)∧
 aR (σ:=Int) (fun s16 K3 h9=>
 Br (decide (s16<((x15.len:Nat):Int)))
 (∃a17:Addr,(x15.ptr=some a17∧0≤s16∧s16<((x15.len:Nat):Int))∧
 ∃x18:ByteArray×Int×Int×Sl,aj h9 (a17.add (s16.toNat*4)) 0 [(.string x18.1),(.int .i64 x18.2.1),(.int .i64 x18.2.2.1),(.slice x18.2.2.2.ptr x18.2.2.2.len x18.2.2.2.cap)]∧
 aW Tryz.prog (Instr.alloc 96 true (.tuple #[])) h9 fun a19 h10=>
 ab Tryz.prog (Instr.storeAt 96 (.pointer (some a19)) (.agg #[(.string x18.1),(.int .i64 x18.2.1),(.int .i64 x18.2.2.1),(.slice x18.2.2.2.ptr x18.2.2.2.len x18.2.2.2.cap)])) h10 fun _ h11=>
 bn (σ:=Unit) (fun _ h13=>
 ∃x28:Sl,cellOf h13 (a1.add 7)=some (.slice x28.ptr x28.len x28.cap)∧
 (0≤s16∧s16≤((x28.cap:Nat):Int))∧
 af Tryz.prog 116 #[(.slice x28.ptr s16.toNat x28.cap),(.func (.func 117) #[] #[(.pointer (some a19))])] (.one (.sc .bool)) h13 fun r29 h14=>
 Br r29
 (R (.bool false) h14)
 (K3 (IntKind.wrap .i64 (s16+(1:Int))) h14))
 (fun K4=>
 ∃x20:Int×Int×Int×Int×Int×Int×Sl×Sl,aj h11 a1 0 [(.int .i64 x20.1),(.int .i64 x20.2.1),(.int .i64 x20.2.2.1),(.int .i64 x20.2.2.2.1),(.int .i64 x20.2.2.2.2.1),(.int .i64 x20.2.2.2.2.2.1),(.slice x20.2.2.2.2.2.2.1.ptr x20.2.2.2.2.2.2.1.len x20.2.2.2.2.2.2.1.cap),(.slice x20.2.2.2.2.2.2.2.ptr x20.2.2.2.2.2.2.2.len x20.2.2.2.2.2.2.2.cap)]∧
 ∃x21:ByteArray×Int×Int×Sl,aj h11 a19 0 [(.string x21.1),(.int .i64 x21.2.1),(.int .i64 x21.2.2.1),(.slice x21.2.2.2.ptr x21.2.2.2.len x21.2.2.2.cap)]∧
 af Tryz.prog 115 #[(.agg #[(.int .i64 x20.1),(.int .i64 x20.2.1),(.int .i64 x20.2.2.1),(.int .i64 x20.2.2.2.1),(.int .i64 x20.2.2.2.2.1),(.int .i64 x20.2.2.2.2.2.1),(.slice x20.2.2.2.2.2.2.1.ptr x20.2.2.2.2.2.2.1.len x20.2.2.2.2.2.2.1.cap),(.slice x20.2.2.2.2.2.2.2.ptr x20.2.2.2.2.2.2.2.len x20.2.2.2.2.2.2.2.cap)]),(.agg #[(.string x21.1),(.int .i64 x21.2.1),(.int .i64 x21.2.2.1),(.slice x21.2.2.2.ptr x21.2.2.2.len x21.2.2.2.cap)])] (.one (.sc .bool)) h11 fun r22 h12=>
 (aC.ok [] h12)∧
 Br (!r22) (R (.bool false) h12) (Br (decide (s16>(0:Int))) (∃x23:Sl,cellOf h12 (a1.add 7)=some (.slice x23.ptr x23.len x23.cap)∧
 ∃a24:Addr,(x23.ptr=some a24∧0≤(IntKind.wrap .i64 (s16-(1:Int)))∧(IntKind.wrap .i64 (s16-(1:Int)))<((x23.len:Nat):Int))∧
 ∃x25:ByteArray,cellOf h12 (a24.add ((IntKind.wrap .i64 (s16-(1:Int))).toNat*4))=some (.string x25)∧
 ∃x26:ByteArray,cellOf h12 a19=some (.string x26)∧
 Br (!(Op.bytesLess x25.toList x26.toList))
 (R (.bool false) h12)
 (K4 () h12)) (K4 () h12))))
 (R (.bool true) h9)) (0:Int) h8)
 (fun K2=>
 ∃x11:Sl,cellOf h6 (a1.add 6)=some (.slice x11.ptr x11.len x11.cap)∧
 af Tryz.prog 114 #[(.slice x11.ptr x11.len x11.cap),(.int .i64 (63:Int))] (.one (.sc .bool)) h6 fun r12 h7=>
 Br (!r12) (R (.bool false) h7) (∃x13:Sl,cellOf h7 (a1.add 7)=some (.slice x13.ptr x13.len x13.cap)∧
 Br (decide (((x13.len:Nat):Int)>(12:Int)))
 (R (.bool false) h7)
 (K2 () h7))))
 (fun K1=>
 ∃x2:Int,cellOf h1 a1=some (.int .i64 x2)∧
 af Tryz.prog 113 #[(.int .i64 x2),(.int .i64 (1:Int)),(.int .i64 (2147483647:Int))] (.one (.sc .bool)) h1 fun r3 h2=>
 Br (!r3) (R (.bool false) h2) (∃x4:Int,cellOf h2 (a1.add 1)=some (.int .i64 x4)∧
 af Tryz.prog 113 #[(.int .i64 x4),(.int .i64 (0:Int)),(.int .i64 (16777216:Int))] (.one (.sc .bool)) h2 fun r5 h3=>
 Br (!r5) (R (.bool false) h3) (∃x6:Int×Int×Int,aj h3 (a1.add 2) 0 [(.int .i64 x6.1),(.int .i64 x6.2.1),(.int .i64 x6.2.2)]∧
 af Tryz.prog 39 #[(.agg #[(.int .i64 x6.1),(.int .i64 x6.2.1),(.int .i64 x6.2.2)])] (.one (.sc .bool)) h3 fun r7 h4=>
 Br (!r7) (R (.bool false) h4) (∃x8:Int,cellOf h4 (a1.add 5)=some (.int .i64 x8)∧
 af Tryz.prog 113 #[(.int .i64 x8),(.int .i64 (0:Int)),(.int .i64 (16:Int))] (.one (.sc .bool)) h4 fun r9 h5=>
 Br (!r9)
 (R (.bool false) h5)
 (K1 () h5)))))
theorem ua (m_0:Int×Int×Int×Int×Int×Int×Sl×Sl) {R:Value→Heap→Prop} {h:Heap} (hm:pT m_0 R h):ae Tryz.prog 63 #[(.agg #[(.int .i64 m_0.1),(.int .i64 m_0.2.1),(.int .i64 m_0.2.2.1),(.int .i64 m_0.2.2.2.1),(.int .i64 m_0.2.2.2.2.1),(.int .i64 m_0.2.2.2.2.2.1),(.slice m_0.2.2.2.2.2.2.1.ptr m_0.2.2.2.2.2.2.1.len m_0.2.2.2.2.2.2.1.cap),(.slice m_0.2.2.2.2.2.2.2.ptr m_0.2.2.2.2.2.2.2.len m_0.2.2.2.2.2.2.2.cap)])] h R:=aw ah Tryz.func63 (.two .n (.two (.join [] [(2,3),(5,27)] .n) (.two (.join [] [(2,3),(27,37)] .n) (.two (.two .n (.inn (.loop [(40,(.sc (.int .i64)))] [(2,5),(40,72)] (.two .n (.two .n (.two (.inn (.two .n (.two (.join [] [(2,3),(45,65)] .n) .n))) .n)))))) .n)))) hm
abbrev uX:FuncId:=66
noncomputable def pU (at_0:FuncId×Array Value×Array Value) (slots_1:Sl) (R:Value→Heap→Prop) (h:Heap):Prop:=
 aR (σ:=Sl×Int) (fun s1 K1 h1=>
 Br (decide (s1.2<((slots_1.len:Nat):Int)))
 (∃a2:Addr,(slots_1.ptr=some a2∧0≤s1.2∧s1.2<((slots_1.len:Nat):Int))∧
 ∃x3:Int,cellOf h1 (a2.add (s1.2.toNat*1))=some (.int .i64 x3)∧
 ga C at_0.1 (at_0.2.1.toList++[(.int .i64 x3)]++at_0.2.2.toList) (.one (.sc .ptr)) h1 fun r4 h2=>
 Br (!(Option.isNone r4)) (af Tryz.prog 54 #[(.pointer r4)] (.one (.sc .bool)) h2 fun r5 h3=>
 Br (!r5)
 (av Tryz.prog (Instr.buildSlice 22 1 #[(0,(.int .i64 x3))]) (.one (.sc .slc)) h3 fun v6 h4=>
 av Tryz.prog (Builtin.append_ #[22,22] 22 #[(.slice s1.1.ptr s1.1.len s1.1.cap),(.slice v6.ptr v6.len v6.cap)]) (.one (.sc .slc)) h4 fun v7 h5=>
 K1 ((⟨v7.ptr,v7.len,v7.cap⟩:Sl),IntKind.wrap .i64 (s1.2+(1:Int))) h5)
 (K1 ((⟨s1.1.ptr,s1.1.len,s1.1.cap⟩:Sl),IntKind.wrap .i64 (s1.2+(1:Int))) h3)) (K1 ((⟨s1.1.ptr,s1.1.len,s1.1.cap⟩:Sl),IntKind.wrap .i64 (s1.2+(1:Int))) h2))
 (R (.slice s1.1.ptr s1.1.len s1.1.cap) h1)) ((⟨none,0,0⟩:Sl),(0:Int)) h
theorem ub (at_0:FuncId×Array Value×Array Value) (slots_1:Sl) {R:Value→Heap→Prop} {h:Heap} (hm:pU at_0 slots_1 R h):ae Tryz.prog 66 #[(.func (.func at_0.1) at_0.2.1 at_0.2.2),(.slice slots_1.ptr slots_1.len slots_1.cap)] h R:=aw ah Tryz.func66 (.two .n (.two .n (.two (.two .n (.inn (.loop [(5,(.sc .slc)),(11,(.sc (.int .i64)))] [(5,6),(7,9),(11,30)] .n))) .n))) hm
end Go.Proofs.YtdhamoojccmbdaaGreatDoor
