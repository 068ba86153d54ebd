/- Part of the proofs that the laws of this seat answer true whatever the input reads, and leave it as it was; no condition. -/
import Derived.Test.YtdoiokchdaoonaaGreatTabA
set_option linter.unusedVariables false
set_option linter.unusedSimpArgs false
namespace Go.Proofs.YtdoiokchdaoonaaGreat
open Go Go.Vc Go.Proofs
set_option maxRecDepth 1000000
abbrev zU:FuncId:=149
noncomputable def rZ (b_0:Sl) (R:Value→Heap→Prop) (h:Heap):Prop:=
 aM Tryz.prog (Instr.alloc 149 true (.tuple #[])) h fun a1 h1=>
 af Tryz.prog 192 #[(.slice b_0.ptr b_0.len b_0.cap)] (.many [(.sc (.int .i64)),(.sc .slc),(.sc .bool)]) h1 fun r2 h2=>
 aW (σ:=Unit) (fun _ h5=>
 aW (σ:=Addr) (fun s19 h23=>
 aW (σ:=Unit) (fun _ h28=>
 (0≤(9:Int)∧(9:Int)≤(13:Int)∧(13:Int)≤((r2.2.1.cap:Nat):Int))∧
 af Tryz.prog 193 #[(.slice (if r2.2.1.cap=(9:Int).toNat then r2.2.1.ptr else r2.2.1.ptr.map (·.add ((9:Int).toNat*1))) ((13:Int).toNat-(9:Int).toNat) (r2.2.1.cap-(9:Int).toNat))] (.one (.sc (.int .i64))) h28 fun r24 h29=>
 ae Tryz.prog (Instr.storeAt 56 (.pointer (some (s19.add 6))) (.int .u32 (IntKind.wrap .u32 r24))) h29 fun _ h30=>
 ∃x25:Int×Int×Int,ai h30 (s19.add 3) 0 [(.int .i64 x25.1),(.int .i64 x25.2.1),(.int .i64 x25.2.2)]∧
 af Tryz.prog 31 #[(.agg #[(.int .i64 x25.1),(.int .i64 x25.2.1),(.int .i64 x25.2.2)])] (.one (.sc .bool)) h30 fun r26 h31=>
 Br (!r26)
 (ae Tryz.prog (Instr.storeAt 149 (.pointer (some a1)) (.agg #[(.int .i64 (0:Int)),(.int .i64 (0:Int)),(.int .i64 (0:Int)),(.int .i64 (0:Int)),(.int .i64 (0:Int)),(.int .i64 (0:Int)),(.int .u32 (0:Int)),(.slice none 0 0)])) h31 fun _ h32=>
 ∃res27:Int×Int×Int×Int×Int×Int×Int×Sl,ai h32 a1 0 [(.int .i64 res27.1),(.int .i64 res27.2.1),(.int .i64 res27.2.2.1),(.int .i64 res27.2.2.2.1),(.int .i64 res27.2.2.2.2.1),(.int .i64 res27.2.2.2.2.2.1),(.int .u32 res27.2.2.2.2.2.2.1),(.slice res27.2.2.2.2.2.2.2.ptr res27.2.2.2.2.2.2.2.len res27.2.2.2.2.2.2.2.cap)]∧
 R (.tuple #[(.agg #[(.int .i64 res27.1),(.int .i64 res27.2.1),(.int .i64 res27.2.2.1),(.int .i64 res27.2.2.2.1),(.int .i64 res27.2.2.2.2.1),(.int .i64 res27.2.2.2.2.2.1),(.int .u32 res27.2.2.2.2.2.2.1),(.slice res27.2.2.2.2.2.2.2.ptr res27.2.2.2.2.2.2.2.len res27.2.2.2.2.2.2.2.cap)]),(.bool false)]) h32)
 (∃x28:Int,cellOf h31 ((s19.add 3).add 2)=some (.int .i64 x28)∧
 (0≤(13:Int)∧(13:Int)≤(IntKind.wrap .i64 ((13:Int)+x28))∧(IntKind.wrap .i64 ((13:Int)+x28))≤((r2.2.1.cap:Nat):Int))∧
 af Tryz.prog 115 #[(.slice (if r2.2.1.cap=(13:Int).toNat then r2.2.1.ptr else r2.2.1.ptr.map (·.add ((13:Int).toNat*1))) ((IntKind.wrap .i64 ((13:Int)+x28)).toNat-(13:Int).toNat) (r2.2.1.cap-(13:Int).toNat))] (.one (.sc .slc)) h31 fun r29 h33=>
 ae Tryz.prog (Instr.storeAt 45 (.pointer (some (s19.add 7))) (.slice r29.ptr r29.len r29.cap)) h33 fun _ h34=>
 ∃x30:Int×Int×Int×Int×Int×Int×Int×Sl,ai h34 s19 0 [(.int .i64 x30.1),(.int .i64 x30.2.1),(.int .i64 x30.2.2.1),(.int .i64 x30.2.2.2.1),(.int .i64 x30.2.2.2.2.1),(.int .i64 x30.2.2.2.2.2.1),(.int .u32 x30.2.2.2.2.2.2.1),(.slice x30.2.2.2.2.2.2.2.ptr x30.2.2.2.2.2.2.2.len x30.2.2.2.2.2.2.2.cap)]∧
 af Tryz.prog 95 #[(.agg #[(.int .i64 x30.1),(.int .i64 x30.2.1),(.int .i64 x30.2.2.1),(.int .i64 x30.2.2.2.1),(.int .i64 x30.2.2.2.2.1),(.int .i64 x30.2.2.2.2.2.1),(.int .u32 x30.2.2.2.2.2.2.1),(.slice x30.2.2.2.2.2.2.2.ptr x30.2.2.2.2.2.2.2.len x30.2.2.2.2.2.2.2.cap)])] (.one (.sc .slc)) h34 fun r31 h35=>
 af Tryz.prog 69 #[(.slice b_0.ptr b_0.len b_0.cap),(.slice r31.ptr r31.len r31.cap)] (.one (.sc .bool)) h35 fun r32 h36=>
 Br (!r32)
 (ae Tryz.prog (Instr.storeAt 149 (.pointer (some a1)) (.agg #[(.int .i64 (0:Int)),(.int .i64 (0:Int)),(.int .i64 (0:Int)),(.int .i64 (0:Int)),(.int .i64 (0:Int)),(.int .i64 (0:Int)),(.int .u32 (0:Int)),(.slice none 0 0)])) h36 fun _ h37=>
 ∃res33:Int×Int×Int×Int×Int×Int×Int×Sl,ai h37 a1 0 [(.int .i64 res33.1),(.int .i64 res33.2.1),(.int .i64 res33.2.2.1),(.int .i64 res33.2.2.2.1),(.int .i64 res33.2.2.2.2.1),(.int .i64 res33.2.2.2.2.2.1),(.int .u32 res33.2.2.2.2.2.2.1),(.slice res33.2.2.2.2.2.2.2.ptr res33.2.2.2.2.2.2.2.len res33.2.2.2.2.2.2.2.cap)]∧
 R (.tuple #[(.agg #[(.int .i64 res33.1),(.int .i64 res33.2.1),(.int .i64 res33.2.2.1),(.int .i64 res33.2.2.2.1),(.int .i64 res33.2.2.2.2.1),(.int .i64 res33.2.2.2.2.2.1),(.int .u32 res33.2.2.2.2.2.2.1),(.slice res33.2.2.2.2.2.2.2.ptr res33.2.2.2.2.2.2.2.len res33.2.2.2.2.2.2.2.cap)]),(.bool false)]) h37)
 (∃x34:Int×Int×Int×Int×Int×Int×Int×Sl,ai h36 s19 0 [(.int .i64 x34.1),(.int .i64 x34.2.1),(.int .i64 x34.2.2.1),(.int .i64 x34.2.2.2.1),(.int .i64 x34.2.2.2.2.1),(.int .i64 x34.2.2.2.2.2.1),(.int .u32 x34.2.2.2.2.2.2.1),(.slice x34.2.2.2.2.2.2.2.ptr x34.2.2.2.2.2.2.2.len x34.2.2.2.2.2.2.2.cap)]∧
 ae Tryz.prog (Instr.storeAt 149 (.pointer (some a1)) (.agg #[(.int .i64 x34.1),(.int .i64 x34.2.1),(.int .i64 x34.2.2.1),(.int .i64 x34.2.2.2.1),(.int .i64 x34.2.2.2.2.1),(.int .i64 x34.2.2.2.2.2.1),(.int .u32 x34.2.2.2.2.2.2.1),(.slice x34.2.2.2.2.2.2.2.ptr x34.2.2.2.2.2.2.2.len x34.2.2.2.2.2.2.2.cap)])) h36 fun _ h38=>
 ∃res35:Int×Int×Int×Int×Int×Int×Int×Sl,ai h38 a1 0 [(.int .i64 res35.1),(.int .i64 res35.2.1),(.int .i64 res35.2.2.1),(.int .i64 res35.2.2.2.1),(.int .i64 res35.2.2.2.2.1),(.int .i64 res35.2.2.2.2.2.1),(.int .u32 res35.2.2.2.2.2.2.1),(.slice res35.2.2.2.2.2.2.2.ptr res35.2.2.2.2.2.2.2.len res35.2.2.2.2.2.2.2.cap)]∧
 R (.tuple #[(.agg #[(.int .i64 res35.1),(.int .i64 res35.2.1),(.int .i64 res35.2.2.1),(.int .i64 res35.2.2.2.1),(.int .i64 res35.2.2.2.2.1),(.int .i64 res35.2.2.2.2.2.1),(.int .u32 res35.2.2.2.2.2.2.1),(.slice res35.2.2.2.2.2.2.2.ptr res35.2.2.2.2.2.2.2.len res35.2.2.2.2.2.2.2.cap)]),(.bool true)]) h38)))
 (fun K3=>
 (0≤(6:Int)∧(6:Int)≤(7:Int)∧(7:Int)≤((r2.2.1.cap:Nat):Int))∧
 (0≤(7:Int)∧(7:Int)≤(8:Int)∧(8:Int)≤((r2.2.1.cap:Nat):Int))∧
 (0≤(8:Int)∧(8:Int)≤(9:Int)∧(9:Int)≤((r2.2.1.cap:Nat):Int))∧
 af Tryz.prog 193 #[(.slice (if r2.2.1.cap=(6:Int).toNat then r2.2.1.ptr else r2.2.1.ptr.map (·.add ((6:Int).toNat*1))) ((7:Int).toNat-(6:Int).toNat) (r2.2.1.cap-(6:Int).toNat))] (.one (.sc (.int .i64))) h23 fun r20 h24=>
 (aw.ok [] h24)∧
 af Tryz.prog 193 #[(.slice (if r2.2.1.cap=(7:Int).toNat then r2.2.1.ptr else r2.2.1.ptr.map (·.add ((7:Int).toNat*1))) ((8:Int).toNat-(7:Int).toNat) (r2.2.1.cap-(7:Int).toNat))] (.one (.sc (.int .i64))) h24 fun r21 h25=>
 (aw.ok [] h25)∧
 af Tryz.prog 193 #[(.slice (if r2.2.1.cap=(8:Int).toNat then r2.2.1.ptr else r2.2.1.ptr.map (·.add ((8:Int).toNat*1))) ((9:Int).toNat-(8:Int).toNat) (r2.2.1.cap-(8:Int).toNat))] (.one (.sc (.int .i64))) h25 fun r22 h26=>
 (aw.ok [] h26)∧
 ae Tryz.prog (Instr.storeAt 23 (.pointer (some (s19.add 3))) (.agg #[(.int .i64 r20),(.int .i64 r21),(.int .i64 r22)])) h26 fun _ h27=>
 (aw.ok [] h27)∧
 K3 () h27))
 (fun K2=>
 (0≤(3:Int)∧(3:Int)≤((r2.2.1.cap:Nat):Int))∧
 (0≤(3:Int)∧(3:Int)≤(4:Int)∧(4:Int)≤((r2.2.1.cap:Nat):Int))∧
 (0≤(4:Int)∧(4:Int)≤(6:Int)∧(6:Int)≤((r2.2.1.cap:Nat):Int))∧
 (af Tryz.prog 193 #[(.slice r2.2.1.ptr ((3:Int).toNat) r2.2.1.cap)] (.one (.sc (.int .i64))) h5 fun r6 h6=>
 (aw.ok [] h6)∧
 (af Tryz.prog 193 #[(.slice (if r2.2.1.cap=(3:Int).toNat then r2.2.1.ptr else r2.2.1.ptr.map (·.add ((3:Int).toNat*1))) ((4:Int).toNat-(3:Int).toNat) (r2.2.1.cap-(3:Int).toNat))] (.one (.sc (.int .i64))) h6 fun r7 h7=>
 (aw.ok [] h7)∧
 (af Tryz.prog 193 #[(.slice (if r2.2.1.cap=(4:Int).toNat then r2.2.1.ptr else r2.2.1.ptr.map (·.add ((4:Int).toNat*1))) ((6:Int).toNat-(4:Int).toNat) (r2.2.1.cap-(4:Int).toNat))] (.one (.sc (.int .i64))) h7 fun r8 h8=>
 (aw.ok [] h8)∧
 aM Tryz.prog (Instr.alloc 149 true (.tuple #[])) h8 fun a9 h9=>
 (aw.ok [] h9)∧
 ae Tryz.prog (Instr.storeAt 149 (.pointer (some a9)) (.agg #[(.int .i64 r6),(.int .i64 r7),(.int .i64 r8),(.int .i64 (0:Int)),(.int .i64 (0:Int)),(.int .i64 (0:Int)),(.int .u32 (0:Int)),(.slice none 0 0)])) h9 fun _ h10=>
 (aw.ok [] h10)∧
 K2 a9 h10)∧(aM Tryz.prog (Instr.alloc 149 true (.tuple #[])) h7 fun a10 h11=>
 (aw.ok [] h11)∧
 af Tryz.prog 193 #[(.slice (if r2.2.1.cap=(4:Int).toNat then r2.2.1.ptr else r2.2.1.ptr.map (·.add ((4:Int).toNat*1))) ((6:Int).toNat-(4:Int).toNat) (r2.2.1.cap-(4:Int).toNat))] (.one (.sc (.int .i64))) h11 fun r11 h12=>
 (aw.ok [] h12)∧
 ae Tryz.prog (Instr.storeAt 149 (.pointer (some a10)) (.agg #[(.int .i64 r6),(.int .i64 r7),(.int .i64 r11),(.int .i64 (0:Int)),(.int .i64 (0:Int)),(.int .i64 (0:Int)),(.int .u32 (0:Int)),(.slice none 0 0)])) h12 fun _ h13=>
 (aw.ok [] h13)∧
 K2 a10 h13))∧(aM Tryz.prog (Instr.alloc 149 true (.tuple #[])) h6 fun a12 h14=>
 (aw.ok [] h14)∧
 af Tryz.prog 193 #[(.slice (if r2.2.1.cap=(3:Int).toNat then r2.2.1.ptr else r2.2.1.ptr.map (·.add ((3:Int).toNat*1))) ((4:Int).toNat-(3:Int).toNat) (r2.2.1.cap-(3:Int).toNat))] (.one (.sc (.int .i64))) h14 fun r13 h15=>
 (aw.ok [] h15)∧
 af Tryz.prog 193 #[(.slice (if r2.2.1.cap=(4:Int).toNat then r2.2.1.ptr else r2.2.1.ptr.map (·.add ((4:Int).toNat*1))) ((6:Int).toNat-(4:Int).toNat) (r2.2.1.cap-(4:Int).toNat))] (.one (.sc (.int .i64))) h15 fun r14 h16=>
 (aw.ok [] h16)∧
 ae Tryz.prog (Instr.storeAt 149 (.pointer (some a12)) (.agg #[(.int .i64 r6),(.int .i64 r13),(.int .i64 r14),(.int .i64 (0:Int)),(.int .i64 (0:Int)),(.int .i64 (0:Int)),(.int .u32 (0:Int)),(.slice none 0 0)])) h16 fun _ h17=>
 (aw.ok [] h17)∧
 K2 a12 h17))∧(aM Tryz.prog (Instr.alloc 149 true (.tuple #[])) h5 fun a15 h18=>
 (aw.ok [] h18)∧
 af Tryz.prog 193 #[(.slice r2.2.1.ptr ((3:Int).toNat) r2.2.1.cap)] (.one (.sc (.int .i64))) h18 fun r16 h19=>
 (aw.ok [] h19)∧
 af Tryz.prog 193 #[(.slice (if r2.2.1.cap=(3:Int).toNat then r2.2.1.ptr else r2.2.1.ptr.map (·.add ((3:Int).toNat*1))) ((4:Int).toNat-(3:Int).toNat) (r2.2.1.cap-(3:Int).toNat))] (.one (.sc (.int .i64))) h19 fun r17 h20=>
 (aw.ok [] h20)∧
 af Tryz.prog 193 #[(.slice (if r2.2.1.cap=(4:Int).toNat then r2.2.1.ptr else r2.2.1.ptr.map (·.add ((4:Int).toNat*1))) ((6:Int).toNat-(4:Int).toNat) (r2.2.1.cap-(4:Int).toNat))] (.one (.sc (.int .i64))) h20 fun r18 h21=>
 (aw.ok [] h21)∧
 ae Tryz.prog (Instr.storeAt 149 (.pointer (some a15)) (.agg #[(.int .i64 r16),(.int .i64 r17),(.int .i64 r18),(.int .i64 (0:Int)),(.int .i64 (0:Int)),(.int .i64 (0:Int)),(.int .u32 (0:Int)),(.slice none 0 0)])) h21 fun _ h22=>
 (aw.ok [] h22)∧
 K2 a15 h22)))
 (fun K1=>
 Br (!r2.2.2) (ae Tryz.prog (Instr.storeAt 149 (.pointer (some a1)) (.agg #[(.int .i64 (0:Int)),(.int .i64 (0:Int)),(.int .i64 (0:Int)),(.int .i64 (0:Int)),(.int .i64 (0:Int)),(.int .i64 (0:Int)),(.int .u32 (0:Int)),(.slice none 0 0)])) h2 fun _ h3=>
 ∃res3:Int×Int×Int×Int×Int×Int×Int×Sl,ai h3 a1 0 [(.int .i64 res3.1),(.int .i64 res3.2.1),(.int .i64 res3.2.2.1),(.int .i64 res3.2.2.2.1),(.int .i64 res3.2.2.2.2.1),(.int .i64 res3.2.2.2.2.2.1),(.int .u32 res3.2.2.2.2.2.2.1),(.slice res3.2.2.2.2.2.2.2.ptr res3.2.2.2.2.2.2.2.len res3.2.2.2.2.2.2.2.cap)]∧
 R (.tuple #[(.agg #[(.int .i64 res3.1),(.int .i64 res3.2.1),(.int .i64 res3.2.2.1),(.int .i64 res3.2.2.2.1),(.int .i64 res3.2.2.2.2.1),(.int .i64 res3.2.2.2.2.2.1),(.int .u32 res3.2.2.2.2.2.2.1),(.slice res3.2.2.2.2.2.2.2.ptr res3.2.2.2.2.2.2.2.len res3.2.2.2.2.2.2.2.cap)]),(.bool false)]) h3) (Br (r2.1 !=(1:Int))
 (ae Tryz.prog (Instr.storeAt 149 (.pointer (some a1)) (.agg #[(.int .i64 (0:Int)),(.int .i64 (0:Int)),(.int .i64 (0:Int)),(.int .i64 (0:Int)),(.int .i64 (0:Int)),(.int .i64 (0:Int)),(.int .u32 (0:Int)),(.slice none 0 0)])) h2 fun _ h4=>
 ∃res4:Int×Int×Int×Int×Int×Int×Int×Sl,ai h4 a1 0 [(.int .i64 res4.1),(.int .i64 res4.2.1),(.int .i64 res4.2.2.1),(.int .i64 res4.2.2.2.1),(.int .i64 res4.2.2.2.2.1),(.int .i64 res4.2.2.2.2.2.1),(.int .u32 res4.2.2.2.2.2.2.1),(.slice res4.2.2.2.2.2.2.2.ptr res4.2.2.2.2.2.2.2.len res4.2.2.2.2.2.2.2.cap)]∧
 R (.tuple #[(.agg #[(.int .i64 res4.1),(.int .i64 res4.2.1),(.int .i64 res4.2.2.1),(.int .i64 res4.2.2.2.1),(.int .i64 res4.2.2.2.2.1),(.int .i64 res4.2.2.2.2.2.1),(.int .u32 res4.2.2.2.2.2.2.1),(.slice res4.2.2.2.2.2.2.2.ptr res4.2.2.2.2.2.2.2.len res4.2.2.2.2.2.2.2.cap)]),(.bool false)]) h4)
 (K1 () h2)))
theorem yn (b_0:Sl) {R:Value→Heap→Prop} {h:Heap} (hm:rZ b_0 R h):ab Tryz.prog 149 #[(.slice b_0.ptr b_0.len b_0.cap)] h R:=al ag Tryz.func149 (.two .n (.two .n (.two (.join [] [(3,4),(14,21)] .n) (.two (.join [(7,(.sc .adr))] [(7,8),(21,31)] .n) (.two (.join [] [(31,42)] .n) .n))))) hm
abbrev zV:FuncId:=150
noncomputable def sa (m_0:Int×Int×Int×Int×Int×Int×Sl×Sl) (r_1:Int×Int×Int×Int×Int×Int×Int×Sl) (R:Value→Heap→Prop) (h:Heap):Prop:=
 aM Tryz.prog (Instr.box 50 (.agg #[(.int .i64 m_0.1),(.int .i64 m_0.2.1),(.int .i64 m_0.2.2.1),(.int .i64 m_0.2.2.2.1),(.int .i64 m_0.2.2.2.2.1),(.int .i64 m_0.2.2.2.2.2.1),(.slice m_0.2.2.2.2.2.2.1.ptr m_0.2.2.2.2.2.2.1.len m_0.2.2.2.2.2.2.1.cap),(.slice m_0.2.2.2.2.2.2.2.ptr m_0.2.2.2.2.2.2.2.len m_0.2.2.2.2.2.2.2.cap)])) h fun a1 h1=>
 aM Tryz.prog (Instr.box 149 (.agg #[(.int .i64 r_1.1),(.int .i64 r_1.2.1),(.int .i64 r_1.2.2.1),(.int .i64 r_1.2.2.2.1),(.int .i64 r_1.2.2.2.2.1),(.int .i64 r_1.2.2.2.2.2.1),(.int .u32 r_1.2.2.2.2.2.2.1),(.slice r_1.2.2.2.2.2.2.2.ptr r_1.2.2.2.2.2.2.2.len r_1.2.2.2.2.2.2.2.cap)])) h1 fun a2 h2=>
 aW (σ:=Unit) (fun _ h4=>
 ∃x9:Sl,cellOf h4 (a1.add 7)=some (.slice x9.ptr x9.len x9.cap)∧
 af Tryz.prog 60 #[(.slice x9.ptr x9.len x9.cap),(.func (.func 194) #[] #[(.pointer (some a2))])] (.one (.sc .bool)) h4 fun r10 h5=>
 R (.bool r10) h5)
 (fun K1=>
 ∃x3:Int×Int×Int×Int×Int×Int×Int×Sl,ai h2 a2 0 [(.int .i64 x3.1),(.int .i64 x3.2.1),(.int .i64 x3.2.2.1),(.int .i64 x3.2.2.2.1),(.int .i64 x3.2.2.2.2.1),(.int .i64 x3.2.2.2.2.2.1),(.int .u32 x3.2.2.2.2.2.2.1),(.slice x3.2.2.2.2.2.2.2.ptr x3.2.2.2.2.2.2.2.len x3.2.2.2.2.2.2.2.cap)]∧
 af Tryz.prog 139 #[(.agg #[(.int .i64 x3.1),(.int .i64 x3.2.1),(.int .i64 x3.2.2.1),(.int .i64 x3.2.2.2.1),(.int .i64 x3.2.2.2.2.1),(.int .i64 x3.2.2.2.2.2.1),(.int .u32 x3.2.2.2.2.2.2.1),(.slice x3.2.2.2.2.2.2.2.ptr x3.2.2.2.2.2.2.2.len x3.2.2.2.2.2.2.2.cap)])] (.one (.sc .bool)) h2 fun r4 h3=>
 Br (!r4) (R (.bool false) h3) (∃x5:Int×Int×Int,ai h3 (a2.add 3) 0 [(.int .i64 x5.1),(.int .i64 x5.2.1),(.int .i64 x5.2.2)]∧
 ∃x6:Int×Int×Int,ai h3 (a1.add 2) 0 [(.int .i64 x6.1),(.int .i64 x6.2.1),(.int .i64 x6.2.2)]∧
 ∃b7:Bool,(iv Tryz.prog .neq 23 (.tmp 10) (.tmp 12) (.agg #[(.int .i64 x5.1),(.int .i64 x5.2.1),(.int .i64 x5.2.2)]) (.agg #[(.int .i64 x6.1),(.int .i64 x6.2.1),(.int .i64 x6.2.2)]) (.bool b7))∧
 Br b7
 (R (.bool false) h3)
 (K1 () h3)))
theorem yo (m_0:Int×Int×Int×Int×Int×Int×Sl×Sl) (r_1:Int×Int×Int×Int×Int×Int×Int×Sl) {R:Value→Heap→Prop} {h:Heap} (hm:sa m_0 r_1 R h):ab Tryz.prog 150 #[(.agg #[(.int .i64 m_0.1),(.int .i64 m_0.2.1),(.int .i64 m_0.2.2.1),(.int .i64 m_0.2.2.2.1),(.int .i64 m_0.2.2.2.2.1),(.int .i64 m_0.2.2.2.2.2.1),(.slice m_0.2.2.2.2.2.2.1.ptr m_0.2.2.2.2.2.2.1.len m_0.2.2.2.2.2.2.1.cap),(.slice m_0.2.2.2.2.2.2.2.ptr m_0.2.2.2.2.2.2.2.len m_0.2.2.2.2.2.2.2.cap)]),(.agg #[(.int .i64 r_1.1),(.int .i64 r_1.2.1),(.int .i64 r_1.2.2.1),(.int .i64 r_1.2.2.2.1),(.int .i64 r_1.2.2.2.2.1),(.int .i64 r_1.2.2.2.2.2.1),(.int .u32 r_1.2.2.2.2.2.2.1),(.slice r_1.2.2.2.2.2.2.2.ptr r_1.2.2.2.2.2.2.2.len r_1.2.2.2.2.2.2.2.cap)])] h R:=al ag Tryz.func150 (.two .n (.two (.join [] [(4,15)] .n) .n)) hm
abbrev gg:FuncId:=151
noncomputable def dA (x_0:Sl) (cmp_1:FuncId×Array Value×Array Value) (R:Value→Heap→Prop) (h:Heap):Prop:=
 af Tryz.prog 195 #[(.slice x_0.ptr x_0.len x_0.cap),(.int .i64 ((x_0.len:Nat):Int)),(.func (.func cmp_1.1) cmp_1.2.1 cmp_1.2.2)] (.many []) h fun _ h1=>
 R (.tuple #[]) h1
theorem gb (x_0:Sl) (cmp_1:FuncId×Array Value×Array Value) {R:Value→Heap→Prop} {h:Heap} (hm:dA x_0 cmp_1 R h):ab Tryz.prog 151 #[(.slice x_0.ptr x_0.len x_0.cap),(.func (.func cmp_1.1) cmp_1.2.1 cmp_1.2.2)] h R:=al ag Tryz.func151 .n hm
abbrev bX:FuncId:=152
noncomputable def ue (a_0:Int×Int×Int×Int×Int×Int×Int×Sl) (b_1:Int×Int×Int×Int×Int×Int×Int×Sl) (R:Value→Heap→Prop) (h:Heap):Prop:=
 aM Tryz.prog (Instr.box 149 (.agg #[(.int .i64 a_0.1),(.int .i64 a_0.2.1),(.int .i64 a_0.2.2.1),(.int .i64 a_0.2.2.2.1),(.int .i64 a_0.2.2.2.2.1),(.int .i64 a_0.2.2.2.2.2.1),(.int .u32 a_0.2.2.2.2.2.2.1),(.slice a_0.2.2.2.2.2.2.2.ptr a_0.2.2.2.2.2.2.2.len a_0.2.2.2.2.2.2.2.cap)])) h fun a1 h1=>
 aM Tryz.prog (Instr.box 149 (.agg #[(.int .i64 b_1.1),(.int .i64 b_1.2.1),(.int .i64 b_1.2.2.1),(.int .i64 b_1.2.2.2.1),(.int .i64 b_1.2.2.2.2.1),(.int .i64 b_1.2.2.2.2.2.1),(.int .u32 b_1.2.2.2.2.2.2.1),(.slice b_1.2.2.2.2.2.2.2.ptr b_1.2.2.2.2.2.2.2.len b_1.2.2.2.2.2.2.2.cap)])) h1 fun a2 h2=>
 ∃x3:Int,cellOf h2 a1=some (.int .i64 x3)∧
 ∃x4:Int,cellOf h2 a2=some (.int .i64 x4)∧
 ∃x5:Int,cellOf h2 (a1.add 1)=some (.int .i64 x5)∧
 ∃x6:Int,cellOf h2 (a2.add 1)=some (.int .i64 x6)∧
 ∃x7:Int,cellOf h2 (a1.add 2)=some (.int .i64 x7)∧
 ∃x8:Int,cellOf h2 (a2.add 2)=some (.int .i64 x8)∧
 af Tryz.prog 137 #[(.int .i64 x3),(.int .i64 x4)] (.one (.sc (.int .i64))) h2 fun r9 h3=>
 (aw.ok [(a2.add 2,(.int .i64 x8)),(a1.add 2,(.int .i64 x7)),(a2.add 1,(.int .i64 x6)),(a1.add 1,(.int .i64 x5))] h3)∧
 af Tryz.prog 137 #[(.int .i64 x5),(.int .i64 x6)] (.one (.sc (.int .i64))) h3 fun r10 h4=>
 (aw.ok [(a2.add 2,(.int .i64 x8)),(a1.add 2,(.int .i64 x7))] h4)∧
 af Tryz.prog 137 #[(.int .i64 x7),(.int .i64 x8)] (.one (.sc (.int .i64))) h4 fun r11 h5=>
 (aw.ok [] h5)∧
 av Tryz.prog (Instr.buildSlice 24 3 #[(0,(.int .i64 r9)),(1,(.int .i64 r10)),(2,(.int .i64 r11))]) (.one (.sc .slc)) h5 fun v12 h6=>
 (aw.ok [] h6)∧
 af Tryz.prog 135 #[(.slice v12.ptr v12.len v12.cap)] (.one (.sc (.int .i64))) h6 fun r13 h7=>
 (aw.ok [] h7)∧
 R (.int .i64 r13) h7
theorem zW (a_0:Int×Int×Int×Int×Int×Int×Int×Sl) (b_1:Int×Int×Int×Int×Int×Int×Int×Sl) {R:Value→Heap→Prop} {h:Heap} (hm:ue a_0 b_1 R h):ab Tryz.prog 152 #[(.agg #[(.int .i64 a_0.1),(.int .i64 a_0.2.1),(.int .i64 a_0.2.2.1),(.int .i64 a_0.2.2.2.1),(.int .i64 a_0.2.2.2.2.1),(.int .i64 a_0.2.2.2.2.2.1),(.int .u32 a_0.2.2.2.2.2.2.1),(.slice a_0.2.2.2.2.2.2.2.ptr a_0.2.2.2.2.2.2.2.len a_0.2.2.2.2.2.2.2.cap)]),(.agg #[(.int .i64 b_1.1),(.int .i64 b_1.2.1),(.int .i64 b_1.2.2.1),(.int .i64 b_1.2.2.2.1),(.int .i64 b_1.2.2.2.2.1),(.int .i64 b_1.2.2.2.2.2.1),(.int .u32 b_1.2.2.2.2.2.2.1),(.slice b_1.2.2.2.2.2.2.2.ptr b_1.2.2.2.2.2.2.2.len b_1.2.2.2.2.2.2.2.cap)])] h R:=al ag Tryz.func152 .n hm
abbrev gH:FuncId:=153
noncomputable def dO (s_0:Sl) (eq_1:FuncId×Array Value×Array Value) (R:Value→Heap→Prop) (h:Heap):Prop:=
 Br (decide (((s_0.len:Nat):Int)<(2:Int)))
 (R (.slice s_0.ptr s_0.len s_0.cap) h)
 (aK (σ:=Int) (fun s1 K1 h1=>
 Br (decide (s1<((s_0.len:Nat):Int)))
 (∃a2:Addr,(s_0.ptr=some a2∧0≤s1∧s1<((s_0.len:Nat):Int))∧
 ∃x3:Int×Int×Int×Int×Int×Int×Int×Sl,ai h1 (a2.add (s1.toNat*8)) 0 [(.int .i64 x3.1),(.int .i64 x3.2.1),(.int .i64 x3.2.2.1),(.int .i64 x3.2.2.2.1),(.int .i64 x3.2.2.2.2.1),(.int .i64 x3.2.2.2.2.2.1),(.int .u32 x3.2.2.2.2.2.2.1),(.slice x3.2.2.2.2.2.2.2.ptr x3.2.2.2.2.2.2.2.len x3.2.2.2.2.2.2.2.cap)]∧
 ∃a4:Addr,(s_0.ptr=some a4∧0≤(IntKind.wrap .i64 (s1-(1:Int)))∧(IntKind.wrap .i64 (s1-(1:Int)))<((s_0.len:Nat):Int))∧
 ∃x5:Int×Int×Int×Int×Int×Int×Int×Sl,ai h1 (a4.add ((IntKind.wrap .i64 (s1-(1:Int))).toNat*8)) 0 [(.int .i64 x5.1),(.int .i64 x5.2.1),(.int .i64 x5.2.2.1),(.int .i64 x5.2.2.2.1),(.int .i64 x5.2.2.2.2.1),(.int .i64 x5.2.2.2.2.2.1),(.int .u32 x5.2.2.2.2.2.2.1),(.slice x5.2.2.2.2.2.2.2.ptr x5.2.2.2.2.2.2.2.len x5.2.2.2.2.2.2.2.cap)]∧
 gv C eq_1.1 (eq_1.2.1.toList++[(.agg #[(.int .i64 x3.1),(.int .i64 x3.2.1),(.int .i64 x3.2.2.1),(.int .i64 x3.2.2.2.1),(.int .i64 x3.2.2.2.2.1),(.int .i64 x3.2.2.2.2.2.1),(.int .u32 x3.2.2.2.2.2.2.1),(.slice x3.2.2.2.2.2.2.2.ptr x3.2.2.2.2.2.2.2.len x3.2.2.2.2.2.2.2.cap)]),(.agg #[(.int .i64 x5.1),(.int .i64 x5.2.1),(.int .i64 x5.2.2.1),(.int .i64 x5.2.2.2.1),(.int .i64 x5.2.2.2.2.1),(.int .i64 x5.2.2.2.2.2.1),(.int .u32 x5.2.2.2.2.2.2.1),(.slice x5.2.2.2.2.2.2.2.ptr x5.2.2.2.2.2.2.2.len x5.2.2.2.2.2.2.2.cap)])]++eq_1.2.2.toList) (.one (.sc .bool)) h1 fun r6 h2=>
 (aw.ok [] h2)∧
 Br r6
 ((0≤s1∧s1≤((s_0.len:Nat):Int))∧
 aK (σ:=Int×Int) (fun s7 K2 h3=>
 Br (decide (s7.2<(((s_0.len-s1.toNat):Nat):Int)))
 (∃a8:Addr,((if s_0.cap=s1.toNat then s_0.ptr else s_0.ptr.map (·.add (s1.toNat*8)))=some a8∧0≤s7.2∧s7.2<(((s_0.len-s1.toNat):Nat):Int))∧
 ∃x9:Int×Int×Int×Int×Int×Int×Int×Sl,ai h3 (a8.add (s7.2.toNat*8)) 0 [(.int .i64 x9.1),(.int .i64 x9.2.1),(.int .i64 x9.2.2.1),(.int .i64 x9.2.2.2.1),(.int .i64 x9.2.2.2.2.1),(.int .i64 x9.2.2.2.2.2.1),(.int .u32 x9.2.2.2.2.2.2.1),(.slice x9.2.2.2.2.2.2.2.ptr x9.2.2.2.2.2.2.2.len x9.2.2.2.2.2.2.2.cap)]∧
 ∃a10:Addr,((if s_0.cap=s1.toNat then s_0.ptr else s_0.ptr.map (·.add (s1.toNat*8)))=some a10∧0≤(IntKind.wrap .i64 (s7.2-(1:Int)))∧(IntKind.wrap .i64 (s7.2-(1:Int)))<(((s_0.len-s1.toNat):Nat):Int))∧
 ∃x11:Int×Int×Int×Int×Int×Int×Int×Sl,ai h3 (a10.add ((IntKind.wrap .i64 (s7.2-(1:Int))).toNat*8)) 0 [(.int .i64 x11.1),(.int .i64 x11.2.1),(.int .i64 x11.2.2.1),(.int .i64 x11.2.2.2.1),(.int .i64 x11.2.2.2.2.1),(.int .i64 x11.2.2.2.2.2.1),(.int .u32 x11.2.2.2.2.2.2.1),(.slice x11.2.2.2.2.2.2.2.ptr x11.2.2.2.2.2.2.2.len x11.2.2.2.2.2.2.2.cap)]∧
 gv C eq_1.1 (eq_1.2.1.toList++[(.agg #[(.int .i64 x9.1),(.int .i64 x9.2.1),(.int .i64 x9.2.2.1),(.int .i64 x9.2.2.2.1),(.int .i64 x9.2.2.2.2.1),(.int .i64 x9.2.2.2.2.2.1),(.int .u32 x9.2.2.2.2.2.2.1),(.slice x9.2.2.2.2.2.2.2.ptr x9.2.2.2.2.2.2.2.len x9.2.2.2.2.2.2.2.cap)]),(.agg #[(.int .i64 x11.1),(.int .i64 x11.2.1),(.int .i64 x11.2.2.1),(.int .i64 x11.2.2.2.1),(.int .i64 x11.2.2.2.2.1),(.int .i64 x11.2.2.2.2.2.1),(.int .u32 x11.2.2.2.2.2.2.1),(.slice x11.2.2.2.2.2.2.2.ptr x11.2.2.2.2.2.2.2.len x11.2.2.2.2.2.2.2.cap)])]++eq_1.2.2.toList) (.one (.sc .bool)) h3 fun r12 h4=>
 (aw.ok [] h4)∧
 Br (!r12)
 (∃a13:Addr,((if s_0.cap=s1.toNat then s_0.ptr else s_0.ptr.map (·.add (s1.toNat*8)))=some a13∧0≤s7.2∧s7.2<(((s_0.len-s1.toNat):Nat):Int))∧
 ∃x14:Int×Int×Int×Int×Int×Int×Int×Sl,ai h4 (a13.add (s7.2.toNat*8)) 0 [(.int .i64 x14.1),(.int .i64 x14.2.1),(.int .i64 x14.2.2.1),(.int .i64 x14.2.2.2.1),(.int .i64 x14.2.2.2.2.1),(.int .i64 x14.2.2.2.2.2.1),(.int .u32 x14.2.2.2.2.2.2.1),(.slice x14.2.2.2.2.2.2.2.ptr x14.2.2.2.2.2.2.2.len x14.2.2.2.2.2.2.2.cap)]∧
 ∃a15:Addr,(s_0.ptr=some a15∧0≤s7.1∧s7.1<((s_0.len:Nat):Int))∧
 ae Tryz.prog (Instr.storeAt 149 (.pointer (some (a15.add (s7.1.toNat*8)))) (.agg #[(.int .i64 x14.1),(.int .i64 x14.2.1),(.int .i64 x14.2.2.1),(.int .i64 x14.2.2.2.1),(.int .i64 x14.2.2.2.2.1),(.int .i64 x14.2.2.2.2.2.1),(.int .u32 x14.2.2.2.2.2.2.1),(.slice x14.2.2.2.2.2.2.2.ptr x14.2.2.2.2.2.2.2.len x14.2.2.2.2.2.2.2.cap)])) h4 fun _ h5=>
 K2 (IntKind.wrap .i64 (s7.1+(1:Int)),IntKind.wrap .i64 (s7.2+(1:Int))) h5)
 (K2 (s7.1,IntKind.wrap .i64 (s7.2+(1:Int))) h4))
 ((0≤s7.1∧s7.1≤((s_0.len:Nat):Int))∧
 ae Tryz.prog (Builtin.clear_ #[161] 0 #[(.slice (if s_0.cap=s7.1.toNat then s_0.ptr else s_0.ptr.map (·.add (s7.1.toNat*8))) (s_0.len-s7.1.toNat) (s_0.cap-s7.1.toNat))]) h3 fun _ h6=>
 (0≤s7.1∧s7.1≤((s_0.cap:Nat):Int))∧
 R (.slice s_0.ptr s7.1.toNat s_0.cap) h6)) (s1,(1:Int)) h2)
 (K1 (IntKind.wrap .i64 (s1+(1:Int))) h2))
 (R (.slice s_0.ptr s_0.len s_0.cap) h1)) (1:Int) h)
theorem gD (s_0:Sl) (eq_1:FuncId×Array Value×Array Value) {R:Value→Heap→Prop} {h:Heap} (hm:dO s_0 eq_1 R h):ab Tryz.prog 153 #[(.slice s_0.ptr s_0.len s_0.cap),(.func (.func eq_1.1) eq_1.2.1 eq_1.2.2)] h R:=al ag Tryz.func153 (.two .n (.two .n (.two (.two .n (.inn (.loop [(5,(.sc (.int .i64)))] [(4,8),(12,65)] (.two .n (.two (.inn (.two .n (.two (.two .n (.two (.two .n (.inn (.loop [(5,(.sc (.int .i64))),(7,(.sc (.int .i64)))] [(5,6),(7,8),(32,59)] .n))) .n)) .n))) .n))))) .n))) hm
abbrev jF:FuncId:=154
noncomputable def nJ (a_0:Int×Int×Int×Int×Int×Int×Int×Sl) (b_1:Int×Int×Int×Int×Int×Int×Int×Sl) (R:Value→Heap→Prop) (h:Heap):Prop:=
 aM Tryz.prog (Instr.box 149 (.agg #[(.int .i64 a_0.1),(.int .i64 a_0.2.1),(.int .i64 a_0.2.2.1),(.int .i64 a_0.2.2.2.1),(.int .i64 a_0.2.2.2.2.1),(.int .i64 a_0.2.2.2.2.2.1),(.int .u32 a_0.2.2.2.2.2.2.1),(.slice a_0.2.2.2.2.2.2.2.ptr a_0.2.2.2.2.2.2.2.len a_0.2.2.2.2.2.2.2.cap)])) h fun a1 h1=>
 aM Tryz.prog (Instr.box 149 (.agg #[(.int .i64 b_1.1),(.int .i64 b_1.2.1),(.int .i64 b_1.2.2.1),(.int .i64 b_1.2.2.2.1),(.int .i64 b_1.2.2.2.2.1),(.int .i64 b_1.2.2.2.2.2.1),(.int .u32 b_1.2.2.2.2.2.2.1),(.slice b_1.2.2.2.2.2.2.2.ptr b_1.2.2.2.2.2.2.2.len b_1.2.2.2.2.2.2.2.cap)])) h1 fun a2 h2=>
 ∃x3:Int×Int×Int×Int×Int×Int×Int×Sl,ai h2 a1 0 [(.int .i64 x3.1),(.int .i64 x3.2.1),(.int .i64 x3.2.2.1),(.int .i64 x3.2.2.2.1),(.int .i64 x3.2.2.2.2.1),(.int .i64 x3.2.2.2.2.2.1),(.int .u32 x3.2.2.2.2.2.2.1),(.slice x3.2.2.2.2.2.2.2.ptr x3.2.2.2.2.2.2.2.len x3.2.2.2.2.2.2.2.cap)]∧
 ∃x4:Int×Int×Int×Int×Int×Int×Int×Sl,ai h2 a2 0 [(.int .i64 x4.1),(.int .i64 x4.2.1),(.int .i64 x4.2.2.1),(.int .i64 x4.2.2.2.1),(.int .i64 x4.2.2.2.2.1),(.int .i64 x4.2.2.2.2.2.1),(.int .u32 x4.2.2.2.2.2.2.1),(.slice x4.2.2.2.2.2.2.2.ptr x4.2.2.2.2.2.2.2.len x4.2.2.2.2.2.2.2.cap)]∧
 af Tryz.prog 152 #[(.agg #[(.int .i64 x3.1),(.int .i64 x3.2.1),(.int .i64 x3.2.2.1),(.int .i64 x3.2.2.2.1),(.int .i64 x3.2.2.2.2.1),(.int .i64 x3.2.2.2.2.2.1),(.int .u32 x3.2.2.2.2.2.2.1),(.slice x3.2.2.2.2.2.2.2.ptr x3.2.2.2.2.2.2.2.len x3.2.2.2.2.2.2.2.cap)]),(.agg #[(.int .i64 x4.1),(.int .i64 x4.2.1),(.int .i64 x4.2.2.1),(.int .i64 x4.2.2.2.1),(.int .i64 x4.2.2.2.2.1),(.int .i64 x4.2.2.2.2.2.1),(.int .u32 x4.2.2.2.2.2.2.1),(.slice x4.2.2.2.2.2.2.2.ptr x4.2.2.2.2.2.2.2.len x4.2.2.2.2.2.2.2.cap)])] (.one (.sc (.int .i64))) h2 fun r5 h3=>
 R (.bool (r5==(0:Int))) h3
theorem uf (a_0:Int×Int×Int×Int×Int×Int×Int×Sl) (b_1:Int×Int×Int×Int×Int×Int×Int×Sl) {R:Value→Heap→Prop} {h:Heap} (hm:nJ a_0 b_1 R h):ab Tryz.prog 154 #[(.agg #[(.int .i64 a_0.1),(.int .i64 a_0.2.1),(.int .i64 a_0.2.2.1),(.int .i64 a_0.2.2.2.1),(.int .i64 a_0.2.2.2.2.1),(.int .i64 a_0.2.2.2.2.2.1),(.int .u32 a_0.2.2.2.2.2.2.1),(.slice a_0.2.2.2.2.2.2.2.ptr a_0.2.2.2.2.2.2.2.len a_0.2.2.2.2.2.2.2.cap)]),(.agg #[(.int .i64 b_1.1),(.int .i64 b_1.2.1),(.int .i64 b_1.2.2.1),(.int .i64 b_1.2.2.2.1),(.int .i64 b_1.2.2.2.2.1),(.int .i64 b_1.2.2.2.2.2.1),(.int .u32 b_1.2.2.2.2.2.2.1),(.slice b_1.2.2.2.2.2.2.2.ptr b_1.2.2.2.2.2.2.2.len b_1.2.2.2.2.2.2.2.cap)])] h R:=al ag Tryz.func154 .n hm
abbrev GH:FuncId:=155
noncomputable def AK (b_0:Sl) (R:Value→Heap→Prop) (h:Heap):Prop:=
 aK (σ:=Int×Int) (fun s1 K1 h1=>
 Br (decide (s1.2<((b_0.len:Nat):Int)))
 (∃a2:Addr,(b_0.ptr=some a2∧0≤s1.2∧s1.2<((b_0.len:Nat):Int))∧
 ∃x3:Int,cellOf h1 (a2.add (s1.2.toNat*1))=some (.int .u8 x3)∧
 aK (σ:=Int×Int) (fun s4 K2 h2=>
 Br (decide (s4.2<(8:Int)))
 ((0≤(1:Int))∧
 Br ((IntKind.wrap .u32 ((BitVec.ofInt (IntKind.bits .u32) s4.1&&&(BitVec.ofInt (IntKind.bits .u32) (1:Int))).toNat:Nat))==(1:Int))
 (K2 (IntKind.wrap .u32 ((BitVec.ofInt (IntKind.bits .u32) (Int.fdiv s4.1 (2^min (1:Int).toNat (IntKind.bits .u32)))^^^(BitVec.ofInt (IntKind.bits .u32) (3988292384:Int))).toNat:Nat),IntKind.wrap .i64 (s4.2+(1:Int))) h2)
 (K2 (Int.fdiv s4.1 (2^min (1:Int).toNat (IntKind.bits .u32)),IntKind.wrap .i64 (s4.2+(1:Int))) h2))
 (K1 (s4.1,IntKind.wrap .i64 (s1.2+(1:Int))) h2)) (IntKind.wrap .u32 ((BitVec.ofInt (IntKind.bits .u32) s1.1^^^(BitVec.ofInt (IntKind.bits .u32) (IntKind.wrap .u32 x3))).toNat:Nat),(0:Int)) h1)
 (R (.int .u32 (IntKind.wrap .u32 ((BitVec.ofInt (IntKind.bits .u32) (4294967295:Int)^^^(BitVec.ofInt (IntKind.bits .u32) s1.1)).toNat:Nat))) h1)) ((4294967295:Int),(0:Int)) h
theorem EC (b_0:Sl) {R:Value→Heap→Prop} {h:Heap} (hm:AK b_0 R h):ab Tryz.prog 155 #[(.slice b_0.ptr b_0.len b_0.cap)] h R:=al ag Tryz.func155 (.two .n (.two .n (.two (.two .n (.inn (.loop [(3,(.sc (.int .u32))),(9,(.sc (.int .i64)))] [(3,4),(5,7),(9,29)] (.two .n (.two .n (.two (.inn (.two .n (.two .n (.two .n (.inn (.loop [(3,(.sc (.int .u32))),(17,(.sc (.int .i64)))] [(3,4),(6,7),(17,28)] .n)))))) .n)))))) .n))) hm
abbrev GI:FuncId:=160
noncomputable def AL (a_0:Sl) (R:Value→Heap→Prop) (h:Heap):Prop:=
 aK (σ:=Int) (fun s1 K1 h1=>
 Br (decide (s1<((a_0.len:Nat):Int)))
 (∃a2:Addr,(a_0.ptr=some a2∧0≤s1∧s1<((a_0.len:Nat):Int))∧
 ∃x3:Sl,cellOf h1 (a2.add (s1.toNat*1))=some (.slice x3.ptr x3.len x3.cap)∧
 ∃a4:Addr,(a_0.ptr=some a4∧0≤(0:Int)∧(0:Int)<((a_0.len:Nat):Int))∧
 ∃x5:Sl,cellOf h1 (a4.add ((0:Int).toNat*1))=some (.slice x5.ptr x5.len x5.cap)∧
 Br (((x3.len:Nat):Int) !=((x5.len:Nat):Int)) (R (.bool false) h1) (Br (decide (((x3.len:Nat):Int)>(64:Int)))
 (R (.bool false) h1)
 (K1 (IntKind.wrap .i64 (s1+(1:Int))) h1)))
 (R (.bool true) h1)) (0:Int) h
theorem ED (a_0:Sl) {R:Value→Heap→Prop} {h:Heap} (hm:AL a_0 R h):ab Tryz.prog 160 #[(.slice a_0.ptr a_0.len a_0.cap)] h R:=al ag Tryz.func160 (.two .n (.two (.two .n (.inn (.loop [(7,(.sc (.int .i64)))] [(2,3),(4,5),(7,24)] .n))) .n)) hm
abbrev Dd:FuncId:=161
noncomputable def vS (a_0:Sl) (R:Value→Heap→Prop) (h:Heap):Prop:=
 Br (((a_0.len:Nat):Int)==(0:Int))
 (R (.int .i64 (0:Int)) h)
 (∃a1:Addr,(a_0.ptr=some a1∧0≤(0:Int)∧(0:Int)<((a_0.len:Nat):Int))∧
 ∃x2:Sl,cellOf h (a1.add ((0:Int).toNat*1))=some (.slice x2.ptr x2.len x2.cap)∧
 R (.int .i64 ((x2.len:Nat):Int)) h)
theorem BC (a_0:Sl) {R:Value→Heap→Prop} {h:Heap} (hm:vS a_0 R h):ab Tryz.prog 161 #[(.slice a_0.ptr a_0.len a_0.cap)] h R:=al ag Tryz.func161 .n hm
abbrev GJ:FuncId:=162
noncomputable def AM (a_0:Sl) (R:Value→Heap→Prop) (h:Heap):Prop:=
 av Tryz.prog (Instr.makeSlice 78 (.int .i64 (0:Int)) (.int .i64 ((a_0.len:Nat):Int))) (.one (.sc .slc)) h fun v1 h1=>
 aK (σ:=Sl×Int) (fun s2 K1 h2=>
 Br (decide (s2.2<((a_0.len:Nat):Int)))
 (∃a3:Addr,(a_0.ptr=some a3∧0≤s2.2∧s2.2<((a_0.len:Nat):Int))∧
 ∃x4:Sl,cellOf h2 (a3.add (s2.2.toNat*1))=some (.slice x4.ptr x4.len x4.cap)∧
 af Tryz.prog 115 #[(.slice x4.ptr x4.len x4.cap)] (.one (.sc .slc)) h2 fun r5 h3=>
 av Tryz.prog (Instr.buildSlice 78 1 #[(0,(.slice r5.ptr r5.len r5.cap))]) (.one (.sc .slc)) h3 fun v6 h4=>
 av Tryz.prog (Builtin.append_ #[78,78] 78 #[(.slice s2.1.ptr s2.1.len s2.1.cap),(.slice v6.ptr v6.len v6.cap)]) (.one (.sc .slc)) h4 fun v7 h5=>
 K1 ((⟨v7.ptr,v7.len,v7.cap⟩:Sl),IntKind.wrap .i64 (s2.2+(1:Int))) h5)
 (R (.slice s2.1.ptr s2.1.len s2.1.cap) h2)) ((⟨v1.ptr,v1.len,v1.cap⟩:Sl),(0:Int)) h1
theorem EE (a_0:Sl) {R:Value→Heap→Prop} {h:Heap} (hm:AM a_0 R h):ab Tryz.prog 162 #[(.slice a_0.ptr a_0.len a_0.cap)] h R:=al ag Tryz.func162 (.two .n (.two .n (.two (.two .n (.inn (.loop [(3,(.sc .slc)),(11,(.sc (.int .i64)))] [(3,4),(5,6),(11,21)] .n))) .n))) hm
abbrev BD:FuncId:=163
noncomputable def ug (f_0:Option Addr) (a_1:Sl) (cols_2:Int) (R:Value→Heap→Prop) (h:Heap):Prop:=
 aK (σ:=Int×Int) (fun s1 K1 h1=>
 Br (decide (s1.2<cols_2))
 (af Tryz.prog 207 #[(.slice a_1.ptr a_1.len a_1.cap),(.int .i64 s1.1),(.int .i64 s1.2)] (.one (.sc (.int .i64))) h1 fun r2 h2=>
 Br (decide (r2<(0:Int)))
 (K1 (s1.1,IntKind.wrap .i64 (s1.2+(1:Int))) h2)
 (aW (σ:=Unit) (fun _ h5=>
 aW (σ:=Unit) (fun _ h9=>
 aK (σ:=Int) (fun s20 K4 h10=>
 Br (decide (s20<((a_1.len:Nat):Int)))
 (Br (s20 !=s1.1)
 (∃a21:Addr,(a_1.ptr=some a21∧0≤s20∧s20<((a_1.len:Nat):Int))∧
 ∃x22:Sl,cellOf h10 (a21.add (s20.toNat*1))=some (.slice x22.ptr x22.len x22.cap)∧
 ∃a23:Addr,(x22.ptr=some a23∧0≤s1.2∧s1.2<((x22.len:Nat):Int))∧
 ∃x24:Int,cellOf h10 (a23.add (s1.2.toNat*1))=some (.int .u8 x24)∧
 ∃a25:Addr,(a_1.ptr=some a25∧0≤s1.1∧s1.1<((a_1.len:Nat):Int))∧
 ∃x26:Sl,cellOf h10 (a25.add (s1.1.toNat*1))=some (.slice x26.ptr x26.len x26.cap)∧
 ∃a27:Addr,(a_1.ptr=some a27∧0≤s20∧s20<((a_1.len:Nat):Int))∧
 ∃x28:Sl,cellOf h10 (a27.add (s20.toNat*1))=some (.slice x28.ptr x28.len x28.cap)∧
 af Tryz.prog 210 #[(.pointer f_0),(.int .u8 x24),(.slice x26.ptr x26.len x26.cap),(.slice x28.ptr x28.len x28.cap)] (.many []) h10 fun _ h11=>
 (aw.ok [(a21.add (s20.toNat*1),(.slice x22.ptr x22.len x22.cap))] h11)∧
 K4 (IntKind.wrap .i64 (s20+(1:Int))) h11)
 (K4 (IntKind.wrap .i64 (s20+(1:Int))) h10))
 (K1 (IntKind.wrap .i64 (s1.1+(1:Int)),IntKind.wrap .i64 (s1.2+(1:Int))) h10)) (0:Int) h9)
 (fun K3=>
 ∃a10:Addr,(a_1.ptr=some a10∧0≤s1.1∧s1.1<((a_1.len:Nat):Int))∧
 ∃x11:Sl,cellOf h5 (a10.add (s1.1.toNat*1))=some (.slice x11.ptr x11.len x11.cap)∧
 ∃a12:Addr,(x11.ptr=some a12∧0≤s1.2∧s1.2<((x11.len:Nat):Int))∧
 ∃x13:Int,cellOf h5 (a12.add (s1.2.toNat*1))=some (.int .u8 x13)∧
 ∃a14:Addr,(a_1.ptr=some a14∧0≤s1.1∧s1.1<((a_1.len:Nat):Int))∧
 ∃x15:Sl,cellOf h5 (a14.add (s1.1.toNat*1))=some (.slice x15.ptr x15.len x15.cap)∧
 af Tryz.prog 209 #[(.pointer f_0),(.int .u8 x13)] (.one (.sc (.int .u8))) h5 fun r16 h6=>
 (aw.ok [(a14.add (s1.1.toNat*1),(.slice x15.ptr x15.len x15.cap)),(a10.add (s1.1.toNat*1),(.slice x11.ptr x11.len x11.cap))] h6)∧
 af Tryz.prog 208 #[(.pointer f_0),(.int .u8 r16),(.slice x15.ptr x15.len x15.cap)] (.one (.sc .slc)) h6 fun r17 h7=>
 (aw.ok [(a10.add (s1.1.toNat*1),(.slice x11.ptr x11.len x11.cap))] h7)∧
 ∃a18:Addr,(a_1.ptr=some a18∧0≤s1.1∧s1.1<((a_1.len:Nat):Int))∧
 ae Tryz.prog (Instr.storeAt 45 (.pointer (some (a18.add (s1.1.toNat*1)))) (.slice r17.ptr r17.len r17.cap)) h7 fun _ h8=>
 (aw.ok [] h8)∧
 K3 () h8))
 (fun K2=>
 ∃a3:Addr,(a_1.ptr=some a3∧0≤r2∧r2<((a_1.len:Nat):Int))∧
 ∃x4:Sl,cellOf h2 (a3.add (r2.toNat*1))=some (.slice x4.ptr x4.len x4.cap)∧
 ∃a5:Addr,(a_1.ptr=some a5∧0≤s1.1∧s1.1<((a_1.len:Nat):Int))∧
 ∃x6:Sl,cellOf h2 (a5.add (s1.1.toNat*1))=some (.slice x6.ptr x6.len x6.cap)∧
 ∃a7:Addr,(a_1.ptr=some a7∧0≤s1.1∧s1.1<((a_1.len:Nat):Int))∧
 ae Tryz.prog (Instr.storeAt 45 (.pointer (some (a7.add (s1.1.toNat*1)))) (.slice x4.ptr x4.len x4.cap)) h2 fun _ h3=>
 (aw.ok [] h3)∧
 ∃a8:Addr,(a_1.ptr=some a8∧0≤r2∧r2<((a_1.len:Nat):Int))∧
 ae Tryz.prog (Instr.storeAt 45 (.pointer (some (a8.add (r2.toNat*1)))) (.slice x6.ptr x6.len x6.cap)) h3 fun _ h4=>
 (aw.ok [] h4)∧
 K2 () h4)))
 (R (.int .i64 s1.1) h1)) ((0:Int),(0:Int)) h
theorem zX (f_0:Option Addr) (a_1:Sl) (cols_2:Int) {R:Value→Heap→Prop} {h:Heap} (hm:ug f_0 a_1 cols_2 R h):ab Tryz.prog 163 #[(.pointer f_0),(.slice a_1.ptr a_1.len a_1.cap),(.int .i64 cols_2)] h R:=al ag Tryz.func163 (.two .n (.two .n (.two (.two .n (.inn (.loop [(7,(.sc (.int .i64))),(12,(.sc (.int .i64)))] [(7,11),(12,82)] (.two .n (.two .n (.two (.inn (.two .n (.two .n (.two .n (.two (.join [] [(21,35)] .n) (.two (.join [] [(35,53)] .n) (.two (.two .n (.inn (.loop [(55,(.sc (.int .i64)))] [(10,11),(55,79)] .n))) .n))))))) .n)))))) .n))) hm
abbrev EF:FuncId:=164
noncomputable def yp (f_0:Option Addr) (R:Value→Heap→Prop) (h:Heap):Prop:=
 Br (Option.isNone f_0)
 (af Tryz.prog 129 #[] (.one (.sc .ptr)) h fun r1 h1=>
 R (.pointer r1) h1)
 (R (.pointer f_0) h)
theorem De (f_0:Option Addr) {R:Value→Heap→Prop} {h:Heap} (hm:yp f_0 R h):ab Tryz.prog 164 #[(.pointer f_0)] h R:=al ag Tryz.func164 .n hm
abbrev Df:FuncId:=166
noncomputable def vT (R:Value→Heap→Prop) (h:Heap):Prop:=
 aM Tryz.prog (Instr.alloc 215 true (.tuple #[])) h fun a1 h1=>
 aK (σ:=Int×Int) (fun s2 K1 h2=>
 Br (decide (s2.2<(255:Int)))
 ((0≤s2.2∧s2.2<((255:Nat):Int))∧
 ae Tryz.prog (Instr.storeAt 5 (.pointer (some (a1.add (s2.2.toNat*1)))) (.int .u8 s2.1)) h2 fun _ h3=>
 af Tryz.prog 213 #[(.int .u8 s2.1),(.int .u8 (3:Int))] (.one (.sc (.int .u8))) h3 fun r3 h4=>
 K1 (r3,IntKind.wrap .i64 (s2.2+(1:Int))) h4)
 (∃x4:List (Int),(x4.length=255∧ai h2 a1 0 (x4.map (Sc.enc (.int .u8))))∧
 ae Tryz.prog (Instr.storeAt 215 (.pointer (some a1)) (.agg (x4.map (Sc.enc (.int .u8))).toArray)) h2 fun _ h5=>
 ∃res5:List (Int),(res5.length=255∧ai h5 a1 0 (res5.map (Sc.enc (.int .u8))))∧
 R (.agg (res5.map (Sc.enc (.int .u8))).toArray) h5)) ((1:Int),(0:Int)) h1
theorem BE {R:Value→Heap→Prop} {h:Heap} (hm:vT R h):ab Tryz.prog 166 #[] h R:=al ag Tryz.func166 (.two .n (.two .n (.two (.two .n (.inn (.loop [(1,(.sc (.int .u8))),(3,(.sc (.int .i64)))] [(1,12)] .n))) .n))) hm
abbrev GK:FuncId:=167
noncomputable def AN (l_0:List (Int)) (R:Value→Heap→Prop) (h:Heap):Prop:=
 aM Tryz.prog (Instr.box 215 (.agg (l_0.map (Sc.enc (.int .u8))).toArray)) h fun a1 h1=>
 aM Tryz.prog (Instr.alloc 217 true (.tuple #[])) h1 fun a2 h2=>
 ∃x3:List (Int),(x3.length=255∧ai h2 a1 0 (x3.map (Sc.enc (.int .u8))))∧
 aK (σ:=Int) (fun s4 K1 h3=>
 Br (decide (s4<(255:Int)))
 (∃x5:Int,(0≤s4∧s4<((255:Nat):Int)∧((x3.map (Sc.enc (.int .u8))).toArray:Array Value)[s4.toNat]?=some (.int .u8 x5))∧
 (0≤x5∧x5<((256:Nat):Int))∧
 ae Tryz.prog (Instr.storeAt 3 (.pointer (some (a2.add (x5.toNat*1)))) (.int .i64 s4)) h3 fun _ h4=>
 K1 (IntKind.wrap .i64 (s4+(1:Int))) h4)
 (∃x6:List (Int),(x6.length=256∧ai h3 a2 0 (x6.map (Sc.enc (.int .i64))))∧
 ae Tryz.prog (Instr.storeAt 217 (.pointer (some a2)) (.agg (x6.map (Sc.enc (.int .i64))).toArray)) h3 fun _ h5=>
 ∃res7:List (Int),(res7.length=256∧ai h5 a2 0 (res7.map (Sc.enc (.int .i64))))∧
 R (.agg (res7.map (Sc.enc (.int .i64))).toArray) h5)) (0:Int) h2
theorem EG (l_0:List (Int)) {R:Value→Heap→Prop} {h:Heap} (hm:AN l_0 R h):ab Tryz.prog 167 #[(.agg (l_0.map (Sc.enc (.int .u8))).toArray)] h R:=al ag Tryz.func167 (.two .n (.two (.two .n (.inn (.loop [(6,(.sc (.int .i64)))] [(3,5),(6,14)] .n))) .n)) hm
abbrev EH:FuncId:=168
noncomputable def yq (p_0:Int×Int×Int) (R:Value→Heap→Prop) (h:Heap):Prop:=
 aM Tryz.prog (Instr.box 23 (.agg #[(.int .i64 p_0.1),(.int .i64 p_0.2.1),(.int .i64 p_0.2.2)])) h fun a1 h1=>
 ∃x2:Int×Int×Int,ai h1 a1 0 [(.int .i64 x2.1),(.int .i64 x2.2.1),(.int .i64 x2.2.2)]∧
 af Tryz.prog 31 #[(.agg #[(.int .i64 x2.1),(.int .i64 x2.2.1),(.int .i64 x2.2.2)])] (.one (.sc .bool)) h1 fun r3 h2=>
 Br (!r3)
 (R (.slice none 0 0) h2)
 (af Tryz.prog 129 #[] (.one (.sc .ptr)) h2 fun r4 h3=>
 ∃x5:Int,cellOf h3 (a1.add 1)=some (.int .i64 x5)∧
 aK (σ:=Sl×Int) (fun s6 K1 h4=>
 Br (decide (s6.2<x5))
 (aW (σ:=Sl) (fun s11 h7=>
 ∃x12:Int,cellOf h7 a1=some (.int .i64 x12)∧
 aK (σ:=Int) (fun s13 K3 h8=>
 Br (decide (s13<x12))
 (af Tryz.prog 215 #[(.pointer r4),(.int .i64 (IntKind.wrap .i64 ((IntKind.wrap .i64 (s6.2+(1:Int)))*(IntKind.wrap .i64 (s13+(1:Int))))))] (.one (.sc (.int .u8))) h8 fun r14 h9=>
 ∃a15:Addr,(s11.ptr=some a15∧0≤s13∧s13<((s11.len:Nat):Int))∧
 ae Tryz.prog (Instr.storeAt 5 (.pointer (some (a15.add (s13.toNat*1)))) (.int .u8 r14)) h9 fun _ h10=>
 K3 (IntKind.wrap .i64 (s13+(1:Int))) h10)
 (av Tryz.prog (Instr.buildSlice 78 1 #[(0,(.slice s11.ptr s11.len s11.cap))]) (.one (.sc .slc)) h8 fun v16 h11=>
 av Tryz.prog (Builtin.append_ #[78,78] 78 #[(.slice s6.1.ptr s6.1.len s6.1.cap),(.slice v16.ptr v16.len v16.cap)]) (.one (.sc .slc)) h11 fun v17 h12=>
 K1 ((⟨v17.ptr,v17.len,v17.cap⟩:Sl),IntKind.wrap .i64 (s6.2+(1:Int))) h12)) (0:Int) h7)
 (fun K2=>
 ∃x7:Int×Int×Int,ai h4 a1 0 [(.int .i64 x7.1),(.int .i64 x7.2.1),(.int .i64 x7.2.2)]∧
 ∃x8:Int,cellOf h4 a1=some (.int .i64 x8)∧
 af Tryz.prog 108 #[(.agg #[(.int .i64 x7.1),(.int .i64 x7.2.1),(.int .i64 x7.2.2)])] (.one (.sc (.int .i64))) h4 fun r9 h5=>
 (aw.ok [(a1,(.int .i64 x8))] h5)∧
 af Tryz.prog 214 #[(.int .i64 r9),(.int .i64 (IntKind.wrap .i64 (x8+s6.2)))] (.one (.sc .slc)) h5 fun r10 h6=>
 (aw.ok [(a1,(.int .i64 x8))] h6)∧
 K2 (⟨r10.ptr,r10.len,r10.cap⟩:Sl) h6))
 (R (.slice s6.1.ptr s6.1.len s6.1.cap) h4)) ((⟨none,0,0⟩:Sl),(0:Int)) h3)
theorem Dg (p_0:Int×Int×Int) {R:Value→Heap→Prop} {h:Heap} (hm:yq p_0 R h):ab Tryz.prog 168 #[(.agg #[(.int .i64 p_0.1),(.int .i64 p_0.2.1),(.int .i64 p_0.2.2)])] h R:=al ag Tryz.func168 (.two .n (.two .n (.two .n (.two .n (.two (.two .n (.inn (.loop [(4,(.sc .slc)),(14,(.sc (.int .i64)))] [(4,8),(14,45)] (.two .n (.two .n (.two (.inn (.two .n (.two (.join [(6,(.sc .slc))] [(6,7),(17,24)] .n) (.two (.two .n (.inn (.loop [(26,(.sc (.int .i64)))] [(7,8),(26,40)] .n))) .n)))) .n)))))) .n))))) hm
abbrev Iz:FuncId:=169
noncomputable def Dh (p_0:Int×Int×Int) (seed_1:Int) (id_2:Int) (R:Value→Heap→Prop) (h:Heap):Prop:=
 aM Tryz.prog (Instr.box 23 (.agg #[(.int .i64 p_0.1),(.int .i64 p_0.2.1),(.int .i64 p_0.2.2)])) h fun a1 h1=>
 aW (σ:=Unit) (fun _ h3=>
 ∃x5:Int×Int×Int,ai h3 a1 0 [(.int .i64 x5.1),(.int .i64 x5.2.1),(.int .i64 x5.2.2)]∧
 af Tryz.prog 108 #[(.agg #[(.int .i64 x5.1),(.int .i64 x5.2.1),(.int .i64 x5.2.2)])] (.one (.sc (.int .i64))) h3 fun r6 h4=>
 av Tryz.prog (Instr.makeSlice 45 (.int .i64 r6) (.int .i64 r6)) (.one (.sc .slc)) h4 fun v7 h5=>
 ∃x8:Int×Int×Int,ai h5 a1 0 [(.int .i64 x8.1),(.int .i64 x8.2.1),(.int .i64 x8.2.2)]∧
 af Tryz.prog 138 #[(.agg #[(.int .i64 x8.1),(.int .i64 x8.2.1),(.int .i64 x8.2.2)]),(.int .u32 seed_1),(.int .i64 id_2)] (.one (.sc .slc)) h5 fun r9 h6=>
 aK (σ:=Int) (fun s10 K2 h7=>
 Br (decide (s10<((r9.len:Nat):Int)))
 (∃a11:Addr,(r9.ptr=some a11∧0≤s10∧s10<((r9.len:Nat):Int))∧
 ∃x12:Int,cellOf h7 (a11.add (s10.toNat*1))=some (.int .i64 x12)∧
 ∃a13:Addr,(v7.ptr=some a13∧0≤x12∧x12<((v7.len:Nat):Int))∧
 ae Tryz.prog (Instr.storeAt 5 (.pointer (some (a13.add (x12.toNat*1)))) (.int .u8 (1:Int))) h7 fun _ h8=>
 K2 (IntKind.wrap .i64 (s10+(1:Int))) h8)
 (R (.slice v7.ptr v7.len v7.cap) h7)) (0:Int) h6)
 (fun K1=>
 ∃x2:Int×Int×Int,ai h1 a1 0 [(.int .i64 x2.1),(.int .i64 x2.2.1),(.int .i64 x2.2.2)]∧
 af Tryz.prog 31 #[(.agg #[(.int .i64 x2.1),(.int .i64 x2.2.1),(.int .i64 x2.2.2)])] (.one (.sc .bool)) h1 fun r3 h2=>
 Br (!r3) (R (.slice none 0 0) h2) (Br (decide (id_2<(0:Int))) (R (.slice none 0 0) h2) (Br (decide (id_2>(65535:Int)))
 (R (.slice none 0 0) h2)
 (K1 () h2))))
theorem GL (p_0:Int×Int×Int) (seed_1:Int) (id_2:Int) {R:Value→Heap→Prop} {h:Heap} (hm:Dh p_0 seed_1 id_2 R h):ab Tryz.prog 169 #[(.agg #[(.int .i64 p_0.1),(.int .i64 p_0.2.1),(.int .i64 p_0.2.2)]),(.int .u32 seed_1),(.int .i64 id_2)] h R:=al ag Tryz.func169 (.two .n (.two (.join [] [(6,7),(10,21)] .n) (.two .n (.two (.two .n (.inn (.loop [(29,(.sc (.int .i64)))] [(9,10),(29,37)] .n))) .n)))) hm
abbrev zY:FuncId:=170
noncomputable def se (R:Value→Heap→Prop) (h:Heap):Prop:=
 aM Tryz.prog (Instr.box 226 (.agg #[(.complex .f64 0 0),(.complex .f64 4607182418800017408 0),(.int .i64 (1:Int)),(.int .i64 (1:Int)),(.bool false)])) h fun a1 h1=>
 R (.pointer (some a1)) h1
theorem yt {R:Value→Heap→Prop} {h:Heap} (hm:se R h):ab Tryz.prog 170 #[] h R:=al ag Tryz.func170 .n hm
abbrev uh:FuncId:=171
noncomputable def mD (s_0:Option Addr) (R:Value→Heap→Prop) (h:Heap):Prop:=
 ∃a1:Addr,(s_0=some a1)∧
 ∃x2:Nat×Nat,cellOf h a1=some (.complex .f64 x2.1 x2.2)∧
 ∃a3:Addr,(s_0=some a3)∧
 ∃x4:Nat×Nat,cellOf h (a3.add 1)=some (.complex .f64 x4.1 x4.2)∧
 ∃z5:Nat×Nat,(iv Tryz.prog .add 180 (.tmp 5) (.tmp 9) (.complex .f64 x2.1 x2.2) (.complex .f64 x4.1 x4.2) (.complex .f64 z5.1 z5.2))∧
 ∃a6:Addr,(s_0=some a6)∧
 ae Tryz.prog (Instr.storeAt 180 (.pointer (some a6)) (.complex .f64 z5.1 z5.2)) h fun _ h1=>
 (aw.ok [] h1)∧
 ∃a7:Addr,(s_0=some a7)∧
 ∃x8:Int,cellOf h1 (a7.add 2)=some (.int .i64 x8)∧
 ∃a9:Addr,(s_0=some a9)∧
 ae Tryz.prog (Instr.storeAt 3 (.pointer (some (a9.add 2))) (.int .i64 (IntKind.wrap .i64 (x8-(1:Int))))) h1 fun _ h2=>
 ∃a10:Addr,(s_0=some a10)∧
 ∃x11:Int,cellOf h2 (a10.add 2)=some (.int .i64 x11)∧
 Br (decide (x11>(0:Int)))
 (R (.tuple #[]) h2)
 (∃a12:Addr,(s_0=some a12)∧
 ∃x13:Nat×Nat,cellOf h2 (a12.add 1)=some (.complex .f64 x13.1 x13.2)∧
 af Tryz.prog 216 #[(.complex .f64 x13.1 x13.2),(.int .i64 (1:Int))] (.one (.sc (.cpx .f64))) h2 fun r14 h3=>
 ∃a15:Addr,(s_0=some a15)∧
 ae Tryz.prog (Instr.storeAt 180 (.pointer (some (a15.add 1))) (.complex .f64 r14.1 r14.2)) h3 fun _ h4=>
 aW (σ:=Unit) (fun _ h6=>
 ∃a22:Addr,(s_0=some a22)∧
 ∃x23:Bool,cellOf h6 (a22.add 4)=some (.bool x23)∧
 ∃a24:Addr,(s_0=some a24)∧
 ae Tryz.prog (Instr.storeAt 4 (.pointer (some (a24.add 4))) (.bool (!x23))) h6 fun _ h7=>
 ∃a25:Addr,(s_0=some a25)∧
 ∃x26:Int,cellOf h7 (a25.add 3)=some (.int .i64 x26)∧
 ∃a27:Addr,(s_0=some a27)∧
 ae Tryz.prog (Instr.storeAt 3 (.pointer (some (a27.add 2))) (.int .i64 x26)) h7 fun _ h8=>
 R (.tuple #[]) h8)
 (fun K1=>
 ∃a16:Addr,(s_0=some a16)∧
 ∃x17:Bool,cellOf h4 (a16.add 4)=some (.bool x17)∧
 Br x17
 (∃a18:Addr,(s_0=some a18)∧
 ∃x19:Int,cellOf h4 (a18.add 3)=some (.int .i64 x19)∧
 ∃a20:Addr,(s_0=some a20)∧
 ae Tryz.prog (Instr.storeAt 3 (.pointer (some (a20.add 3))) (.int .i64 (IntKind.wrap .i64 (x19+(1:Int))))) h4 fun _ h5=>
 K1 () h5)
 (K1 () h4)))
theorem sG (s_0:Option Addr) {R:Value→Heap→Prop} {h:Heap} (hm:mD s_0 R h):ab Tryz.prog 171 #[(.pointer s_0)] h R:=al ag Tryz.func171 (.two .n (.two .n (.two .n (.two .n (.two (.join [] [(33,44)] .n) .n))))) hm
abbrev rm:FuncId:=173
noncomputable def kY (x_0:Nat) (R:Value→Heap→Prop) (h:Heap):Prop:=
 R (.bool ((FloatKind.format .f64).order x_0 x_0 !=some .eq)) h
theorem p8 (x_0:Nat) {R:Value→Heap→Prop} {h:Heap} (hm:kY x_0 R h):ab Tryz.prog 173 #[(.float .f64 x_0)] h R:=al ag Tryz.func173 .n hm
abbrev nK:FuncId:=174
noncomputable def kG (x_0:Int) (R:Value→Heap→Prop) (h:Heap):Prop:=
 R (.bool (x_0 !=x_0)) h
theorem mE (x_0:Int) {R:Value→Heap→Prop} {h:Heap} (hm:kG x_0 R h):ab Tryz.prog 174 #[(.int .i64 x_0)] h R:=al ag Tryz.func174 .n hm
abbrev EI:FuncId:=175
noncomputable def yu (seed_0:Int) (R:Value→Heap→Prop) (h:Heap):Prop:=
 aM Tryz.prog (Instr.box 269 (.agg #[(.int .u64 (IntKind.wrap .u64 seed_0))])) h fun a1 h1=>
 R (.pointer (some a1)) h1
theorem Di (seed_0:Int) {R:Value→Heap→Prop} {h:Heap} (hm:yu seed_0 R h):ab Tryz.prog 175 #[(.int .u32 seed_0)] h R:=al ag Tryz.func175 .n hm
abbrev vq:FuncId:=176
noncomputable def nL (d_0:Option Addr) (R:Value→Heap→Prop) (h:Heap):Prop:=
 Br (Option.isNone d_0)
 (R (.int .u32 (0:Int)) h)
 (∃a1:Addr,(d_0=some a1)∧
 ∃x2:Int,cellOf h a1=some (.int .u64 x2)∧
 ∃a3:Addr,(d_0=some a3)∧
 ae Tryz.prog (Instr.storeAt 244 (.pointer (some a3)) (.int .u64 (IntKind.wrap .u64 ((IntKind.wrap .u64 (x2*(6364136223846793005:Int)))+(1442695040888963407:Int))))) h fun _ h1=>
 ∃a4:Addr,(d_0=some a4)∧
 ∃x5:Int,cellOf h1 a4=some (.int .u64 x5)∧
 (0≤(32:Int))∧
 R (.int .u32 (IntKind.wrap .u32 (Int.fdiv x5 (2^min (32:Int).toNat (IntKind.bits .u64))))) h1)
theorem ui (d_0:Option Addr) {R:Value→Heap→Prop} {h:Heap} (hm:nL d_0 R h):ab Tryz.prog 176 #[(.pointer d_0)] h R:=al ag Tryz.func176 .n hm
abbrev yv:FuncId:=177
noncomputable def p9 (t_0:Sl) (d_1:Option Addr) (R:Value→Heap→Prop) (h:Heap):Prop:=
 Br (((t_0.len:Nat):Int)==(0:Int))
 (R (.int .i64 (0:Int)) h)
 (∃a1:Addr,(t_0.ptr=some a1∧0≤(IntKind.wrap .i64 (((t_0.len:Nat):Int)-(1:Int)))∧(IntKind.wrap .i64 (((t_0.len:Nat):Int)-(1:Int)))<((t_0.len:Nat):Int))∧
 ∃x2:Int,cellOf h (a1.add ((IntKind.wrap .i64 (((t_0.len:Nat):Int)-(1:Int))).toNat*1))=some (.int .i64 x2)∧
 af Tryz.prog 226 #[(.pointer d_1),(.int .i64 x2)] (.one (.sc (.int .i64))) h fun r3 h1=>
 af Tryz.prog 225 #[(.slice t_0.ptr t_0.len t_0.cap),(.int .i64 r3)] (.one (.sc (.int .i64))) h1 fun r4 h2=>
 R (.int .i64 r4) h2)
theorem wS (t_0:Sl) (d_1:Option Addr) {R:Value→Heap→Prop} {h:Heap} (hm:p9 t_0 d_1 R h):ab Tryz.prog 177 #[(.slice t_0.ptr t_0.len t_0.cap),(.pointer d_1)] h R:=al ag Tryz.func177 .n hm
abbrev wT:FuncId:=178
noncomputable def oH (l_0:Int) (R:Value→Heap→Prop) (h:Heap):Prop:=
 aW (σ:=Unit) (fun _ h1=>
 av Tryz.prog (Instr.makeSlice 24 (.int .i64 (0:Int)) (.int .i64 l_0)) (.one (.sc .slc)) h1 fun v2 h2=>
 aK (σ:=Sl×Int×Int) (fun s3 K2 h3=>
 Br (decide (s3.2.2≤l_0))
 (af Tryz.prog 227 #[(.int .i64 l_0),(.int .i64 s3.2.2)] (.one (.sc (.int .i64))) h3 fun r4 h4=>
 av Tryz.prog (Instr.buildSlice 24 1 #[(0,(.int .i64 (IntKind.wrap .i64 (s3.2.1+r4))))]) (.one (.sc .slc)) h4 fun v5 h5=>
 av Tryz.prog (Builtin.append_ #[24,24] 24 #[(.slice s3.1.ptr s3.1.len s3.1.cap),(.slice v5.ptr v5.len v5.cap)]) (.one (.sc .slc)) h5 fun v6 h6=>
 K2 ((⟨v6.ptr,v6.len,v6.cap⟩:Sl),IntKind.wrap .i64 (s3.2.1+r4),IntKind.wrap .i64 (s3.2.2+(1:Int))) h6)
 (R (.slice s3.1.ptr s3.1.len s3.1.cap) h3)) ((⟨v2.ptr,v2.len,v2.cap⟩:Sl),(0:Int),(1:Int)) h2)
 (fun K1=>
 Br (decide (l_0<(1:Int))) (R (.slice none 0 0) h) (Br (decide (l_0>(64:Int)))
 (R (.slice none 0 0) h)
 (K1 () h)))
theorem vr (l_0:Int) {R:Value→Heap→Prop} {h:Heap} (hm:oH l_0 R h):ab Tryz.prog 178 #[(.int .i64 l_0)] h R:=al ag Tryz.func178 (.two .n (.two (.join [] [(2,3),(6,12)] .n) (.two .n (.two .n (.two (.two .n (.inn (.loop [(3,(.sc .slc)),(4,(.sc (.int .i64))),(5,(.sc (.int .i64)))] [(3,6),(14,28)] .n))) .n))))) hm
abbrev zZ:FuncId:=179
noncomputable def sf (d_0:Option Addr) (n_1:Int) (k_2:Int) (R:Value→Heap→Prop) (h:Heap):Prop:=
 aW (σ:=Unit) (fun _ h1=>
 av Tryz.prog (Instr.makeSlice 24 (.int .i64 n_1) (.int .i64 n_1)) (.one (.sc .slc)) h1 fun v2 h2=>
 aK (σ:=Int) (fun s3 K2 h3=>
 Br (decide (s3<((v2.len:Nat):Int)))
 (∃a4:Addr,(v2.ptr=some a4∧0≤s3∧s3<((v2.len:Nat):Int))∧
 ae Tryz.prog (Instr.storeAt 3 (.pointer (some (a4.add (s3.toNat*1)))) (.int .i64 s3)) h3 fun _ h4=>
 K2 (IntKind.wrap .i64 (s3+(1:Int))) h4)
 (aK (σ:=Int) (fun s5 K3 h5=>
 Br (decide (s5<k_2))
 (af Tryz.prog 226 #[(.pointer d_0),(.int .i64 (IntKind.wrap .i64 (n_1-s5)))] (.one (.sc (.int .i64))) h5 fun r6 h6=>
 ∃a7:Addr,(v2.ptr=some a7∧0≤(IntKind.wrap .i64 (s5+r6))∧(IntKind.wrap .i64 (s5+r6))<((v2.len:Nat):Int))∧
 ∃x8:Int,cellOf h6 (a7.add ((IntKind.wrap .i64 (s5+r6)).toNat*1))=some (.int .i64 x8)∧
 ∃a9:Addr,(v2.ptr=some a9∧0≤s5∧s5<((v2.len:Nat):Int))∧
 ∃x10:Int,cellOf h6 (a9.add (s5.toNat*1))=some (.int .i64 x10)∧
 ∃a11:Addr,(v2.ptr=some a11∧0≤s5∧s5<((v2.len:Nat):Int))∧
 ae Tryz.prog (Instr.storeAt 3 (.pointer (some (a11.add (s5.toNat*1)))) (.int .i64 x8)) h6 fun _ h7=>
 (aw.ok [] h7)∧
 ∃a12:Addr,(v2.ptr=some a12∧0≤(IntKind.wrap .i64 (s5+r6))∧(IntKind.wrap .i64 (s5+r6))<((v2.len:Nat):Int))∧
 ae Tryz.prog (Instr.storeAt 3 (.pointer (some (a12.add ((IntKind.wrap .i64 (s5+r6)).toNat*1)))) (.int .i64 x10)) h7 fun _ h8=>
 (aw.ok [] h8)∧
 K3 (IntKind.wrap .i64 (s5+(1:Int))) h8)
 ((0≤k_2∧k_2≤((v2.cap:Nat):Int))∧
 af Tryz.prog 103 #[(.slice v2.ptr k_2.toNat v2.cap)] (.one (.sc .slc)) h5 fun r13 h9=>
 af Tryz.prog 118 #[(.slice r13.ptr r13.len r13.cap)] (.many []) h9 fun _ h10=>
 R (.slice r13.ptr r13.len r13.cap) h10)) (0:Int) h3)) (0:Int) h2)
 (fun K1=>
 Br (decide (n_1<(0:Int))) (R (.slice none 0 0) h) (Br (decide (n_1>(64:Int))) (R (.slice none 0 0) h) (Br (decide (k_2<(0:Int))) (R (.slice none 0 0) h) (Br (decide (k_2>n_1))
 (R (.slice none 0 0) h)
 (K1 () h)))))
theorem yw (d_0:Option Addr) (n_1:Int) (k_2:Int) {R:Value→Heap→Prop} {h:Heap} (hm:sf d_0 n_1 k_2 R h):ab Tryz.prog 179 #[(.pointer d_0),(.int .i64 n_1),(.int .i64 k_2)] h R:=al ag Tryz.func179 (.two .n (.two (.join [] [(6,7),(12,27)] .n) (.two .n (.two (.two .n (.inn (.loop [(31,(.sc (.int .i64)))] [(8,9),(31,39)] .n))) (.two (.two .n (.inn (.loop [(40,(.sc (.int .i64)))] [(9,11),(40,65)] .n))) .n))))) hm
abbrev il:FuncId:=180
noncomputable def ey (data_0:Sl) (a_1:Int) (b_2:Int) (cmp_3:FuncId×Array Value×Array Value) (R:Value→Heap→Prop) (h:Heap):Prop:=
 aK (σ:=Int) (fun s1 K1 h1=>
 Br (decide (s1<b_2))
 (aK (σ:=Int) (fun s2 K2 h2=>
 aW (σ:=Unit) (fun _ h4=>
 ∃a9:Addr,(data_0.ptr=some a9∧0≤(IntKind.wrap .i64 (s2-(1:Int)))∧(IntKind.wrap .i64 (s2-(1:Int)))<((data_0.len:Nat):Int))∧
 ∃x10:ByteArray×Int×Int×Sl,ai h4 (a9.add ((IntKind.wrap .i64 (s2-(1:Int))).toNat*4)) 0 [(.string x10.1),(.int .i64 x10.2.1),(.int .i64 x10.2.2.1),(.slice x10.2.2.2.ptr x10.2.2.2.len x10.2.2.2.cap)]∧
 ∃a11:Addr,(data_0.ptr=some a11∧0≤s2∧s2<((data_0.len:Nat):Int))∧
 ∃x12:ByteArray×Int×Int×Sl,ai h4 (a11.add (s2.toNat*4)) 0 [(.string x12.1),(.int .i64 x12.2.1),(.int .i64 x12.2.2.1),(.slice x12.2.2.2.ptr x12.2.2.2.len x12.2.2.2.cap)]∧
 ∃a13:Addr,(data_0.ptr=some a13∧0≤s2∧s2<((data_0.len:Nat):Int))∧
 ae Tryz.prog (Instr.storeAt 54 (.pointer (some (a13.add (s2.toNat*4)))) (.agg #[(.string x10.1),(.int .i64 x10.2.1),(.int .i64 x10.2.2.1),(.slice x10.2.2.2.ptr x10.2.2.2.len x10.2.2.2.cap)])) h4 fun _ h5=>
 (aw.ok [] h5)∧
 ∃a14:Addr,(data_0.ptr=some a14∧0≤(IntKind.wrap .i64 (s2-(1:Int)))∧(IntKind.wrap .i64 (s2-(1:Int)))<((data_0.len:Nat):Int))∧
 ae Tryz.prog (Instr.storeAt 54 (.pointer (some (a14.add ((IntKind.wrap .i64 (s2-(1:Int))).toNat*4)))) (.agg #[(.string x12.1),(.int .i64 x12.2.1),(.int .i64 x12.2.2.1),(.slice x12.2.2.2.ptr x12.2.2.2.len x12.2.2.2.cap)])) h5 fun _ h6=>
 (aw.ok [] h6)∧
 K2 (IntKind.wrap .i64 (s2-(1:Int))) h6)
 (fun K3=>
 Br (decide (s2>a_1)) (∃a3:Addr,(data_0.ptr=some a3∧0≤s2∧s2<((data_0.len:Nat):Int))∧
 ∃x4:ByteArray×Int×Int×Sl,ai h2 (a3.add (s2.toNat*4)) 0 [(.string x4.1),(.int .i64 x4.2.1),(.int .i64 x4.2.2.1),(.slice x4.2.2.2.ptr x4.2.2.2.len x4.2.2.2.cap)]∧
 ∃a5:Addr,(data_0.ptr=some a5∧0≤(IntKind.wrap .i64 (s2-(1:Int)))∧(IntKind.wrap .i64 (s2-(1:Int)))<((data_0.len:Nat):Int))∧
 ∃x6:ByteArray×Int×Int×Sl,ai h2 (a5.add ((IntKind.wrap .i64 (s2-(1:Int))).toNat*4)) 0 [(.string x6.1),(.int .i64 x6.2.1),(.int .i64 x6.2.2.1),(.slice x6.2.2.2.ptr x6.2.2.2.len x6.2.2.2.cap)]∧
 gv C cmp_3.1 (cmp_3.2.1.toList++[(.agg #[(.string x4.1),(.int .i64 x4.2.1),(.int .i64 x4.2.2.1),(.slice x4.2.2.2.ptr x4.2.2.2.len x4.2.2.2.cap)]),(.agg #[(.string x6.1),(.int .i64 x6.2.1),(.int .i64 x6.2.2.1),(.slice x6.2.2.2.ptr x6.2.2.2.len x6.2.2.2.cap)])]++cmp_3.2.2.toList) (.one (.sc (.int .i64))) h2 fun r7 h3=>
 (aw.ok [] h3)∧
 Br (decide (r7<(0:Int)))
 (K3 () h3)
 (K1 (IntKind.wrap .i64 (s1+(1:Int))) h3)) ((aw.ok [] h2)∧
 K1 (IntKind.wrap .i64 (s1+(1:Int))) h2))) s1 h1)
 (R (.tuple #[]) h1)) (IntKind.wrap .i64 (a_1+(1:Int))) h
theorem gZ (data_0:Sl) (a_1:Int) (b_2:Int) (cmp_3:FuncId×Array Value×Array Value) {R:Value→Heap→Prop} {h:Heap} (hm:ey data_0 a_1 b_2 cmp_3 R h):ab Tryz.prog 180 #[(.slice data_0.ptr data_0.len data_0.cap),(.int .i64 a_1),(.int .i64 b_2),(.func (.func cmp_3.1) cmp_3.2.1 cmp_3.2.2)] h R:=al ag Tryz.func180 (.two .n (.inn (.loop [(8,(.sc (.int .i64)))] [(8,10),(12,53)] (.two .n (.two (.inn (.two .n (.inn (.loop [(9,(.sc (.int .i64)))] [(9,10),(18,53)] (.two (.join [] [(18,35)] .n) .n))))) .n))))) hm
end Go.Proofs.YtdoiokchdaoonaaGreat
