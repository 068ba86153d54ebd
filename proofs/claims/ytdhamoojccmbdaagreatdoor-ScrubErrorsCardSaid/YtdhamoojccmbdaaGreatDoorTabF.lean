/- Part of the proofs that the laws of this seat answer true whatever the input reads, and leave it as it was; no condition. -/
import Derived.Test.YtdhamoojccmbdaaGreatDoorTabA
set_option linter.unusedVariables false
set_option linter.unusedSimpArgs false
namespace Go.Proofs.YtdhamoojccmbdaaGreatDoor
open Go Go.Vc Go.Proofs
set_option maxRecDepth 1000000
abbrev eX:FuncId:=244
noncomputable def cQ (data_0:Sl) (a_1:Int) (b_2:Int) (cmp_3:FuncId×Array Value×Array Value) (R:Value→Heap→Prop) (h:Heap):Prop:=
 aR (σ:=Int) (fun s1 K1 h1=>
 Br (decide (s1<b_2))
 (aR (σ:=Int) (fun s2 K2 h2=>
 bn (σ:=Unit) (fun _ h4=>
 ∃a9:Addr,(data_0.ptr=some a9∧0≤(IntKind.wrap .i64 (s2-(1:Int)))∧(IntKind.wrap .i64 (s2-(1:Int)))<((data_0.len:Nat):Int))∧
 ∃x10:Int×Int×Int×Int×Int×Int×Int×Sl,aj h4 (a9.add ((IntKind.wrap .i64 (s2-(1:Int))).toNat*8)) 0 [(.int .i64 x10.1),(.int .i64 x10.2.1),(.int .i64 x10.2.2.1),(.int .i64 x10.2.2.2.1),(.int .i64 x10.2.2.2.2.1),(.int .i64 x10.2.2.2.2.2.1),(.int .u32 x10.2.2.2.2.2.2.1),(.slice x10.2.2.2.2.2.2.2.ptr x10.2.2.2.2.2.2.2.len x10.2.2.2.2.2.2.2.cap)]∧
 ∃a11:Addr,(data_0.ptr=some a11∧0≤s2∧s2<((data_0.len:Nat):Int))∧
 ∃x12:Int×Int×Int×Int×Int×Int×Int×Sl,aj h4 (a11.add (s2.toNat*8)) 0 [(.int .i64 x12.1),(.int .i64 x12.2.1),(.int .i64 x12.2.2.1),(.int .i64 x12.2.2.2.1),(.int .i64 x12.2.2.2.2.1),(.int .i64 x12.2.2.2.2.2.1),(.int .u32 x12.2.2.2.2.2.2.1),(.slice x12.2.2.2.2.2.2.2.ptr x12.2.2.2.2.2.2.2.len x12.2.2.2.2.2.2.2.cap)]∧
 ∃a13:Addr,(data_0.ptr=some a13∧0≤s2∧s2<((data_0.len:Nat):Int))∧
 ab Tryz.prog (Instr.storeAt 134 (.pointer (some (a13.add (s2.toNat*8)))) (.agg #[(.int .i64 x10.1),(.int .i64 x10.2.1),(.int .i64 x10.2.2.1),(.int .i64 x10.2.2.2.1),(.int .i64 x10.2.2.2.2.1),(.int .i64 x10.2.2.2.2.2.1),(.int .u32 x10.2.2.2.2.2.2.1),(.slice x10.2.2.2.2.2.2.2.ptr x10.2.2.2.2.2.2.2.len x10.2.2.2.2.2.2.2.cap)])) h4 fun _ h5=>
 (aC.ok [] h5)∧
 ∃a14:Addr,(data_0.ptr=some a14∧0≤(IntKind.wrap .i64 (s2-(1:Int)))∧(IntKind.wrap .i64 (s2-(1:Int)))<((data_0.len:Nat):Int))∧
 ab Tryz.prog (Instr.storeAt 134 (.pointer (some (a14.add ((IntKind.wrap .i64 (s2-(1:Int))).toNat*8)))) (.agg #[(.int .i64 x12.1),(.int .i64 x12.2.1),(.int .i64 x12.2.2.1),(.int .i64 x12.2.2.2.1),(.int .i64 x12.2.2.2.2.1),(.int .i64 x12.2.2.2.2.2.1),(.int .u32 x12.2.2.2.2.2.2.1),(.slice x12.2.2.2.2.2.2.2.ptr x12.2.2.2.2.2.2.2.len x12.2.2.2.2.2.2.2.cap)])) h5 fun _ h6=>
 (aC.ok [] h6)∧
 K2 (IntKind.wrap .i64 (s2-(1:Int))) h6)
 (fun K3=>
 Br (decide (s2>a_1)) (∃a3:Addr,(data_0.ptr=some a3∧0≤s2∧s2<((data_0.len:Nat):Int))∧
 ∃x4:Int×Int×Int×Int×Int×Int×Int×Sl,aj h2 (a3.add (s2.toNat*8)) 0 [(.int .i64 x4.1),(.int .i64 x4.2.1),(.int .i64 x4.2.2.1),(.int .i64 x4.2.2.2.1),(.int .i64 x4.2.2.2.2.1),(.int .i64 x4.2.2.2.2.2.1),(.int .u32 x4.2.2.2.2.2.2.1),(.slice x4.2.2.2.2.2.2.2.ptr x4.2.2.2.2.2.2.2.len x4.2.2.2.2.2.2.2.cap)]∧
 ∃a5:Addr,(data_0.ptr=some a5∧0≤(IntKind.wrap .i64 (s2-(1:Int)))∧(IntKind.wrap .i64 (s2-(1:Int)))<((data_0.len:Nat):Int))∧
 ∃x6:Int×Int×Int×Int×Int×Int×Int×Sl,aj h2 (a5.add ((IntKind.wrap .i64 (s2-(1:Int))).toNat*8)) 0 [(.int .i64 x6.1),(.int .i64 x6.2.1),(.int .i64 x6.2.2.1),(.int .i64 x6.2.2.2.1),(.int .i64 x6.2.2.2.2.1),(.int .i64 x6.2.2.2.2.2.1),(.int .u32 x6.2.2.2.2.2.2.1),(.slice x6.2.2.2.2.2.2.2.ptr x6.2.2.2.2.2.2.2.len x6.2.2.2.2.2.2.2.cap)]∧
 ga C cmp_3.1 (cmp_3.2.1.toList++[(.agg #[(.int .i64 x4.1),(.int .i64 x4.2.1),(.int .i64 x4.2.2.1),(.int .i64 x4.2.2.2.1),(.int .i64 x4.2.2.2.2.1),(.int .i64 x4.2.2.2.2.2.1),(.int .u32 x4.2.2.2.2.2.2.1),(.slice x4.2.2.2.2.2.2.2.ptr x4.2.2.2.2.2.2.2.len x4.2.2.2.2.2.2.2.cap)]),(.agg #[(.int .i64 x6.1),(.int .i64 x6.2.1),(.int .i64 x6.2.2.1),(.int .i64 x6.2.2.2.1),(.int .i64 x6.2.2.2.2.1),(.int .i64 x6.2.2.2.2.2.1),(.int .u32 x6.2.2.2.2.2.2.1),(.slice x6.2.2.2.2.2.2.2.ptr x6.2.2.2.2.2.2.2.len x6.2.2.2.2.2.2.2.cap)])]++cmp_3.2.2.toList) (.one (.sc (.int .i64))) h2 fun r7 h3=>
 (aC.ok [] h3)∧
 Br (decide (r7<(0:Int)))
 (K3 () h3)
 (K1 (IntKind.wrap .i64 (s1+(1:Int))) h3)) ((aC.ok [] h2)∧
 K1 (IntKind.wrap .i64 (s1+(1:Int))) h2))) s1 h1)
 (R (.tuple #[]) h1)) (IntKind.wrap .i64 (a_1+(1:Int))) h
theorem eV (data_0:Sl) (a_1:Int) (b_2:Int) (cmp_3:FuncId×Array Value×Array Value) {R:Value→Heap→Prop} {h:Heap} (hm:cQ data_0 a_1 b_2 cmp_3 R h):ae Tryz.prog 244 #[(.slice data_0.ptr data_0.len data_0.cap),(.int .i64 a_1),(.int .i64 b_2),(.func (.func cmp_3.1) cmp_3.2.1 cmp_3.2.2)] h R:=aw ah Tryz.func244 (.two .n (.inn (.loop [(8,(.sc (.int .i64)))] [(8,10),(12,53)] (.two .n (.two (.inn (.two .n (.inn (.loop [(9,(.sc (.int .i64)))] [(9,10),(18,53)] (.two (.join [] [(18,35)] .n) .n))))) .n))))) hm
abbrev fK:FuncId:=245
noncomputable def di (data_0:Sl) (a_1:Int) (m_2:Int) (b_3:Int) (cmp_4:FuncId×Array Value×Array Value) (R:Value→Heap→Prop) (h:Heap):Prop:=
 Br ((IntKind.wrap .i64 (m_2-a_1))==(1:Int))
 (aR (σ:=Int×Int) (fun s1 K1 h1=>
 Br (decide (s1.1<s1.2))
 ((0≤(1:Int))∧
 ∃a2:Addr,(data_0.ptr=some a2∧0≤(IntKind.wrap .i64 (Int.fdiv (IntKind.wrap .u64 (IntKind.wrap .i64 (s1.1+s1.2))) (2^min (1:Int).toNat (IntKind.bits .u64))))∧(IntKind.wrap .i64 (Int.fdiv (IntKind.wrap .u64 (IntKind.wrap .i64 (s1.1+s1.2))) (2^min (1:Int).toNat (IntKind.bits .u64))))<((data_0.len:Nat):Int))∧
 ∃x3:Int×Int×Int×Int×Int×Int×Int×Sl,aj h1 (a2.add ((IntKind.wrap .i64 (Int.fdiv (IntKind.wrap .u64 (IntKind.wrap .i64 (s1.1+s1.2))) (2^min (1:Int).toNat (IntKind.bits .u64)))).toNat*8)) 0 [(.int .i64 x3.1),(.int .i64 x3.2.1),(.int .i64 x3.2.2.1),(.int .i64 x3.2.2.2.1),(.int .i64 x3.2.2.2.2.1),(.int .i64 x3.2.2.2.2.2.1),(.int .u32 x3.2.2.2.2.2.2.1),(.slice x3.2.2.2.2.2.2.2.ptr x3.2.2.2.2.2.2.2.len x3.2.2.2.2.2.2.2.cap)]∧
 ∃a4:Addr,(data_0.ptr=some a4∧0≤a_1∧a_1<((data_0.len:Nat):Int))∧
 ∃x5:Int×Int×Int×Int×Int×Int×Int×Sl,aj h1 (a4.add (a_1.toNat*8)) 0 [(.int .i64 x5.1),(.int .i64 x5.2.1),(.int .i64 x5.2.2.1),(.int .i64 x5.2.2.2.1),(.int .i64 x5.2.2.2.2.1),(.int .i64 x5.2.2.2.2.2.1),(.int .u32 x5.2.2.2.2.2.2.1),(.slice x5.2.2.2.2.2.2.2.ptr x5.2.2.2.2.2.2.2.len x5.2.2.2.2.2.2.2.cap)]∧
 ga C cmp_4.1 (cmp_4.2.1.toList++[(.agg #[(.int .i64 x3.1),(.int .i64 x3.2.1),(.int .i64 x3.2.2.1),(.int .i64 x3.2.2.2.1),(.int .i64 x3.2.2.2.2.1),(.int .i64 x3.2.2.2.2.2.1),(.int .u32 x3.2.2.2.2.2.2.1),(.slice x3.2.2.2.2.2.2.2.ptr x3.2.2.2.2.2.2.2.len x3.2.2.2.2.2.2.2.cap)]),(.agg #[(.int .i64 x5.1),(.int .i64 x5.2.1),(.int .i64 x5.2.2.1),(.int .i64 x5.2.2.2.1),(.int .i64 x5.2.2.2.2.1),(.int .i64 x5.2.2.2.2.2.1),(.int .u32 x5.2.2.2.2.2.2.1),(.slice x5.2.2.2.2.2.2.2.ptr x5.2.2.2.2.2.2.2.len x5.2.2.2.2.2.2.2.cap)])]++cmp_4.2.2.toList) (.one (.sc (.int .i64))) h1 fun r6 h2=>
 (aC.ok [] h2)∧
 Br (decide (r6<(0:Int)))
 (K1 (IntKind.wrap .i64 ((IntKind.wrap .i64 (Int.fdiv (IntKind.wrap .u64 (IntKind.wrap .i64 (s1.1+s1.2))) (2^min (1:Int).toNat (IntKind.bits .u64))))+(1:Int)),s1.2) h2)
 (K1 (s1.1,IntKind.wrap .i64 (Int.fdiv (IntKind.wrap .u64 (IntKind.wrap .i64 (s1.1+s1.2))) (2^min (1:Int).toNat (IntKind.bits .u64)))) h2))
 (aR (σ:=Int) (fun s7 K2 h3=>
 Br (decide (s7<(IntKind.wrap .i64 (s1.1-(1:Int)))))
 (∃a8:Addr,(data_0.ptr=some a8∧0≤(IntKind.wrap .i64 (s7+(1:Int)))∧(IntKind.wrap .i64 (s7+(1:Int)))<((data_0.len:Nat):Int))∧
 ∃x9:Int×Int×Int×Int×Int×Int×Int×Sl,aj h3 (a8.add ((IntKind.wrap .i64 (s7+(1:Int))).toNat*8)) 0 [(.int .i64 x9.1),(.int .i64 x9.2.1),(.int .i64 x9.2.2.1),(.int .i64 x9.2.2.2.1),(.int .i64 x9.2.2.2.2.1),(.int .i64 x9.2.2.2.2.2.1),(.int .u32 x9.2.2.2.2.2.2.1),(.slice x9.2.2.2.2.2.2.2.ptr x9.2.2.2.2.2.2.2.len x9.2.2.2.2.2.2.2.cap)]∧
 ∃a10:Addr,(data_0.ptr=some a10∧0≤s7∧s7<((data_0.len:Nat):Int))∧
 ∃x11:Int×Int×Int×Int×Int×Int×Int×Sl,aj h3 (a10.add (s7.toNat*8)) 0 [(.int .i64 x11.1),(.int .i64 x11.2.1),(.int .i64 x11.2.2.1),(.int .i64 x11.2.2.2.1),(.int .i64 x11.2.2.2.2.1),(.int .i64 x11.2.2.2.2.2.1),(.int .u32 x11.2.2.2.2.2.2.1),(.slice x11.2.2.2.2.2.2.2.ptr x11.2.2.2.2.2.2.2.len x11.2.2.2.2.2.2.2.cap)]∧
 ∃a12:Addr,(data_0.ptr=some a12∧0≤s7∧s7<((data_0.len:Nat):Int))∧
 ab Tryz.prog (Instr.storeAt 134 (.pointer (some (a12.add (s7.toNat*8)))) (.agg #[(.int .i64 x9.1),(.int .i64 x9.2.1),(.int .i64 x9.2.2.1),(.int .i64 x9.2.2.2.1),(.int .i64 x9.2.2.2.2.1),(.int .i64 x9.2.2.2.2.2.1),(.int .u32 x9.2.2.2.2.2.2.1),(.slice x9.2.2.2.2.2.2.2.ptr x9.2.2.2.2.2.2.2.len x9.2.2.2.2.2.2.2.cap)])) h3 fun _ h4=>
 (aC.ok [] h4)∧
 ∃a13:Addr,(data_0.ptr=some a13∧0≤(IntKind.wrap .i64 (s7+(1:Int)))∧(IntKind.wrap .i64 (s7+(1:Int)))<((data_0.len:Nat):Int))∧
 ab Tryz.prog (Instr.storeAt 134 (.pointer (some (a13.add ((IntKind.wrap .i64 (s7+(1:Int))).toNat*8)))) (.agg #[(.int .i64 x11.1),(.int .i64 x11.2.1),(.int .i64 x11.2.2.1),(.int .i64 x11.2.2.2.1),(.int .i64 x11.2.2.2.2.1),(.int .i64 x11.2.2.2.2.2.1),(.int .u32 x11.2.2.2.2.2.2.1),(.slice x11.2.2.2.2.2.2.2.ptr x11.2.2.2.2.2.2.2.len x11.2.2.2.2.2.2.2.cap)])) h4 fun _ h5=>
 (aC.ok [] h5)∧
 K2 (IntKind.wrap .i64 (s7+(1:Int))) h5)
 (R (.tuple #[]) h3)) a_1 h1)) (m_2,b_3) h)
 (Br ((IntKind.wrap .i64 (b_3-m_2))==(1:Int))
 (aR (σ:=Int×Int) (fun s14 K3 h6=>
 Br (decide (s14.1<s14.2))
 ((0≤(1:Int))∧
 ∃a15:Addr,(data_0.ptr=some a15∧0≤m_2∧m_2<((data_0.len:Nat):Int))∧
 ∃x16:Int×Int×Int×Int×Int×Int×Int×Sl,aj h6 (a15.add (m_2.toNat*8)) 0 [(.int .i64 x16.1),(.int .i64 x16.2.1),(.int .i64 x16.2.2.1),(.int .i64 x16.2.2.2.1),(.int .i64 x16.2.2.2.2.1),(.int .i64 x16.2.2.2.2.2.1),(.int .u32 x16.2.2.2.2.2.2.1),(.slice x16.2.2.2.2.2.2.2.ptr x16.2.2.2.2.2.2.2.len x16.2.2.2.2.2.2.2.cap)]∧
 ∃a17:Addr,(data_0.ptr=some a17∧0≤(IntKind.wrap .i64 (Int.fdiv (IntKind.wrap .u64 (IntKind.wrap .i64 (s14.1+s14.2))) (2^min (1:Int).toNat (IntKind.bits .u64))))∧(IntKind.wrap .i64 (Int.fdiv (IntKind.wrap .u64 (IntKind.wrap .i64 (s14.1+s14.2))) (2^min (1:Int).toNat (IntKind.bits .u64))))<((data_0.len:Nat):Int))∧
 ∃x18:Int×Int×Int×Int×Int×Int×Int×Sl,aj h6 (a17.add ((IntKind.wrap .i64 (Int.fdiv (IntKind.wrap .u64 (IntKind.wrap .i64 (s14.1+s14.2))) (2^min (1:Int).toNat (IntKind.bits .u64)))).toNat*8)) 0 [(.int .i64 x18.1),(.int .i64 x18.2.1),(.int .i64 x18.2.2.1),(.int .i64 x18.2.2.2.1),(.int .i64 x18.2.2.2.2.1),(.int .i64 x18.2.2.2.2.2.1),(.int .u32 x18.2.2.2.2.2.2.1),(.slice x18.2.2.2.2.2.2.2.ptr x18.2.2.2.2.2.2.2.len x18.2.2.2.2.2.2.2.cap)]∧
 ga C cmp_4.1 (cmp_4.2.1.toList++[(.agg #[(.int .i64 x16.1),(.int .i64 x16.2.1),(.int .i64 x16.2.2.1),(.int .i64 x16.2.2.2.1),(.int .i64 x16.2.2.2.2.1),(.int .i64 x16.2.2.2.2.2.1),(.int .u32 x16.2.2.2.2.2.2.1),(.slice x16.2.2.2.2.2.2.2.ptr x16.2.2.2.2.2.2.2.len x16.2.2.2.2.2.2.2.cap)]),(.agg #[(.int .i64 x18.1),(.int .i64 x18.2.1),(.int .i64 x18.2.2.1),(.int .i64 x18.2.2.2.1),(.int .i64 x18.2.2.2.2.1),(.int .i64 x18.2.2.2.2.2.1),(.int .u32 x18.2.2.2.2.2.2.1),(.slice x18.2.2.2.2.2.2.2.ptr x18.2.2.2.2.2.2.2.len x18.2.2.2.2.2.2.2.cap)])]++cmp_4.2.2.toList) (.one (.sc (.int .i64))) h6 fun r19 h7=>
 (aC.ok [] h7)∧
 Br (!(decide (r19<(0:Int))))
 (K3 (IntKind.wrap .i64 ((IntKind.wrap .i64 (Int.fdiv (IntKind.wrap .u64 (IntKind.wrap .i64 (s14.1+s14.2))) (2^min (1:Int).toNat (IntKind.bits .u64))))+(1:Int)),s14.2) h7)
 (K3 (s14.1,IntKind.wrap .i64 (Int.fdiv (IntKind.wrap .u64 (IntKind.wrap .i64 (s14.1+s14.2))) (2^min (1:Int).toNat (IntKind.bits .u64)))) h7))
 (aR (σ:=Int) (fun s20 K4 h8=>
 Br (decide (s20>s14.1))
 (∃a21:Addr,(data_0.ptr=some a21∧0≤(IntKind.wrap .i64 (s20-(1:Int)))∧(IntKind.wrap .i64 (s20-(1:Int)))<((data_0.len:Nat):Int))∧
 ∃x22:Int×Int×Int×Int×Int×Int×Int×Sl,aj h8 (a21.add ((IntKind.wrap .i64 (s20-(1:Int))).toNat*8)) 0 [(.int .i64 x22.1),(.int .i64 x22.2.1),(.int .i64 x22.2.2.1),(.int .i64 x22.2.2.2.1),(.int .i64 x22.2.2.2.2.1),(.int .i64 x22.2.2.2.2.2.1),(.int .u32 x22.2.2.2.2.2.2.1),(.slice x22.2.2.2.2.2.2.2.ptr x22.2.2.2.2.2.2.2.len x22.2.2.2.2.2.2.2.cap)]∧
 ∃a23:Addr,(data_0.ptr=some a23∧0≤s20∧s20<((data_0.len:Nat):Int))∧
 ∃x24:Int×Int×Int×Int×Int×Int×Int×Sl,aj h8 (a23.add (s20.toNat*8)) 0 [(.int .i64 x24.1),(.int .i64 x24.2.1),(.int .i64 x24.2.2.1),(.int .i64 x24.2.2.2.1),(.int .i64 x24.2.2.2.2.1),(.int .i64 x24.2.2.2.2.2.1),(.int .u32 x24.2.2.2.2.2.2.1),(.slice x24.2.2.2.2.2.2.2.ptr x24.2.2.2.2.2.2.2.len x24.2.2.2.2.2.2.2.cap)]∧
 ∃a25:Addr,(data_0.ptr=some a25∧0≤s20∧s20<((data_0.len:Nat):Int))∧
 ab Tryz.prog (Instr.storeAt 134 (.pointer (some (a25.add (s20.toNat*8)))) (.agg #[(.int .i64 x22.1),(.int .i64 x22.2.1),(.int .i64 x22.2.2.1),(.int .i64 x22.2.2.2.1),(.int .i64 x22.2.2.2.2.1),(.int .i64 x22.2.2.2.2.2.1),(.int .u32 x22.2.2.2.2.2.2.1),(.slice x22.2.2.2.2.2.2.2.ptr x22.2.2.2.2.2.2.2.len x22.2.2.2.2.2.2.2.cap)])) h8 fun _ h9=>
 (aC.ok [] h9)∧
 ∃a26:Addr,(data_0.ptr=some a26∧0≤(IntKind.wrap .i64 (s20-(1:Int)))∧(IntKind.wrap .i64 (s20-(1:Int)))<((data_0.len:Nat):Int))∧
 ab Tryz.prog (Instr.storeAt 134 (.pointer (some (a26.add ((IntKind.wrap .i64 (s20-(1:Int))).toNat*8)))) (.agg #[(.int .i64 x24.1),(.int .i64 x24.2.1),(.int .i64 x24.2.2.1),(.int .i64 x24.2.2.2.1),(.int .i64 x24.2.2.2.2.1),(.int .i64 x24.2.2.2.2.2.1),(.int .u32 x24.2.2.2.2.2.2.1),(.slice x24.2.2.2.2.2.2.2.ptr x24.2.2.2.2.2.2.2.len x24.2.2.2.2.2.2.2.cap)])) h9 fun _ h10=>
 (aC.ok [] h10)∧
 K4 (IntKind.wrap .i64 (s20-(1:Int))) h10)
 (R (.tuple #[]) h8)) m_2 h6)) (a_1,m_2) h)
 ((0≤(1:Int))∧
 bn (σ:=Int×Int) (fun s27 h11=>
 aR (σ:=Int×Int) (fun s28 K6 h12=>
 Br (decide (s28.1<s28.2))
 ((0≤(1:Int))∧
 ∃a29:Addr,(data_0.ptr=some a29∧0≤(IntKind.wrap .i64 ((IntKind.wrap .i64 ((IntKind.wrap .i64 ((IntKind.wrap .i64 (Int.fdiv (IntKind.wrap .u64 (IntKind.wrap .i64 (a_1+b_3))) (2^min (1:Int).toNat (IntKind.bits .u64))))+m_2))-(1:Int)))-(IntKind.wrap .i64 (Int.fdiv (IntKind.wrap .u64 (IntKind.wrap .i64 (s28.1+s28.2))) (2^min (1:Int).toNat (IntKind.bits .u64))))))∧(IntKind.wrap .i64 ((IntKind.wrap .i64 ((IntKind.wrap .i64 ((IntKind.wrap .i64 (Int.fdiv (IntKind.wrap .u64 (IntKind.wrap .i64 (a_1+b_3))) (2^min (1:Int).toNat (IntKind.bits .u64))))+m_2))-(1:Int)))-(IntKind.wrap .i64 (Int.fdiv (IntKind.wrap .u64 (IntKind.wrap .i64 (s28.1+s28.2))) (2^min (1:Int).toNat (IntKind.bits .u64))))))<((data_0.len:Nat):Int))∧
 ∃x30:Int×Int×Int×Int×Int×Int×Int×Sl,aj h12 (a29.add ((IntKind.wrap .i64 ((IntKind.wrap .i64 ((IntKind.wrap .i64 ((IntKind.wrap .i64 (Int.fdiv (IntKind.wrap .u64 (IntKind.wrap .i64 (a_1+b_3))) (2^min (1:Int).toNat (IntKind.bits .u64))))+m_2))-(1:Int)))-(IntKind.wrap .i64 (Int.fdiv (IntKind.wrap .u64 (IntKind.wrap .i64 (s28.1+s28.2))) (2^min (1:Int).toNat (IntKind.bits .u64)))))).toNat*8)) 0 [(.int .i64 x30.1),(.int .i64 x30.2.1),(.int .i64 x30.2.2.1),(.int .i64 x30.2.2.2.1),(.int .i64 x30.2.2.2.2.1),(.int .i64 x30.2.2.2.2.2.1),(.int .u32 x30.2.2.2.2.2.2.1),(.slice x30.2.2.2.2.2.2.2.ptr x30.2.2.2.2.2.2.2.len x30.2.2.2.2.2.2.2.cap)]∧
 ∃a31:Addr,(data_0.ptr=some a31∧0≤(IntKind.wrap .i64 (Int.fdiv (IntKind.wrap .u64 (IntKind.wrap .i64 (s28.1+s28.2))) (2^min (1:Int).toNat (IntKind.bits .u64))))∧(IntKind.wrap .i64 (Int.fdiv (IntKind.wrap .u64 (IntKind.wrap .i64 (s28.1+s28.2))) (2^min (1:Int).toNat (IntKind.bits .u64))))<((data_0.len:Nat):Int))∧
 ∃x32:Int×Int×Int×Int×Int×Int×Int×Sl,aj h12 (a31.add ((IntKind.wrap .i64 (Int.fdiv (IntKind.wrap .u64 (IntKind.wrap .i64 (s28.1+s28.2))) (2^min (1:Int).toNat (IntKind.bits .u64)))).toNat*8)) 0 [(.int .i64 x32.1),(.int .i64 x32.2.1),(.int .i64 x32.2.2.1),(.int .i64 x32.2.2.2.1),(.int .i64 x32.2.2.2.2.1),(.int .i64 x32.2.2.2.2.2.1),(.int .u32 x32.2.2.2.2.2.2.1),(.slice x32.2.2.2.2.2.2.2.ptr x32.2.2.2.2.2.2.2.len x32.2.2.2.2.2.2.2.cap)]∧
 ga C cmp_4.1 (cmp_4.2.1.toList++[(.agg #[(.int .i64 x30.1),(.int .i64 x30.2.1),(.int .i64 x30.2.2.1),(.int .i64 x30.2.2.2.1),(.int .i64 x30.2.2.2.2.1),(.int .i64 x30.2.2.2.2.2.1),(.int .u32 x30.2.2.2.2.2.2.1),(.slice x30.2.2.2.2.2.2.2.ptr x30.2.2.2.2.2.2.2.len x30.2.2.2.2.2.2.2.cap)]),(.agg #[(.int .i64 x32.1),(.int .i64 x32.2.1),(.int .i64 x32.2.2.1),(.int .i64 x32.2.2.2.1),(.int .i64 x32.2.2.2.2.1),(.int .i64 x32.2.2.2.2.2.1),(.int .u32 x32.2.2.2.2.2.2.1),(.slice x32.2.2.2.2.2.2.2.ptr x32.2.2.2.2.2.2.2.len x32.2.2.2.2.2.2.2.cap)])]++cmp_4.2.2.toList) (.one (.sc (.int .i64))) h12 fun r33 h13=>
 (aC.ok [] h13)∧
 Br (!(decide (r33<(0:Int))))
 (K6 (IntKind.wrap .i64 ((IntKind.wrap .i64 (Int.fdiv (IntKind.wrap .u64 (IntKind.wrap .i64 (s28.1+s28.2))) (2^min (1:Int).toNat (IntKind.bits .u64))))+(1:Int)),s28.2) h13)
 (K6 (s28.1,IntKind.wrap .i64 (Int.fdiv (IntKind.wrap .u64 (IntKind.wrap .i64 (s28.1+s28.2))) (2^min (1:Int).toNat (IntKind.bits .u64)))) h13))
 (bn (σ:=Unit) (fun _ h15=>
 bn (σ:=Unit) (fun _ h17=>
 Br (decide ((IntKind.wrap .i64 (Int.fdiv (IntKind.wrap .u64 (IntKind.wrap .i64 (a_1+b_3))) (2^min (1:Int).toNat (IntKind.bits .u64))))<(IntKind.wrap .i64 ((IntKind.wrap .i64 ((IntKind.wrap .i64 (Int.fdiv (IntKind.wrap .u64 (IntKind.wrap .i64 (a_1+b_3))) (2^min (1:Int).toNat (IntKind.bits .u64))))+m_2))-s28.1)))) (Br (decide ((IntKind.wrap .i64 ((IntKind.wrap .i64 ((IntKind.wrap .i64 (Int.fdiv (IntKind.wrap .u64 (IntKind.wrap .i64 (a_1+b_3))) (2^min (1:Int).toNat (IntKind.bits .u64))))+m_2))-s28.1))<b_3))
 (af Tryz.prog 245 #[(.slice data_0.ptr data_0.len data_0.cap),(.int .i64 (IntKind.wrap .i64 (Int.fdiv (IntKind.wrap .u64 (IntKind.wrap .i64 (a_1+b_3))) (2^min (1:Int).toNat (IntKind.bits .u64))))),(.int .i64 (IntKind.wrap .i64 ((IntKind.wrap .i64 ((IntKind.wrap .i64 (Int.fdiv (IntKind.wrap .u64 (IntKind.wrap .i64 (a_1+b_3))) (2^min (1:Int).toNat (IntKind.bits .u64))))+m_2))-s28.1))),(.int .i64 b_3),(.func (.func cmp_4.1) cmp_4.2.1 cmp_4.2.2)] (.many []) h17 fun _ h18=>
 R (.tuple #[]) h18)
 (R (.tuple #[]) h17)) (R (.tuple #[]) h17))
 (fun K8=>
 Br (decide (a_1<s28.1)) (Br (decide (s28.1<(IntKind.wrap .i64 (Int.fdiv (IntKind.wrap .u64 (IntKind.wrap .i64 (a_1+b_3))) (2^min (1:Int).toNat (IntKind.bits .u64))))))
 (af Tryz.prog 245 #[(.slice data_0.ptr data_0.len data_0.cap),(.int .i64 a_1),(.int .i64 s28.1),(.int .i64 (IntKind.wrap .i64 (Int.fdiv (IntKind.wrap .u64 (IntKind.wrap .i64 (a_1+b_3))) (2^min (1:Int).toNat (IntKind.bits .u64))))),(.func (.func cmp_4.1) cmp_4.2.1 cmp_4.2.2)] (.many []) h15 fun _ h16=>
 K8 () h16)
 (K8 () h15)) (K8 () h15)))
 (fun K7=>
 Br (decide (s28.1<m_2)) (Br (decide (m_2<(IntKind.wrap .i64 ((IntKind.wrap .i64 ((IntKind.wrap .i64 (Int.fdiv (IntKind.wrap .u64 (IntKind.wrap .i64 (a_1+b_3))) (2^min (1:Int).toNat (IntKind.bits .u64))))+m_2))-s28.1))))
 (af Tryz.prog 305 #[(.slice data_0.ptr data_0.len data_0.cap),(.int .i64 s28.1),(.int .i64 m_2),(.int .i64 (IntKind.wrap .i64 ((IntKind.wrap .i64 ((IntKind.wrap .i64 (Int.fdiv (IntKind.wrap .u64 (IntKind.wrap .i64 (a_1+b_3))) (2^min (1:Int).toNat (IntKind.bits .u64))))+m_2))-s28.1))),(.func (.func cmp_4.1) cmp_4.2.1 cmp_4.2.2)] (.many []) h12 fun _ h14=>
 K7 () h14)
 (K7 () h12)) (K7 () h12)))) (s27.1,s27.2) h11)
 (fun K5=>
 Br (decide (m_2>(IntKind.wrap .i64 (Int.fdiv (IntKind.wrap .u64 (IntKind.wrap .i64 (a_1+b_3))) (2^min (1:Int).toNat (IntKind.bits .u64))))))
 (K5 (IntKind.wrap .i64 ((IntKind.wrap .i64 ((IntKind.wrap .i64 (Int.fdiv (IntKind.wrap .u64 (IntKind.wrap .i64 (a_1+b_3))) (2^min (1:Int).toNat (IntKind.bits .u64))))+m_2))-b_3),IntKind.wrap .i64 (Int.fdiv (IntKind.wrap .u64 (IntKind.wrap .i64 (a_1+b_3))) (2^min (1:Int).toNat (IntKind.bits .u64)))) h)
 (K5 (a_1,m_2) h))))
theorem fz (data_0:Sl) (a_1:Int) (m_2:Int) (b_3:Int) (cmp_4:FuncId×Array Value×Array Value) {R:Value→Heap→Prop} {h:Heap} (hm:di data_0 a_1 m_2 b_3 cmp_4 R h):ae Tryz.prog 245 #[(.slice data_0.ptr data_0.len data_0.cap),(.int .i64 a_1),(.int .i64 m_2),(.int .i64 b_3),(.func (.func cmp_4.1) cmp_4.2.1 cmp_4.2.2)] h R:=aw ah Tryz.func245 (.two (.two .n (.two (.two .n (.two .n (.two (.inn (.loop [(10,(.sc (.int .i64))),(11,(.sc (.int .i64)))] [(10,13),(31,54)] .n)) (.two (.two .n (.inn (.loop [(13,(.sc (.int .i64)))] [(13,14),(55,77)] .n))) .n)))) .n)) (.two (.two .n (.two (.two .n (.two .n (.two (.inn (.loop [(14,(.sc (.int .i64))),(15,(.sc (.int .i64)))] [(14,17),(83,107)] .n)) (.two (.two .n (.inn (.loop [(17,(.sc (.int .i64)))] [(17,18),(108,129)] .n))) .n)))) .n)) (.two .n (.two .n (.two .n (.two (.join [(20,(.sc (.int .i64))),(21,(.sc (.int .i64)))] [(20,22),(138,147)] .n) (.two .n (.two (.inn (.loop [(20,(.sc (.int .i64))),(21,(.sc (.int .i64)))] [(20,22),(23,24),(149,175)] .n)) (.two .n (.two (.join [] [(178,192)] .n) (.two (.join [] [(192,206)] .n) .n))))))))))) hm
end Go.Proofs.YtdhamoojccmbdaaGreatDoor
