/- Part of the proofs that the laws of this seat answer true whatever the input reads, and leave it as it was; no condition. -/
import Derived.Test.YtdoiokchdaoonaaGreatTabA
set_option linter.unusedVariables false
set_option linter.unusedSimpArgs false
namespace Go.Proofs.YtdoiokchdaoonaaGreat
open Go Go.Vc Go.Proofs
set_option maxRecDepth 1000000
abbrev vv:FuncId:=227
noncomputable def nN (l_0:Int) (k_1:Int) (R:Value→Heap→Prop) (h:Heap):Prop:=
 af Tryz.prog 244 #[(.int .i64 l_0)] (.one (.sc (.int .i64))) h fun r1 h1=>
 (l_0≠0)∧
 aW (σ:=Int) (fun s2 h2=>
 aW (σ:=Int) (fun s4 h4=>
 R (.int .i64 s4) h4)
 (fun K2=>
 (r1≠0)∧
 Br (decide (k_1<(IntKind.wrap .i64 (Int.tdiv l_0 r1))))
 (((IntKind.wrap .i64 (l_0*k_1))≠0)∧
 K2 (IntKind.wrap .i64 (s2+(IntKind.wrap .i64 (Int.tdiv (IntKind.wrap .i64 ((1048576:Int)*r1)) (IntKind.wrap .i64 (l_0*k_1)))))) h2)
 (Br (k_1==(IntKind.wrap .i64 (Int.tdiv l_0 r1)))
 (af Tryz.prog 142 #[(.int .u64 (IntKind.wrap .u64 r1))] (.one (.sc (.int .i64))) h2 fun r3 h3=>
 (l_0≠0)∧
 K2 (IntKind.wrap .i64 (s2+(IntKind.wrap .i64 (Int.tdiv (IntKind.wrap .i64 ((IntKind.wrap .i64 ((1048576:Int)*r1))*r3)) l_0)))) h3)
 (K2 s2 h2))))
 (fun K1=>
 Br (decide (k_1>(1:Int)))
 (((IntKind.wrap .i64 (k_1*(IntKind.wrap .i64 (k_1-(1:Int)))))≠0)∧
 K1 (IntKind.wrap .i64 (Int.tdiv (1048576:Int) (IntKind.wrap .i64 (k_1*(IntKind.wrap .i64 (k_1-(1:Int))))))) h1)
 (K1 (IntKind.wrap .i64 (Int.tdiv (1048576:Int) l_0)) h1))
theorem uu (l_0:Int) (k_1:Int) {R:Value→Heap→Prop} {h:Heap} (hm:nN l_0 k_1 R h):ab Tryz.prog 227 #[(.int .i64 l_0),(.int .i64 k_1)] h R:=al ag Tryz.func227 (.two .n (.two .n (.two .n (.two (.join [(6,(.sc (.int .i64)))] [(6,7),(12,19)] .n) (.two (.join [(6,(.sc (.int .i64)))] [(6,8),(19,48)] .n) .n))))) hm
abbrev hF:FuncId:=233
noncomputable def dW (data_0:Sl) (a_1:Int) (b_2:Int) (cmp_3:FuncId×Array Value×Array Value) (R:Value→Heap→Prop) (h:Heap):Prop:=
 aK (σ:=Int) (fun s1 K1 h1=>
 Br (decide (s1<b_2))
 (aK (σ:=Int) (fun s2 K2 h2=>
 aW (σ:=Unit) (fun _ h4=>
 ∃a9:Addr,(data_0.ptr=some a9∧0≤(IntKind.wrap .i64 (s2-(1:Int)))∧(IntKind.wrap .i64 (s2-(1:Int)))<((data_0.len:Nat):Int))∧
 ∃x10:Int×Int×Int×Int×Int×Int×Int×Sl,ai h4 (a9.add ((IntKind.wrap .i64 (s2-(1:Int))).toNat*8)) 0 [(.int .i64 x10.1),(.int .i64 x10.2.1),(.int .i64 x10.2.2.1),(.int .i64 x10.2.2.2.1),(.int .i64 x10.2.2.2.2.1),(.int .i64 x10.2.2.2.2.2.1),(.int .u32 x10.2.2.2.2.2.2.1),(.slice x10.2.2.2.2.2.2.2.ptr x10.2.2.2.2.2.2.2.len x10.2.2.2.2.2.2.2.cap)]∧
 ∃a11:Addr,(data_0.ptr=some a11∧0≤s2∧s2<((data_0.len:Nat):Int))∧
 ∃x12:Int×Int×Int×Int×Int×Int×Int×Sl,ai h4 (a11.add (s2.toNat*8)) 0 [(.int .i64 x12.1),(.int .i64 x12.2.1),(.int .i64 x12.2.2.1),(.int .i64 x12.2.2.2.1),(.int .i64 x12.2.2.2.2.1),(.int .i64 x12.2.2.2.2.2.1),(.int .u32 x12.2.2.2.2.2.2.1),(.slice x12.2.2.2.2.2.2.2.ptr x12.2.2.2.2.2.2.2.len x12.2.2.2.2.2.2.2.cap)]∧
 ∃a13:Addr,(data_0.ptr=some a13∧0≤s2∧s2<((data_0.len:Nat):Int))∧
 ae Tryz.prog (Instr.storeAt 149 (.pointer (some (a13.add (s2.toNat*8)))) (.agg #[(.int .i64 x10.1),(.int .i64 x10.2.1),(.int .i64 x10.2.2.1),(.int .i64 x10.2.2.2.1),(.int .i64 x10.2.2.2.2.1),(.int .i64 x10.2.2.2.2.2.1),(.int .u32 x10.2.2.2.2.2.2.1),(.slice x10.2.2.2.2.2.2.2.ptr x10.2.2.2.2.2.2.2.len x10.2.2.2.2.2.2.2.cap)])) h4 fun _ h5=>
 (aw.ok [] h5)∧
 ∃a14:Addr,(data_0.ptr=some a14∧0≤(IntKind.wrap .i64 (s2-(1:Int)))∧(IntKind.wrap .i64 (s2-(1:Int)))<((data_0.len:Nat):Int))∧
 ae Tryz.prog (Instr.storeAt 149 (.pointer (some (a14.add ((IntKind.wrap .i64 (s2-(1:Int))).toNat*8)))) (.agg #[(.int .i64 x12.1),(.int .i64 x12.2.1),(.int .i64 x12.2.2.1),(.int .i64 x12.2.2.2.1),(.int .i64 x12.2.2.2.2.1),(.int .i64 x12.2.2.2.2.2.1),(.int .u32 x12.2.2.2.2.2.2.1),(.slice x12.2.2.2.2.2.2.2.ptr x12.2.2.2.2.2.2.2.len x12.2.2.2.2.2.2.2.cap)])) h5 fun _ h6=>
 (aw.ok [] h6)∧
 K2 (IntKind.wrap .i64 (s2-(1:Int))) h6)
 (fun K3=>
 Br (decide (s2>a_1)) (∃a3:Addr,(data_0.ptr=some a3∧0≤s2∧s2<((data_0.len:Nat):Int))∧
 ∃x4:Int×Int×Int×Int×Int×Int×Int×Sl,ai h2 (a3.add (s2.toNat*8)) 0 [(.int .i64 x4.1),(.int .i64 x4.2.1),(.int .i64 x4.2.2.1),(.int .i64 x4.2.2.2.1),(.int .i64 x4.2.2.2.2.1),(.int .i64 x4.2.2.2.2.2.1),(.int .u32 x4.2.2.2.2.2.2.1),(.slice x4.2.2.2.2.2.2.2.ptr x4.2.2.2.2.2.2.2.len x4.2.2.2.2.2.2.2.cap)]∧
 ∃a5:Addr,(data_0.ptr=some a5∧0≤(IntKind.wrap .i64 (s2-(1:Int)))∧(IntKind.wrap .i64 (s2-(1:Int)))<((data_0.len:Nat):Int))∧
 ∃x6:Int×Int×Int×Int×Int×Int×Int×Sl,ai h2 (a5.add ((IntKind.wrap .i64 (s2-(1:Int))).toNat*8)) 0 [(.int .i64 x6.1),(.int .i64 x6.2.1),(.int .i64 x6.2.2.1),(.int .i64 x6.2.2.2.1),(.int .i64 x6.2.2.2.2.1),(.int .i64 x6.2.2.2.2.2.1),(.int .u32 x6.2.2.2.2.2.2.1),(.slice x6.2.2.2.2.2.2.2.ptr x6.2.2.2.2.2.2.2.len x6.2.2.2.2.2.2.2.cap)]∧
 gv C cmp_3.1 (cmp_3.2.1.toList++[(.agg #[(.int .i64 x4.1),(.int .i64 x4.2.1),(.int .i64 x4.2.2.1),(.int .i64 x4.2.2.2.1),(.int .i64 x4.2.2.2.2.1),(.int .i64 x4.2.2.2.2.2.1),(.int .u32 x4.2.2.2.2.2.2.1),(.slice x4.2.2.2.2.2.2.2.ptr x4.2.2.2.2.2.2.2.len x4.2.2.2.2.2.2.2.cap)]),(.agg #[(.int .i64 x6.1),(.int .i64 x6.2.1),(.int .i64 x6.2.2.1),(.int .i64 x6.2.2.2.1),(.int .i64 x6.2.2.2.2.1),(.int .i64 x6.2.2.2.2.2.1),(.int .u32 x6.2.2.2.2.2.2.1),(.slice x6.2.2.2.2.2.2.2.ptr x6.2.2.2.2.2.2.2.len x6.2.2.2.2.2.2.2.cap)])]++cmp_3.2.2.toList) (.one (.sc (.int .i64))) h2 fun r7 h3=>
 (aw.ok [] h3)∧
 Br (decide (r7<(0:Int)))
 (K3 () h3)
 (K1 (IntKind.wrap .i64 (s1+(1:Int))) h3)) ((aw.ok [] h2)∧
 K1 (IntKind.wrap .i64 (s1+(1:Int))) h2))) s1 h1)
 (R (.tuple #[]) h1)) (IntKind.wrap .i64 (a_1+(1:Int))) h
theorem gV (data_0:Sl) (a_1:Int) (b_2:Int) (cmp_3:FuncId×Array Value×Array Value) {R:Value→Heap→Prop} {h:Heap} (hm:dW data_0 a_1 b_2 cmp_3 R h):ab Tryz.prog 233 #[(.slice data_0.ptr data_0.len data_0.cap),(.int .i64 a_1),(.int .i64 b_2),(.func (.func cmp_3.1) cmp_3.2.1 cmp_3.2.2)] h R:=al ag Tryz.func233 (.two .n (.inn (.loop [(8,(.sc (.int .i64)))] [(8,10),(12,53)] (.two .n (.two (.inn (.two .n (.inn (.loop [(9,(.sc (.int .i64)))] [(9,10),(18,53)] (.two (.join [] [(18,35)] .n) .n))))) .n))))) hm
abbrev jd:FuncId:=234
noncomputable def fk (data_0:Sl) (a_1:Int) (m_2:Int) (b_3:Int) (cmp_4:FuncId×Array Value×Array Value) (R:Value→Heap→Prop) (h:Heap):Prop:=
 Br ((IntKind.wrap .i64 (m_2-a_1))==(1:Int))
 (aK (σ:=Int×Int) (fun s1 K1 h1=>
 Br (decide (s1.1<s1.2))
 ((0≤(1:Int))∧
 ∃a2:Addr,(data_0.ptr=some a2∧0≤(IntKind.wrap .i64 (Int.fdiv (IntKind.wrap .u64 (IntKind.wrap .i64 (s1.1+s1.2))) (2^min (1:Int).toNat (IntKind.bits .u64))))∧(IntKind.wrap .i64 (Int.fdiv (IntKind.wrap .u64 (IntKind.wrap .i64 (s1.1+s1.2))) (2^min (1:Int).toNat (IntKind.bits .u64))))<((data_0.len:Nat):Int))∧
 ∃x3:Int×Int×Int×Int×Int×Int×Int×Sl,ai h1 (a2.add ((IntKind.wrap .i64 (Int.fdiv (IntKind.wrap .u64 (IntKind.wrap .i64 (s1.1+s1.2))) (2^min (1:Int).toNat (IntKind.bits .u64)))).toNat*8)) 0 [(.int .i64 x3.1),(.int .i64 x3.2.1),(.int .i64 x3.2.2.1),(.int .i64 x3.2.2.2.1),(.int .i64 x3.2.2.2.2.1),(.int .i64 x3.2.2.2.2.2.1),(.int .u32 x3.2.2.2.2.2.2.1),(.slice x3.2.2.2.2.2.2.2.ptr x3.2.2.2.2.2.2.2.len x3.2.2.2.2.2.2.2.cap)]∧
 ∃a4:Addr,(data_0.ptr=some a4∧0≤a_1∧a_1<((data_0.len:Nat):Int))∧
 ∃x5:Int×Int×Int×Int×Int×Int×Int×Sl,ai h1 (a4.add (a_1.toNat*8)) 0 [(.int .i64 x5.1),(.int .i64 x5.2.1),(.int .i64 x5.2.2.1),(.int .i64 x5.2.2.2.1),(.int .i64 x5.2.2.2.2.1),(.int .i64 x5.2.2.2.2.2.1),(.int .u32 x5.2.2.2.2.2.2.1),(.slice x5.2.2.2.2.2.2.2.ptr x5.2.2.2.2.2.2.2.len x5.2.2.2.2.2.2.2.cap)]∧
 gv C cmp_4.1 (cmp_4.2.1.toList++[(.agg #[(.int .i64 x3.1),(.int .i64 x3.2.1),(.int .i64 x3.2.2.1),(.int .i64 x3.2.2.2.1),(.int .i64 x3.2.2.2.2.1),(.int .i64 x3.2.2.2.2.2.1),(.int .u32 x3.2.2.2.2.2.2.1),(.slice x3.2.2.2.2.2.2.2.ptr x3.2.2.2.2.2.2.2.len x3.2.2.2.2.2.2.2.cap)]),(.agg #[(.int .i64 x5.1),(.int .i64 x5.2.1),(.int .i64 x5.2.2.1),(.int .i64 x5.2.2.2.1),(.int .i64 x5.2.2.2.2.1),(.int .i64 x5.2.2.2.2.2.1),(.int .u32 x5.2.2.2.2.2.2.1),(.slice x5.2.2.2.2.2.2.2.ptr x5.2.2.2.2.2.2.2.len x5.2.2.2.2.2.2.2.cap)])]++cmp_4.2.2.toList) (.one (.sc (.int .i64))) h1 fun r6 h2=>
 (aw.ok [] h2)∧
 Br (decide (r6<(0:Int)))
 (K1 (IntKind.wrap .i64 ((IntKind.wrap .i64 (Int.fdiv (IntKind.wrap .u64 (IntKind.wrap .i64 (s1.1+s1.2))) (2^min (1:Int).toNat (IntKind.bits .u64))))+(1:Int)),s1.2) h2)
 (K1 (s1.1,IntKind.wrap .i64 (Int.fdiv (IntKind.wrap .u64 (IntKind.wrap .i64 (s1.1+s1.2))) (2^min (1:Int).toNat (IntKind.bits .u64)))) h2))
 (aK (σ:=Int) (fun s7 K2 h3=>
 Br (decide (s7<(IntKind.wrap .i64 (s1.1-(1:Int)))))
 (∃a8:Addr,(data_0.ptr=some a8∧0≤(IntKind.wrap .i64 (s7+(1:Int)))∧(IntKind.wrap .i64 (s7+(1:Int)))<((data_0.len:Nat):Int))∧
 ∃x9:Int×Int×Int×Int×Int×Int×Int×Sl,ai h3 (a8.add ((IntKind.wrap .i64 (s7+(1:Int))).toNat*8)) 0 [(.int .i64 x9.1),(.int .i64 x9.2.1),(.int .i64 x9.2.2.1),(.int .i64 x9.2.2.2.1),(.int .i64 x9.2.2.2.2.1),(.int .i64 x9.2.2.2.2.2.1),(.int .u32 x9.2.2.2.2.2.2.1),(.slice x9.2.2.2.2.2.2.2.ptr x9.2.2.2.2.2.2.2.len x9.2.2.2.2.2.2.2.cap)]∧
 ∃a10:Addr,(data_0.ptr=some a10∧0≤s7∧s7<((data_0.len:Nat):Int))∧
 ∃x11:Int×Int×Int×Int×Int×Int×Int×Sl,ai h3 (a10.add (s7.toNat*8)) 0 [(.int .i64 x11.1),(.int .i64 x11.2.1),(.int .i64 x11.2.2.1),(.int .i64 x11.2.2.2.1),(.int .i64 x11.2.2.2.2.1),(.int .i64 x11.2.2.2.2.2.1),(.int .u32 x11.2.2.2.2.2.2.1),(.slice x11.2.2.2.2.2.2.2.ptr x11.2.2.2.2.2.2.2.len x11.2.2.2.2.2.2.2.cap)]∧
 ∃a12:Addr,(data_0.ptr=some a12∧0≤s7∧s7<((data_0.len:Nat):Int))∧
 ae Tryz.prog (Instr.storeAt 149 (.pointer (some (a12.add (s7.toNat*8)))) (.agg #[(.int .i64 x9.1),(.int .i64 x9.2.1),(.int .i64 x9.2.2.1),(.int .i64 x9.2.2.2.1),(.int .i64 x9.2.2.2.2.1),(.int .i64 x9.2.2.2.2.2.1),(.int .u32 x9.2.2.2.2.2.2.1),(.slice x9.2.2.2.2.2.2.2.ptr x9.2.2.2.2.2.2.2.len x9.2.2.2.2.2.2.2.cap)])) h3 fun _ h4=>
 (aw.ok [] h4)∧
 ∃a13:Addr,(data_0.ptr=some a13∧0≤(IntKind.wrap .i64 (s7+(1:Int)))∧(IntKind.wrap .i64 (s7+(1:Int)))<((data_0.len:Nat):Int))∧
 ae Tryz.prog (Instr.storeAt 149 (.pointer (some (a13.add ((IntKind.wrap .i64 (s7+(1:Int))).toNat*8)))) (.agg #[(.int .i64 x11.1),(.int .i64 x11.2.1),(.int .i64 x11.2.2.1),(.int .i64 x11.2.2.2.1),(.int .i64 x11.2.2.2.2.1),(.int .i64 x11.2.2.2.2.2.1),(.int .u32 x11.2.2.2.2.2.2.1),(.slice x11.2.2.2.2.2.2.2.ptr x11.2.2.2.2.2.2.2.len x11.2.2.2.2.2.2.2.cap)])) h4 fun _ h5=>
 (aw.ok [] h5)∧
 K2 (IntKind.wrap .i64 (s7+(1:Int))) h5)
 (R (.tuple #[]) h3)) a_1 h1)) (m_2,b_3) h)
 (Br ((IntKind.wrap .i64 (b_3-m_2))==(1:Int))
 (aK (σ:=Int×Int) (fun s14 K3 h6=>
 Br (decide (s14.1<s14.2))
 ((0≤(1:Int))∧
 ∃a15:Addr,(data_0.ptr=some a15∧0≤m_2∧m_2<((data_0.len:Nat):Int))∧
 ∃x16:Int×Int×Int×Int×Int×Int×Int×Sl,ai h6 (a15.add (m_2.toNat*8)) 0 [(.int .i64 x16.1),(.int .i64 x16.2.1),(.int .i64 x16.2.2.1),(.int .i64 x16.2.2.2.1),(.int .i64 x16.2.2.2.2.1),(.int .i64 x16.2.2.2.2.2.1),(.int .u32 x16.2.2.2.2.2.2.1),(.slice x16.2.2.2.2.2.2.2.ptr x16.2.2.2.2.2.2.2.len x16.2.2.2.2.2.2.2.cap)]∧
 ∃a17:Addr,(data_0.ptr=some a17∧0≤(IntKind.wrap .i64 (Int.fdiv (IntKind.wrap .u64 (IntKind.wrap .i64 (s14.1+s14.2))) (2^min (1:Int).toNat (IntKind.bits .u64))))∧(IntKind.wrap .i64 (Int.fdiv (IntKind.wrap .u64 (IntKind.wrap .i64 (s14.1+s14.2))) (2^min (1:Int).toNat (IntKind.bits .u64))))<((data_0.len:Nat):Int))∧
 ∃x18:Int×Int×Int×Int×Int×Int×Int×Sl,ai h6 (a17.add ((IntKind.wrap .i64 (Int.fdiv (IntKind.wrap .u64 (IntKind.wrap .i64 (s14.1+s14.2))) (2^min (1:Int).toNat (IntKind.bits .u64)))).toNat*8)) 0 [(.int .i64 x18.1),(.int .i64 x18.2.1),(.int .i64 x18.2.2.1),(.int .i64 x18.2.2.2.1),(.int .i64 x18.2.2.2.2.1),(.int .i64 x18.2.2.2.2.2.1),(.int .u32 x18.2.2.2.2.2.2.1),(.slice x18.2.2.2.2.2.2.2.ptr x18.2.2.2.2.2.2.2.len x18.2.2.2.2.2.2.2.cap)]∧
 gv C cmp_4.1 (cmp_4.2.1.toList++[(.agg #[(.int .i64 x16.1),(.int .i64 x16.2.1),(.int .i64 x16.2.2.1),(.int .i64 x16.2.2.2.1),(.int .i64 x16.2.2.2.2.1),(.int .i64 x16.2.2.2.2.2.1),(.int .u32 x16.2.2.2.2.2.2.1),(.slice x16.2.2.2.2.2.2.2.ptr x16.2.2.2.2.2.2.2.len x16.2.2.2.2.2.2.2.cap)]),(.agg #[(.int .i64 x18.1),(.int .i64 x18.2.1),(.int .i64 x18.2.2.1),(.int .i64 x18.2.2.2.1),(.int .i64 x18.2.2.2.2.1),(.int .i64 x18.2.2.2.2.2.1),(.int .u32 x18.2.2.2.2.2.2.1),(.slice x18.2.2.2.2.2.2.2.ptr x18.2.2.2.2.2.2.2.len x18.2.2.2.2.2.2.2.cap)])]++cmp_4.2.2.toList) (.one (.sc (.int .i64))) h6 fun r19 h7=>
 (aw.ok [] h7)∧
 Br (!(decide (r19<(0:Int))))
 (K3 (IntKind.wrap .i64 ((IntKind.wrap .i64 (Int.fdiv (IntKind.wrap .u64 (IntKind.wrap .i64 (s14.1+s14.2))) (2^min (1:Int).toNat (IntKind.bits .u64))))+(1:Int)),s14.2) h7)
 (K3 (s14.1,IntKind.wrap .i64 (Int.fdiv (IntKind.wrap .u64 (IntKind.wrap .i64 (s14.1+s14.2))) (2^min (1:Int).toNat (IntKind.bits .u64)))) h7))
 (aK (σ:=Int) (fun s20 K4 h8=>
 Br (decide (s20>s14.1))
 (∃a21:Addr,(data_0.ptr=some a21∧0≤(IntKind.wrap .i64 (s20-(1:Int)))∧(IntKind.wrap .i64 (s20-(1:Int)))<((data_0.len:Nat):Int))∧
 ∃x22:Int×Int×Int×Int×Int×Int×Int×Sl,ai h8 (a21.add ((IntKind.wrap .i64 (s20-(1:Int))).toNat*8)) 0 [(.int .i64 x22.1),(.int .i64 x22.2.1),(.int .i64 x22.2.2.1),(.int .i64 x22.2.2.2.1),(.int .i64 x22.2.2.2.2.1),(.int .i64 x22.2.2.2.2.2.1),(.int .u32 x22.2.2.2.2.2.2.1),(.slice x22.2.2.2.2.2.2.2.ptr x22.2.2.2.2.2.2.2.len x22.2.2.2.2.2.2.2.cap)]∧
 ∃a23:Addr,(data_0.ptr=some a23∧0≤s20∧s20<((data_0.len:Nat):Int))∧
 ∃x24:Int×Int×Int×Int×Int×Int×Int×Sl,ai h8 (a23.add (s20.toNat*8)) 0 [(.int .i64 x24.1),(.int .i64 x24.2.1),(.int .i64 x24.2.2.1),(.int .i64 x24.2.2.2.1),(.int .i64 x24.2.2.2.2.1),(.int .i64 x24.2.2.2.2.2.1),(.int .u32 x24.2.2.2.2.2.2.1),(.slice x24.2.2.2.2.2.2.2.ptr x24.2.2.2.2.2.2.2.len x24.2.2.2.2.2.2.2.cap)]∧
 ∃a25:Addr,(data_0.ptr=some a25∧0≤s20∧s20<((data_0.len:Nat):Int))∧
 ae Tryz.prog (Instr.storeAt 149 (.pointer (some (a25.add (s20.toNat*8)))) (.agg #[(.int .i64 x22.1),(.int .i64 x22.2.1),(.int .i64 x22.2.2.1),(.int .i64 x22.2.2.2.1),(.int .i64 x22.2.2.2.2.1),(.int .i64 x22.2.2.2.2.2.1),(.int .u32 x22.2.2.2.2.2.2.1),(.slice x22.2.2.2.2.2.2.2.ptr x22.2.2.2.2.2.2.2.len x22.2.2.2.2.2.2.2.cap)])) h8 fun _ h9=>
 (aw.ok [] h9)∧
 ∃a26:Addr,(data_0.ptr=some a26∧0≤(IntKind.wrap .i64 (s20-(1:Int)))∧(IntKind.wrap .i64 (s20-(1:Int)))<((data_0.len:Nat):Int))∧
 ae Tryz.prog (Instr.storeAt 149 (.pointer (some (a26.add ((IntKind.wrap .i64 (s20-(1:Int))).toNat*8)))) (.agg #[(.int .i64 x24.1),(.int .i64 x24.2.1),(.int .i64 x24.2.2.1),(.int .i64 x24.2.2.2.1),(.int .i64 x24.2.2.2.2.1),(.int .i64 x24.2.2.2.2.2.1),(.int .u32 x24.2.2.2.2.2.2.1),(.slice x24.2.2.2.2.2.2.2.ptr x24.2.2.2.2.2.2.2.len x24.2.2.2.2.2.2.2.cap)])) h9 fun _ h10=>
 (aw.ok [] h10)∧
 K4 (IntKind.wrap .i64 (s20-(1:Int))) h10)
 (R (.tuple #[]) h8)) m_2 h6)) (a_1,m_2) h)
 ((0≤(1:Int))∧
 aW (σ:=Int×Int) (fun s27 h11=>
 aK (σ:=Int×Int) (fun s28 K6 h12=>
 Br (decide (s28.1<s28.2))
 ((0≤(1:Int))∧
 ∃a29:Addr,(data_0.ptr=some a29∧0≤(IntKind.wrap .i64 ((IntKind.wrap .i64 ((IntKind.wrap .i64 ((IntKind.wrap .i64 (Int.fdiv (IntKind.wrap .u64 (IntKind.wrap .i64 (a_1+b_3))) (2^min (1:Int).toNat (IntKind.bits .u64))))+m_2))-(1:Int)))-(IntKind.wrap .i64 (Int.fdiv (IntKind.wrap .u64 (IntKind.wrap .i64 (s28.1+s28.2))) (2^min (1:Int).toNat (IntKind.bits .u64))))))∧(IntKind.wrap .i64 ((IntKind.wrap .i64 ((IntKind.wrap .i64 ((IntKind.wrap .i64 (Int.fdiv (IntKind.wrap .u64 (IntKind.wrap .i64 (a_1+b_3))) (2^min (1:Int).toNat (IntKind.bits .u64))))+m_2))-(1:Int)))-(IntKind.wrap .i64 (Int.fdiv (IntKind.wrap .u64 (IntKind.wrap .i64 (s28.1+s28.2))) (2^min (1:Int).toNat (IntKind.bits .u64))))))<((data_0.len:Nat):Int))∧
 ∃x30:Int×Int×Int×Int×Int×Int×Int×Sl,ai h12 (a29.add ((IntKind.wrap .i64 ((IntKind.wrap .i64 ((IntKind.wrap .i64 ((IntKind.wrap .i64 (Int.fdiv (IntKind.wrap .u64 (IntKind.wrap .i64 (a_1+b_3))) (2^min (1:Int).toNat (IntKind.bits .u64))))+m_2))-(1:Int)))-(IntKind.wrap .i64 (Int.fdiv (IntKind.wrap .u64 (IntKind.wrap .i64 (s28.1+s28.2))) (2^min (1:Int).toNat (IntKind.bits .u64)))))).toNat*8)) 0 [(.int .i64 x30.1),(.int .i64 x30.2.1),(.int .i64 x30.2.2.1),(.int .i64 x30.2.2.2.1),(.int .i64 x30.2.2.2.2.1),(.int .i64 x30.2.2.2.2.2.1),(.int .u32 x30.2.2.2.2.2.2.1),(.slice x30.2.2.2.2.2.2.2.ptr x30.2.2.2.2.2.2.2.len x30.2.2.2.2.2.2.2.cap)]∧
 ∃a31:Addr,(data_0.ptr=some a31∧0≤(IntKind.wrap .i64 (Int.fdiv (IntKind.wrap .u64 (IntKind.wrap .i64 (s28.1+s28.2))) (2^min (1:Int).toNat (IntKind.bits .u64))))∧(IntKind.wrap .i64 (Int.fdiv (IntKind.wrap .u64 (IntKind.wrap .i64 (s28.1+s28.2))) (2^min (1:Int).toNat (IntKind.bits .u64))))<((data_0.len:Nat):Int))∧
 ∃x32:Int×Int×Int×Int×Int×Int×Int×Sl,ai h12 (a31.add ((IntKind.wrap .i64 (Int.fdiv (IntKind.wrap .u64 (IntKind.wrap .i64 (s28.1+s28.2))) (2^min (1:Int).toNat (IntKind.bits .u64)))).toNat*8)) 0 [(.int .i64 x32.1),(.int .i64 x32.2.1),(.int .i64 x32.2.2.1),(.int .i64 x32.2.2.2.1),(.int .i64 x32.2.2.2.2.1),(.int .i64 x32.2.2.2.2.2.1),(.int .u32 x32.2.2.2.2.2.2.1),(.slice x32.2.2.2.2.2.2.2.ptr x32.2.2.2.2.2.2.2.len x32.2.2.2.2.2.2.2.cap)]∧
 gv C cmp_4.1 (cmp_4.2.1.toList++[(.agg #[(.int .i64 x30.1),(.int .i64 x30.2.1),(.int .i64 x30.2.2.1),(.int .i64 x30.2.2.2.1),(.int .i64 x30.2.2.2.2.1),(.int .i64 x30.2.2.2.2.2.1),(.int .u32 x30.2.2.2.2.2.2.1),(.slice x30.2.2.2.2.2.2.2.ptr x30.2.2.2.2.2.2.2.len x30.2.2.2.2.2.2.2.cap)]),(.agg #[(.int .i64 x32.1),(.int .i64 x32.2.1),(.int .i64 x32.2.2.1),(.int .i64 x32.2.2.2.1),(.int .i64 x32.2.2.2.2.1),(.int .i64 x32.2.2.2.2.2.1),(.int .u32 x32.2.2.2.2.2.2.1),(.slice x32.2.2.2.2.2.2.2.ptr x32.2.2.2.2.2.2.2.len x32.2.2.2.2.2.2.2.cap)])]++cmp_4.2.2.toList) (.one (.sc (.int .i64))) h12 fun r33 h13=>
 (aw.ok [] h13)∧
 Br (!(decide (r33<(0:Int))))
 (K6 (IntKind.wrap .i64 ((IntKind.wrap .i64 (Int.fdiv (IntKind.wrap .u64 (IntKind.wrap .i64 (s28.1+s28.2))) (2^min (1:Int).toNat (IntKind.bits .u64))))+(1:Int)),s28.2) h13)
 (K6 (s28.1,IntKind.wrap .i64 (Int.fdiv (IntKind.wrap .u64 (IntKind.wrap .i64 (s28.1+s28.2))) (2^min (1:Int).toNat (IntKind.bits .u64)))) h13))
 (aW (σ:=Unit) (fun _ h15=>
 aW (σ:=Unit) (fun _ h17=>
 Br (decide ((IntKind.wrap .i64 (Int.fdiv (IntKind.wrap .u64 (IntKind.wrap .i64 (a_1+b_3))) (2^min (1:Int).toNat (IntKind.bits .u64))))<(IntKind.wrap .i64 ((IntKind.wrap .i64 ((IntKind.wrap .i64 (Int.fdiv (IntKind.wrap .u64 (IntKind.wrap .i64 (a_1+b_3))) (2^min (1:Int).toNat (IntKind.bits .u64))))+m_2))-s28.1)))) (Br (decide ((IntKind.wrap .i64 ((IntKind.wrap .i64 ((IntKind.wrap .i64 (Int.fdiv (IntKind.wrap .u64 (IntKind.wrap .i64 (a_1+b_3))) (2^min (1:Int).toNat (IntKind.bits .u64))))+m_2))-s28.1))<b_3))
 (af Tryz.prog 234 #[(.slice data_0.ptr data_0.len data_0.cap),(.int .i64 (IntKind.wrap .i64 (Int.fdiv (IntKind.wrap .u64 (IntKind.wrap .i64 (a_1+b_3))) (2^min (1:Int).toNat (IntKind.bits .u64))))),(.int .i64 (IntKind.wrap .i64 ((IntKind.wrap .i64 ((IntKind.wrap .i64 (Int.fdiv (IntKind.wrap .u64 (IntKind.wrap .i64 (a_1+b_3))) (2^min (1:Int).toNat (IntKind.bits .u64))))+m_2))-s28.1))),(.int .i64 b_3),(.func (.func cmp_4.1) cmp_4.2.1 cmp_4.2.2)] (.many []) h17 fun _ h18=>
 R (.tuple #[]) h18)
 (R (.tuple #[]) h17)) (R (.tuple #[]) h17))
 (fun K8=>
 Br (decide (a_1<s28.1)) (Br (decide (s28.1<(IntKind.wrap .i64 (Int.fdiv (IntKind.wrap .u64 (IntKind.wrap .i64 (a_1+b_3))) (2^min (1:Int).toNat (IntKind.bits .u64))))))
 (af Tryz.prog 234 #[(.slice data_0.ptr data_0.len data_0.cap),(.int .i64 a_1),(.int .i64 s28.1),(.int .i64 (IntKind.wrap .i64 (Int.fdiv (IntKind.wrap .u64 (IntKind.wrap .i64 (a_1+b_3))) (2^min (1:Int).toNat (IntKind.bits .u64))))),(.func (.func cmp_4.1) cmp_4.2.1 cmp_4.2.2)] (.many []) h15 fun _ h16=>
 K8 () h16)
 (K8 () h15)) (K8 () h15)))
 (fun K7=>
 Br (decide (s28.1<m_2)) (Br (decide (m_2<(IntKind.wrap .i64 ((IntKind.wrap .i64 ((IntKind.wrap .i64 (Int.fdiv (IntKind.wrap .u64 (IntKind.wrap .i64 (a_1+b_3))) (2^min (1:Int).toNat (IntKind.bits .u64))))+m_2))-s28.1))))
 (af Tryz.prog 246 #[(.slice data_0.ptr data_0.len data_0.cap),(.int .i64 s28.1),(.int .i64 m_2),(.int .i64 (IntKind.wrap .i64 ((IntKind.wrap .i64 ((IntKind.wrap .i64 (Int.fdiv (IntKind.wrap .u64 (IntKind.wrap .i64 (a_1+b_3))) (2^min (1:Int).toNat (IntKind.bits .u64))))+m_2))-s28.1))),(.func (.func cmp_4.1) cmp_4.2.1 cmp_4.2.2)] (.many []) h12 fun _ h14=>
 K7 () h14)
 (K7 () h12)) (K7 () h12)))) (s27.1,s27.2) h11)
 (fun K5=>
 Br (decide (m_2>(IntKind.wrap .i64 (Int.fdiv (IntKind.wrap .u64 (IntKind.wrap .i64 (a_1+b_3))) (2^min (1:Int).toNat (IntKind.bits .u64))))))
 (K5 (IntKind.wrap .i64 ((IntKind.wrap .i64 ((IntKind.wrap .i64 (Int.fdiv (IntKind.wrap .u64 (IntKind.wrap .i64 (a_1+b_3))) (2^min (1:Int).toNat (IntKind.bits .u64))))+m_2))-b_3),IntKind.wrap .i64 (Int.fdiv (IntKind.wrap .u64 (IntKind.wrap .i64 (a_1+b_3))) (2^min (1:Int).toNat (IntKind.bits .u64)))) h)
 (K5 (a_1,m_2) h))))
theorem iP (data_0:Sl) (a_1:Int) (m_2:Int) (b_3:Int) (cmp_4:FuncId×Array Value×Array Value) {R:Value→Heap→Prop} {h:Heap} (hm:fk data_0 a_1 m_2 b_3 cmp_4 R h):ab Tryz.prog 234 #[(.slice data_0.ptr data_0.len data_0.cap),(.int .i64 a_1),(.int .i64 m_2),(.int .i64 b_3),(.func (.func cmp_4.1) cmp_4.2.1 cmp_4.2.2)] h R:=al ag Tryz.func234 (.two (.two .n (.two (.two .n (.two .n (.two (.inn (.loop [(10,(.sc (.int .i64))),(11,(.sc (.int .i64)))] [(10,13),(31,54)] .n)) (.two (.two .n (.inn (.loop [(13,(.sc (.int .i64)))] [(13,14),(55,77)] .n))) .n)))) .n)) (.two (.two .n (.two (.two .n (.two .n (.two (.inn (.loop [(14,(.sc (.int .i64))),(15,(.sc (.int .i64)))] [(14,17),(83,107)] .n)) (.two (.two .n (.inn (.loop [(17,(.sc (.int .i64)))] [(17,18),(108,129)] .n))) .n)))) .n)) (.two .n (.two .n (.two .n (.two (.join [(20,(.sc (.int .i64))),(21,(.sc (.int .i64)))] [(20,22),(138,147)] .n) (.two .n (.two (.inn (.loop [(20,(.sc (.int .i64))),(21,(.sc (.int .i64)))] [(20,22),(23,24),(149,175)] .n)) (.two .n (.two (.join [] [(178,192)] .n) (.two (.join [] [(192,206)] .n) .n))))))))))) hm
abbrev EM:FuncId:=238
noncomputable def yD (f_0:Option Addr) (R:Value→Heap→Prop) (h:Heap):Prop:=
 Br (Option.isNone f_0)
 (af Tryz.prog 129 #[] (.one (.sc .ptr)) h fun r1 h1=>
 R (.pointer r1) h1)
 (R (.pointer f_0) h)
theorem Dn (f_0:Option Addr) {R:Value→Heap→Prop} {h:Heap} (hm:yD f_0 R h):ab Tryz.prog 238 #[(.pointer f_0)] h R:=al ag Tryz.func238 .n hm
abbrev yE:FuncId:=239
noncomputable def qe (f_0:Option Addr) (a_1:Int) (b_2:Int) (R:Value→Heap→Prop) (h:Heap):Prop:=
 aW (σ:=Unit) (fun _ h1=>
 af Tryz.prog 240 #[(.pointer f_0)] (.one (.sc .ptr)) h1 fun r2 h2=>
 ∃a3:Addr,(r2=some a3)∧
 (0≤a_1∧a_1<((256:Nat):Int))∧
 ∃x4:Int,cellOf h2 ((a3.add 255).add (a_1.toNat*1))=some (.int .i64 x4)∧
 ∃a5:Addr,(r2=some a5)∧
 (0≤b_2∧b_2<((256:Nat):Int))∧
 ∃x6:Int,cellOf h2 ((a5.add 255).add (b_2.toNat*1))=some (.int .i64 x6)∧
 ((255:Int)≠0)∧
 ∃a7:Addr,(r2=some a7)∧
 (0≤(Int.tmod (IntKind.wrap .i64 (x4+x6)) (255:Int))∧(Int.tmod (IntKind.wrap .i64 (x4+x6)) (255:Int))<((255:Nat):Int))∧
 ∃x8:Int,cellOf h2 (a7.add ((Int.tmod (IntKind.wrap .i64 (x4+x6)) (255:Int)).toNat*1))=some (.int .u8 x8)∧
 R (.int .u8 x8) h2)
 (fun K1=>
 Br (a_1==(0:Int)) (R (.int .u8 (0:Int)) h) (Br (b_2==(0:Int))
 (R (.int .u8 (0:Int)) h)
 (K1 () h)))
theorem wX (f_0:Option Addr) (a_1:Int) (b_2:Int) {R:Value→Heap→Prop} {h:Heap} (hm:qe f_0 a_1 b_2 R h):ab Tryz.prog 239 #[(.pointer f_0),(.int .u8 a_1),(.int .u8 b_2)] h R:=al ag Tryz.func239 (.two .n (.two (.join [] [(6,7),(8,14)] .n) .n)) hm
abbrev yF:FuncId:=240
noncomputable def qf (f_0:Option Addr) (R:Value→Heap→Prop) (h:Heap):Prop:=
 Br (Option.isNone f_0)
 (af Tryz.prog 129 #[] (.one (.sc .ptr)) h fun r1 h1=>
 R (.pointer r1) h1)
 (R (.pointer f_0) h)
theorem wY (f_0:Option Addr) {R:Value→Heap→Prop} {h:Heap} (hm:qf f_0 R h):ab Tryz.prog 240 #[(.pointer f_0)] h R:=al ag Tryz.func240 .n hm
abbrev yG:FuncId:=244
noncomputable def qg (l_0:Int) (R:Value→Heap→Prop) (h:Heap):Prop:=
 aK (σ:=Int) (fun s1 K1 h1=>
 Br (decide ((IntKind.wrap .i64 (s1*s1))<l_0))
 (K1 (IntKind.wrap .i64 (s1+(1:Int))) h1)
 (R (.int .i64 s1) h1)) (0:Int) h
theorem wZ (l_0:Int) {R:Value→Heap→Prop} {h:Heap} (hm:qg l_0 R h):ab Tryz.prog 244 #[(.int .i64 l_0)] h R:=al ag Tryz.func244 (.two .n (.two .n (.two (.inn (.loop [(3,(.sc (.int .i64)))] [(3,11)] .n)) .n))) hm
abbrev jH:FuncId:=246
noncomputable def fN (data_0:Sl) (a_1:Int) (m_2:Int) (b_3:Int) (cmp_4:FuncId×Array Value×Array Value) (R:Value→Heap→Prop) (h:Heap):Prop:=
 aK (σ:=Int×Int) (fun s1 K1 h1=>
 Br (s1.1 !=s1.2)
 (Br (decide (s1.1>s1.2))
 (af Tryz.prog 249 #[(.slice data_0.ptr data_0.len data_0.cap),(.int .i64 (IntKind.wrap .i64 (m_2-s1.1))),(.int .i64 m_2),(.int .i64 s1.2),(.func (.func cmp_4.1) cmp_4.2.1 cmp_4.2.2)] (.many []) h1 fun _ h2=>
 K1 (IntKind.wrap .i64 (s1.1-s1.2),s1.2) h2)
 (af Tryz.prog 249 #[(.slice data_0.ptr data_0.len data_0.cap),(.int .i64 (IntKind.wrap .i64 (m_2-s1.1))),(.int .i64 (IntKind.wrap .i64 ((IntKind.wrap .i64 (m_2+s1.2))-s1.1))),(.int .i64 s1.1),(.func (.func cmp_4.1) cmp_4.2.1 cmp_4.2.2)] (.many []) h1 fun _ h3=>
 K1 (s1.1,IntKind.wrap .i64 (s1.2-s1.1)) h3))
 (af Tryz.prog 249 #[(.slice data_0.ptr data_0.len data_0.cap),(.int .i64 (IntKind.wrap .i64 (m_2-s1.1))),(.int .i64 m_2),(.int .i64 s1.1),(.func (.func cmp_4.1) cmp_4.2.1 cmp_4.2.2)] (.many []) h1 fun _ h4=>
 R (.tuple #[]) h4)) (IntKind.wrap .i64 (m_2-a_1),IntKind.wrap .i64 (b_3-m_2)) h
theorem js (data_0:Sl) (a_1:Int) (m_2:Int) (b_3:Int) (cmp_4:FuncId×Array Value×Array Value) {R:Value→Heap→Prop} {h:Heap} (hm:fN data_0 a_1 m_2 b_3 cmp_4 R h):ab Tryz.prog 246 #[(.slice data_0.ptr data_0.len data_0.cap),(.int .i64 a_1),(.int .i64 m_2),(.int .i64 b_3),(.func (.func cmp_4.1) cmp_4.2.1 cmp_4.2.2)] h R:=al ag Tryz.func246 (.two .n (.two .n (.two (.inn (.loop [(10,(.sc (.int .i64))),(11,(.sc (.int .i64)))] [(10,12),(18,50)] .n)) .n))) hm
abbrev iQ:FuncId:=249
noncomputable def ff (data_0:Sl) (a_1:Int) (b_2:Int) (n_3:Int) (cmp_4:FuncId×Array Value×Array Value) (R:Value→Heap→Prop) (h:Heap):Prop:=
 aK (σ:=Int) (fun s1 K1 h1=>
 Br (decide (s1<n_3))
 (∃a2:Addr,(data_0.ptr=some a2∧0≤(IntKind.wrap .i64 (b_2+s1))∧(IntKind.wrap .i64 (b_2+s1))<((data_0.len:Nat):Int))∧
 ∃x3:Int×Int×Int×Int×Int×Int×Int×Sl,ai h1 (a2.add ((IntKind.wrap .i64 (b_2+s1)).toNat*8)) 0 [(.int .i64 x3.1),(.int .i64 x3.2.1),(.int .i64 x3.2.2.1),(.int .i64 x3.2.2.2.1),(.int .i64 x3.2.2.2.2.1),(.int .i64 x3.2.2.2.2.2.1),(.int .u32 x3.2.2.2.2.2.2.1),(.slice x3.2.2.2.2.2.2.2.ptr x3.2.2.2.2.2.2.2.len x3.2.2.2.2.2.2.2.cap)]∧
 ∃a4:Addr,(data_0.ptr=some a4∧0≤(IntKind.wrap .i64 (a_1+s1))∧(IntKind.wrap .i64 (a_1+s1))<((data_0.len:Nat):Int))∧
 ∃x5:Int×Int×Int×Int×Int×Int×Int×Sl,ai h1 (a4.add ((IntKind.wrap .i64 (a_1+s1)).toNat*8)) 0 [(.int .i64 x5.1),(.int .i64 x5.2.1),(.int .i64 x5.2.2.1),(.int .i64 x5.2.2.2.1),(.int .i64 x5.2.2.2.2.1),(.int .i64 x5.2.2.2.2.2.1),(.int .u32 x5.2.2.2.2.2.2.1),(.slice x5.2.2.2.2.2.2.2.ptr x5.2.2.2.2.2.2.2.len x5.2.2.2.2.2.2.2.cap)]∧
 ∃a6:Addr,(data_0.ptr=some a6∧0≤(IntKind.wrap .i64 (a_1+s1))∧(IntKind.wrap .i64 (a_1+s1))<((data_0.len:Nat):Int))∧
 ae Tryz.prog (Instr.storeAt 149 (.pointer (some (a6.add ((IntKind.wrap .i64 (a_1+s1)).toNat*8)))) (.agg #[(.int .i64 x3.1),(.int .i64 x3.2.1),(.int .i64 x3.2.2.1),(.int .i64 x3.2.2.2.1),(.int .i64 x3.2.2.2.2.1),(.int .i64 x3.2.2.2.2.2.1),(.int .u32 x3.2.2.2.2.2.2.1),(.slice x3.2.2.2.2.2.2.2.ptr x3.2.2.2.2.2.2.2.len x3.2.2.2.2.2.2.2.cap)])) h1 fun _ h2=>
 (aw.ok [] h2)∧
 ∃a7:Addr,(data_0.ptr=some a7∧0≤(IntKind.wrap .i64 (b_2+s1))∧(IntKind.wrap .i64 (b_2+s1))<((data_0.len:Nat):Int))∧
 ae Tryz.prog (Instr.storeAt 149 (.pointer (some (a7.add ((IntKind.wrap .i64 (b_2+s1)).toNat*8)))) (.agg #[(.int .i64 x5.1),(.int .i64 x5.2.1),(.int .i64 x5.2.2.1),(.int .i64 x5.2.2.2.1),(.int .i64 x5.2.2.2.2.1),(.int .i64 x5.2.2.2.2.2.1),(.int .u32 x5.2.2.2.2.2.2.1),(.slice x5.2.2.2.2.2.2.2.ptr x5.2.2.2.2.2.2.2.len x5.2.2.2.2.2.2.2.cap)])) h2 fun _ h3=>
 (aw.ok [] h3)∧
 K1 (IntKind.wrap .i64 (s1+(1:Int))) h3)
 (R (.tuple #[]) h1)) (0:Int) h
theorem iK (data_0:Sl) (a_1:Int) (b_2:Int) (n_3:Int) (cmp_4:FuncId×Array Value×Array Value) {R:Value→Heap→Prop} {h:Heap} (hm:ff data_0 a_1 b_2 n_3 cmp_4 R h):ab Tryz.prog 249 #[(.slice data_0.ptr data_0.len data_0.cap),(.int .i64 a_1),(.int .i64 b_2),(.int .i64 n_3),(.func (.func cmp_4.1) cmp_4.2.1 cmp_4.2.2)] h R:=al ag Tryz.func249 (.two .n (.inn (.loop [(10,(.sc (.int .i64)))] [(10,38)] .n))) hm
end Go.Proofs.YtdoiokchdaoonaaGreat
