/- Part of the proofs that the laws of this seat answer true whatever the input reads, and leave it as it was; no condition. -/
import Derived.Test.YtdhamoojccmbdaaGreatDoorTabA
set_option linter.unusedVariables false
set_option linter.unusedSimpArgs false
namespace Go.Proofs.YtdhamoojccmbdaaGreatDoor
open Go Go.Vc Go.Proofs
set_option maxRecDepth 1000000
abbrev gf:FuncId:=305
noncomputable def dF (data_0:Sl) (a_1:Int) (m_2:Int) (b_3:Int) (cmp_4:FuncId×Array Value×Array Value) (R:Value→Heap→Prop) (h:Heap):Prop:=
 aR (σ:=Int×Int) (fun s1 K1 h1=>
 Br (s1.1 !=s1.2)
 (Br (decide (s1.1>s1.2))
 (af Tryz.prog 328 #[(.slice data_0.ptr data_0.len data_0.cap),(.int .i64 (IntKind.wrap .i64 (m_2-s1.1))),(.int .i64 m_2),(.int .i64 s1.2),(.func (.func cmp_4.1) cmp_4.2.1 cmp_4.2.2)] (.many []) h1 fun _ h2=>
 K1 (IntKind.wrap .i64 (s1.1-s1.2),s1.2) h2)
 (af Tryz.prog 328 #[(.slice data_0.ptr data_0.len data_0.cap),(.int .i64 (IntKind.wrap .i64 (m_2-s1.1))),(.int .i64 (IntKind.wrap .i64 ((IntKind.wrap .i64 (m_2+s1.2))-s1.1))),(.int .i64 s1.1),(.func (.func cmp_4.1) cmp_4.2.1 cmp_4.2.2)] (.many []) h1 fun _ h3=>
 K1 (s1.1,IntKind.wrap .i64 (s1.2-s1.1)) h3))
 (af Tryz.prog 328 #[(.slice data_0.ptr data_0.len data_0.cap),(.int .i64 (IntKind.wrap .i64 (m_2-s1.1))),(.int .i64 m_2),(.int .i64 s1.1),(.func (.func cmp_4.1) cmp_4.2.1 cmp_4.2.2)] (.many []) h1 fun _ h4=>
 R (.tuple #[]) h4)) (IntKind.wrap .i64 (m_2-a_1),IntKind.wrap .i64 (b_3-m_2)) h
theorem fT (data_0:Sl) (a_1:Int) (m_2:Int) (b_3:Int) (cmp_4:FuncId×Array Value×Array Value) {R:Value→Heap→Prop} {h:Heap} (hm:dF data_0 a_1 m_2 b_3 cmp_4 R h):ae Tryz.prog 305 #[(.slice data_0.ptr data_0.len data_0.cap),(.int .i64 a_1),(.int .i64 m_2),(.int .i64 b_3),(.func (.func cmp_4.1) cmp_4.2.1 cmp_4.2.2)] h R:=aw ah Tryz.func305 (.two .n (.two .n (.two (.inn (.loop [(10,(.sc (.int .i64))),(11,(.sc (.int .i64)))] [(10,12),(18,50)] .n)) .n))) hm
abbrev fA:FuncId:=328
noncomputable def de (data_0:Sl) (a_1:Int) (b_2:Int) (n_3:Int) (cmp_4:FuncId×Array Value×Array Value) (R:Value→Heap→Prop) (h:Heap):Prop:=
 aR (σ:=Int) (fun s1 K1 h1=>
 Br (decide (s1<n_3))
 (∃a2:Addr,(data_0.ptr=some a2∧0≤(IntKind.wrap .i64 (b_2+s1))∧(IntKind.wrap .i64 (b_2+s1))<((data_0.len:Nat):Int))∧
 ∃x3:Int×Int×Int×Int×Int×Int×Int×Sl,aj h1 (a2.add ((IntKind.wrap .i64 (b_2+s1)).toNat*8)) 0 [(.int .i64 x3.1),(.int .i64 x3.2.1),(.int .i64 x3.2.2.1),(.int .i64 x3.2.2.2.1),(.int .i64 x3.2.2.2.2.1),(.int .i64 x3.2.2.2.2.2.1),(.int .u32 x3.2.2.2.2.2.2.1),(.slice x3.2.2.2.2.2.2.2.ptr x3.2.2.2.2.2.2.2.len x3.2.2.2.2.2.2.2.cap)]∧
 ∃a4:Addr,(data_0.ptr=some a4∧0≤(IntKind.wrap .i64 (a_1+s1))∧(IntKind.wrap .i64 (a_1+s1))<((data_0.len:Nat):Int))∧
 ∃x5:Int×Int×Int×Int×Int×Int×Int×Sl,aj h1 (a4.add ((IntKind.wrap .i64 (a_1+s1)).toNat*8)) 0 [(.int .i64 x5.1),(.int .i64 x5.2.1),(.int .i64 x5.2.2.1),(.int .i64 x5.2.2.2.1),(.int .i64 x5.2.2.2.2.1),(.int .i64 x5.2.2.2.2.2.1),(.int .u32 x5.2.2.2.2.2.2.1),(.slice x5.2.2.2.2.2.2.2.ptr x5.2.2.2.2.2.2.2.len x5.2.2.2.2.2.2.2.cap)]∧
 ∃a6:Addr,(data_0.ptr=some a6∧0≤(IntKind.wrap .i64 (a_1+s1))∧(IntKind.wrap .i64 (a_1+s1))<((data_0.len:Nat):Int))∧
 ab Tryz.prog (Instr.storeAt 134 (.pointer (some (a6.add ((IntKind.wrap .i64 (a_1+s1)).toNat*8)))) (.agg #[(.int .i64 x3.1),(.int .i64 x3.2.1),(.int .i64 x3.2.2.1),(.int .i64 x3.2.2.2.1),(.int .i64 x3.2.2.2.2.1),(.int .i64 x3.2.2.2.2.2.1),(.int .u32 x3.2.2.2.2.2.2.1),(.slice x3.2.2.2.2.2.2.2.ptr x3.2.2.2.2.2.2.2.len x3.2.2.2.2.2.2.2.cap)])) h1 fun _ h2=>
 (aC.ok [] h2)∧
 ∃a7:Addr,(data_0.ptr=some a7∧0≤(IntKind.wrap .i64 (b_2+s1))∧(IntKind.wrap .i64 (b_2+s1))<((data_0.len:Nat):Int))∧
 ab Tryz.prog (Instr.storeAt 134 (.pointer (some (a7.add ((IntKind.wrap .i64 (b_2+s1)).toNat*8)))) (.agg #[(.int .i64 x5.1),(.int .i64 x5.2.1),(.int .i64 x5.2.2.1),(.int .i64 x5.2.2.2.1),(.int .i64 x5.2.2.2.2.1),(.int .i64 x5.2.2.2.2.2.1),(.int .u32 x5.2.2.2.2.2.2.1),(.slice x5.2.2.2.2.2.2.2.ptr x5.2.2.2.2.2.2.2.len x5.2.2.2.2.2.2.2.cap)])) h2 fun _ h3=>
 (aC.ok [] h3)∧
 K1 (IntKind.wrap .i64 (s1+(1:Int))) h3)
 (R (.tuple #[]) h1)) (0:Int) h
theorem fq (data_0:Sl) (a_1:Int) (b_2:Int) (n_3:Int) (cmp_4:FuncId×Array Value×Array Value) {R:Value→Heap→Prop} {h:Heap} (hm:de data_0 a_1 b_2 n_3 cmp_4 R h):ae Tryz.prog 328 #[(.slice data_0.ptr data_0.len data_0.cap),(.int .i64 a_1),(.int .i64 b_2),(.int .i64 n_3),(.func (.func cmp_4.1) cmp_4.2.1 cmp_4.2.2)] h R:=aw ah Tryz.func328 (.two .n (.inn (.loop [(10,(.sc (.int .i64)))] [(10,38)] .n))) hm
end Go.Proofs.YtdhamoojccmbdaaGreatDoor
