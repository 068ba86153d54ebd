/- Part of the proofs that the laws of this seat answer true whatever the input reads, and leave it as it was; no condition. -/
import Derived.Test.YtdoiokchdaoonaaGreatTabA
set_option linter.unusedVariables false
set_option linter.unusedSimpArgs false
namespace Go.Proofs.YtdoiokchdaoonaaGreat
open Go Go.Vc Go.Proofs
set_option maxRecDepth 1000000
abbrev C2:FuncId:=88
noncomputable def vN (p_0:Int×Int×Int) (object_1:Int) (block_2:Int) (R:Value→Heap→Prop) (h:Heap):Prop:=
 aM Tryz.prog (Instr.box 23 (.agg #[(.int .i64 p_0.1),(.int .i64 p_0.2.1),(.int .i64 p_0.2.2)])) h fun a1 h1=>
 aK (σ:=Int) (fun s2 K1 h2=>
 Br (decide (s2<(16:Int)))
 (∃x3:Int×Int×Int,ai h2 a1 0 [(.int .i64 x3.1),(.int .i64 x3.2.1),(.int .i64 x3.2.2)]∧
 af Tryz.prog 20 #[(.int .i64 object_1),(.int .i64 block_2),(.int .i64 s2)] (.one (.sc (.int .u32))) h2 fun r4 h3=>
 (aw.ok [(a1,(.int .i64 x3.1)),(a1.add 1,(.int .i64 x3.2.1)),(a1.add 2,(.int .i64 x3.2.2))] h3)∧
 af Tryz.prog 19 #[(.agg #[(.int .i64 x3.1),(.int .i64 x3.2.1),(.int .i64 x3.2.2)]),(.int .u32 r4)] (.one (.sc .bool)) h3 fun r5 h4=>
 (aw.ok [] h4)∧
 Br r5
 (R (.tuple #[(.int .i64 s2),(.bool true)]) h4)
 (K1 (IntKind.wrap .i64 (s2+(1:Int))) h4))
 (R (.tuple #[(.int .i64 (0:Int)),(.bool false)]) h2)) (0:Int) h1
theorem Bt (p_0:Int×Int×Int) (object_1:Int) (block_2:Int) {R:Value→Heap→Prop} {h:Heap} (hm:vN p_0 object_1 block_2 R h):ab Tryz.prog 88 #[(.agg #[(.int .i64 p_0.1),(.int .i64 p_0.2.1),(.int .i64 p_0.2.2)]),(.int .i64 object_1),(.int .i64 block_2)] h R:=al ag Tryz.func88 (.two .n (.two (.two .n (.inn (.loop [(9,(.sc (.int .i64)))] [(6,20)] .n))) .n)) hm
abbrev Bu:FuncId:=89
noncomputable def nF (p_0:Int×Int×Int) (R:Value→Heap→Prop) (h:Heap):Prop:=
 aM Tryz.prog (Instr.box 23 (.agg #[(.int .i64 p_0.1),(.int .i64 p_0.2.1),(.int .i64 p_0.2.2)])) h fun a1 h1=>
 ∃x2:Int,cellOf h1 a1=some (.int .i64 x2)∧
 ∃x3:Int,cellOf h1 (a1.add 2)=some (.int .i64 x3)∧
 R (.int .i64 (IntKind.wrap .i64 (x2*x3))) h1
theorem pT (p_0:Int×Int×Int) {R:Value→Heap→Prop} {h:Heap} (hm:nF p_0 R h):ab Tryz.prog 89 #[(.agg #[(.int .i64 p_0.1),(.int .i64 p_0.2.1),(.int .i64 p_0.2.2)])] h R:=al ag Tryz.func89 .n hm
abbrev zL:FuncId:=90
noncomputable def rQ (p_0:Int×Int×Int) (b_1:Sl) (R:Value→Heap→Prop) (h:Heap):Prop:=
 aM Tryz.prog (Instr.box 23 (.agg #[(.int .i64 p_0.1),(.int .i64 p_0.2.1),(.int .i64 p_0.2.2)])) h fun a1 h1=>
 ∃x2:Int×Int×Int,ai h1 a1 0 [(.int .i64 x2.1),(.int .i64 x2.2.1),(.int .i64 x2.2.2)]∧
 af Tryz.prog 49 #[(.agg #[(.int .i64 x2.1),(.int .i64 x2.2.1),(.int .i64 x2.2.2)]),(.int .i64 ((b_1.len:Nat):Int))] (.one (.sc (.int .i64))) h1 fun r3 h2=>
 aK (σ:=Sl×Int) (fun s4 K1 h3=>
 Br (decide (s4.2<r3))
 (∃x5:Int×Int×Int,ai h3 a1 0 [(.int .i64 x5.1),(.int .i64 x5.2.1),(.int .i64 x5.2.2)]∧
 af Tryz.prog 89 #[(.agg #[(.int .i64 x5.1),(.int .i64 x5.2.1),(.int .i64 x5.2.2)])] (.one (.sc (.int .i64))) h3 fun r6 h4=>
 av Tryz.prog (Instr.makeSlice 45 (.int .i64 r6) (.int .i64 r6)) (.one (.sc .slc)) h4 fun v7 h5=>
 ∃x8:Int×Int×Int,ai h5 a1 0 [(.int .i64 x8.1),(.int .i64 x8.2.1),(.int .i64 x8.2.2)]∧
 af Tryz.prog 89 #[(.agg #[(.int .i64 x8.1),(.int .i64 x8.2.1),(.int .i64 x8.2.2)])] (.one (.sc (.int .i64))) h5 fun r9 h6=>
 (0≤(IntKind.wrap .i64 (s4.2*r9))∧(IntKind.wrap .i64 (s4.2*r9))≤((b_1.len:Nat):Int))∧
 av Tryz.prog (Builtin.copy_ #[45,45] 3 #[(.slice v7.ptr v7.len v7.cap),(.slice (if b_1.cap=(IntKind.wrap .i64 (s4.2*r9)).toNat then b_1.ptr else b_1.ptr.map (·.add ((IntKind.wrap .i64 (s4.2*r9)).toNat*1))) (b_1.len-(IntKind.wrap .i64 (s4.2*r9)).toNat) (b_1.cap-(IntKind.wrap .i64 (s4.2*r9)).toNat))]) (.one (.sc (.int .i64))) h6 fun _ h7=>
 av Tryz.prog (Instr.buildSlice 78 1 #[(0,(.slice v7.ptr v7.len v7.cap))]) (.one (.sc .slc)) h7 fun v11 h8=>
 av Tryz.prog (Builtin.append_ #[78,78] 78 #[(.slice s4.1.ptr s4.1.len s4.1.cap),(.slice v11.ptr v11.len v11.cap)]) (.one (.sc .slc)) h8 fun v12 h9=>
 K1 ((⟨v12.ptr,v12.len,v12.cap⟩:Sl),IntKind.wrap .i64 (s4.2+(1:Int))) h9)
 (R (.slice s4.1.ptr s4.1.len s4.1.cap) h3)) ((⟨none,0,0⟩:Sl),(0:Int)) h2
theorem yb (p_0:Int×Int×Int) (b_1:Sl) {R:Value→Heap→Prop} {h:Heap} (hm:rQ p_0 b_1 R h):ab Tryz.prog 90 #[(.agg #[(.int .i64 p_0.1),(.int .i64 p_0.2.1),(.int .i64 p_0.2.2)]),(.slice b_1.ptr b_1.len b_1.cap)] h R:=al ag Tryz.func90 (.two .n (.two .n (.two (.two .n (.inn (.loop [(5,(.sc .slc)),(12,(.sc (.int .i64)))] [(5,8),(12,31)] .n))) .n))) hm
abbrev rR:FuncId:=91
noncomputable def tZ (p_0:Int×Int×Int) (seed_1:Int) (data_2:Sl) (R:Value→Heap→Prop) (h:Heap):Prop:=
 aM Tryz.prog (Instr.box 23 (.agg #[(.int .i64 p_0.1),(.int .i64 p_0.2.1),(.int .i64 p_0.2.2)])) h fun a1 h1=>
 aW (σ:=Unit) (fun _ h3=>
 ∃x7:Int×Int×Int,ai h3 a1 0 [(.int .i64 x7.1),(.int .i64 x7.2.1),(.int .i64 x7.2.2)]∧
 af Tryz.prog 19 #[(.agg #[(.int .i64 x7.1),(.int .i64 x7.2.1),(.int .i64 x7.2.2)]),(.int .u32 seed_1)] (.one (.sc .bool)) h3 fun r8 h4=>
 Br (!r8)
 (R (.tuple #[(.pointer none),(.int .i64 (8:Int))]) h4)
 (∃x9:Int,cellOf h4 (a1.add 1)=some (.int .i64 x9)∧
 aK (σ:=Sl×Int) (fun s10 K2 h5=>
 Br (decide (s10.2<x9))
 (∃x11:Int,cellOf h5 (a1.add 2)=some (.int .i64 x11)∧
 av Tryz.prog (Instr.makeSlice 45 (.int .i64 x11) (.int .i64 x11)) (.one (.sc .slc)) h5 fun v12 h6=>
 av Tryz.prog (Instr.buildSlice 78 1 #[(0,(.slice v12.ptr v12.len v12.cap))]) (.one (.sc .slc)) h6 fun v13 h7=>
 av Tryz.prog (Builtin.append_ #[78,78] 78 #[(.slice s10.1.ptr s10.1.len s10.1.cap),(.slice v13.ptr v13.len v13.cap)]) (.one (.sc .slc)) h7 fun v14 h8=>
 K2 ((⟨v14.ptr,v14.len,v14.cap⟩:Sl),IntKind.wrap .i64 (s10.2+(1:Int))) h8)
 (∃x15:Int,cellOf h5 a1=some (.int .i64 x15)∧
 aK (σ:=Sl×Int) (fun s16 K3 h9=>
 Br (decide (s16.2<x15))
 (∃x17:Int,cellOf h9 (a1.add 2)=some (.int .i64 x17)∧
 ∃x18:Int,cellOf h9 (a1.add 2)=some (.int .i64 x18)∧
 (0≤(IntKind.wrap .i64 (s16.2*x17))∧(IntKind.wrap .i64 (s16.2*x17))≤(IntKind.wrap .i64 ((IntKind.wrap .i64 (s16.2+(1:Int)))*x18))∧(IntKind.wrap .i64 ((IntKind.wrap .i64 (s16.2+(1:Int)))*x18))≤((data_2.cap:Nat):Int))∧
 av Tryz.prog (Instr.buildSlice 78 1 #[(0,(.slice (if data_2.cap=(IntKind.wrap .i64 (s16.2*x17)).toNat then data_2.ptr else data_2.ptr.map (·.add ((IntKind.wrap .i64 (s16.2*x17)).toNat*1))) ((IntKind.wrap .i64 ((IntKind.wrap .i64 (s16.2+(1:Int)))*x18)).toNat-(IntKind.wrap .i64 (s16.2*x17)).toNat) (data_2.cap-(IntKind.wrap .i64 (s16.2*x17)).toNat)))]) (.one (.sc .slc)) h9 fun v19 h10=>
 av Tryz.prog (Builtin.append_ #[78,78] 78 #[(.slice s16.1.ptr s16.1.len s16.1.cap),(.slice v19.ptr v19.len v19.cap)]) (.one (.sc .slc)) h10 fun v20 h11=>
 K3 ((⟨v20.ptr,v20.len,v20.cap⟩:Sl),IntKind.wrap .i64 (s16.2+(1:Int))) h11)
 (aW (σ:=Sl×Int) (fun s27 h16=>
 Br (s27.2 !=(0:Int))
 (R (.tuple #[(.pointer none),(.int .i64 (8:Int))]) h16)
 (∃x28:Int×Int×Int,ai h16 a1 0 [(.int .i64 x28.1),(.int .i64 x28.2.1),(.int .i64 x28.2.2)]∧
 aM Tryz.prog (Instr.box 179 (.agg #[(.int .i64 x28.1),(.int .i64 x28.2.1),(.int .i64 x28.2.2),(.int .u32 seed_1),(.slice s27.1.ptr s27.1.len s27.1.cap)])) h16 fun a29 h17=>
 R (.tuple #[(.pointer (some a29)),(.int .i64 (0:Int))]) h17))
 (fun K4=>
 ∃x21:Int×Int×Int,ai h9 a1 0 [(.int .i64 x21.1),(.int .i64 x21.2.1),(.int .i64 x21.2.2)]∧
 ∃x22:Int×Int×Int,ai h9 a1 0 [(.int .i64 x22.1),(.int .i64 x22.2.1),(.int .i64 x22.2.2)]∧
 af Tryz.prog 129 #[] (.one (.sc .ptr)) h9 fun r23 h12=>
 (aw.ok [(a1,(.int .i64 x22.1)),(a1.add 1,(.int .i64 x22.2.1)),(a1.add 2,(.int .i64 x22.2.2)),(a1,(.int .i64 x21.1)),(a1.add 1,(.int .i64 x21.2.1)),(a1.add 2,(.int .i64 x21.2.2))] h12)∧
 af Tryz.prog 63 #[(.agg #[(.int .i64 x22.1),(.int .i64 x22.2.1),(.int .i64 x22.2.2)])] (.one (.sc .slc)) h12 fun r24 h13=>
 (aw.ok [(a1,(.int .i64 x21.1)),(a1.add 1,(.int .i64 x21.2.1)),(a1.add 2,(.int .i64 x21.2.2))] h13)∧
 af Tryz.prog 130 #[(.agg #[(.int .i64 x21.1),(.int .i64 x21.2.1),(.int .i64 x21.2.2)]),(.int .u32 seed_1),(.slice r24.ptr r24.len r24.cap)] (.one (.sc .slc)) h13 fun r25 h14=>
 (aw.ok [] h14)∧
 af Tryz.prog 128 #[(.pointer r23),(.slice r25.ptr r25.len r25.cap),(.slice s16.1.ptr s16.1.len s16.1.cap)] (.many [(.sc .slc),(.sc (.int .i64))]) h14 fun r26 h15=>
 (aw.ok [] h15)∧
 K4 ((⟨r26.1.ptr,r26.1.len,r26.1.cap⟩:Sl),r26.2) h15))) ((⟨s10.1.ptr,s10.1.len,s10.1.cap⟩:Sl),(0:Int)) h5)) ((⟨none,0,0⟩:Sl),(0:Int)) h4))
 (fun K1=>
 ∃x2:Int×Int×Int,ai h1 a1 0 [(.int .i64 x2.1),(.int .i64 x2.2.1),(.int .i64 x2.2.2)]∧
 af Tryz.prog 31 #[(.agg #[(.int .i64 x2.1),(.int .i64 x2.2.1),(.int .i64 x2.2.2)])] (.one (.sc .bool)) h1 fun r3 h2=>
 Br (!r3) (R (.tuple #[(.pointer none),(.int .i64 (1:Int))]) h2) (∃x4:Int,cellOf h2 a1=some (.int .i64 x4)∧
 ∃x5:Int,cellOf h2 (a1.add 2)=some (.int .i64 x5)∧
 Br (((data_2.len:Nat):Int) !=(IntKind.wrap .i64 (x4*x5)))
 (R (.tuple #[(.pointer none),(.int .i64 (1:Int))]) h2)
 (K1 () h2)))
theorem zM (p_0:Int×Int×Int) (seed_1:Int) (data_2:Sl) {R:Value→Heap→Prop} {h:Heap} (hm:tZ p_0 seed_1 data_2 R h):ab Tryz.prog 91 #[(.agg #[(.int .i64 p_0.1),(.int .i64 p_0.2.1),(.int .i64 p_0.2.2)]),(.int .u32 seed_1),(.slice data_2.ptr data_2.len data_2.cap)] h R:=al ag Tryz.func91 (.two .n (.two (.join [] [(6,8),(12,25)] .n) (.two .n (.two .n (.two (.two .n (.inn (.loop [(8,(.sc .slc)),(31,(.sc (.int .i64)))] [(8,9),(31,40)] .n))) (.two (.two .n (.inn (.loop [(8,(.sc .slc)),(42,(.sc (.int .i64)))] [(8,10),(42,60)] .n))) (.two (.join [(10,(.sc .slc)),(11,(.sc (.int .i64)))] [(10,12),(60,71)] .n) .n))))))) hm
abbrev zN:FuncId:=92
noncomputable def rS (object_0:Int) (block_1:Int) (live_2:Sl) (R:Value→Heap→Prop) (h:Heap):Prop:=
 aW (σ:=Unit) (fun _ h1=>
 ((64:Int)≠0)∧
 af Tryz.prog 131 #[(.int .i64 (Int.tmod (IntKind.wrap .i64 ((IntKind.wrap .i64 ((8:Int)*object_0))+block_1)) (64:Int)))] (.one (.sc (.cpx .f64))) h1 fun r2 h2=>
 aM Tryz.prog (Instr.alloc 171 true (.tuple #[])) h2 fun a3 h3=>
 aK (σ:=Sl×Int) (fun s4 K2 h4=>
 Br (decide (s4.2<((live_2.len:Nat):Int)))
 (∃a5:Addr,(live_2.ptr=some a5∧0≤s4.2∧s4.2<((live_2.len:Nat):Int))∧
 ∃x6:Int,cellOf h4 (a5.add (s4.2.toNat*1))=some (.int .i64 x6)∧
 aW (σ:=Bool) (fun s8 h5=>
 Br s8
 ((0≤x6∧x6<((64:Nat):Int))∧
 ae Tryz.prog (Instr.storeAt 4 (.pointer (some (a3.add (x6.toNat*1)))) (.bool true)) h5 fun _ h6=>
 af Tryz.prog 131 #[(.int .i64 x6)] (.one (.sc (.cpx .f64))) h6 fun r9 h7=>
 af Tryz.prog 132 #[(.complex .f64 r9.1 r9.2),(.complex .f64 r2.1 r2.2)] (.one (.sc (.flt .f64))) h7 fun r10 h8=>
 av Tryz.prog (Instr.buildSlice 182 1 #[(0,(.agg #[(.int .i64 x6),(.float .f64 r10)]))]) (.one (.sc .slc)) h8 fun v11 h9=>
 av Tryz.prog (Builtin.append_ #[182,182] 182 #[(.slice s4.1.ptr s4.1.len s4.1.cap),(.slice v11.ptr v11.len v11.cap)]) (.one (.sc .slc)) h9 fun v12 h10=>
 K2 ((⟨v12.ptr,v12.len,v12.cap⟩:Sl),IntKind.wrap .i64 (s4.2+(1:Int))) h10)
 (K2 ((⟨s4.1.ptr,s4.1.len,s4.1.cap⟩:Sl),IntKind.wrap .i64 (s4.2+(1:Int))) h5))
 (fun K3=>
 Br (decide (x6≥(0:Int))) (Br (decide (x6<(64:Int))) ((0≤x6∧x6<((64:Nat):Int))∧
 ∃x7:Bool,cellOf h4 (a3.add (x6.toNat*1))=some (.bool x7)∧
 K3 (!x7) h4) (K3 false h4)) (K3 false h4)))
 (af Tryz.prog 133 #[(.slice s4.1.ptr s4.1.len s4.1.cap),(.func (.func 134) #[] #[])] (.many []) h4 fun _ h11=>
 aK (σ:=Sl×Int) (fun s14 K4 h12=>
 Br (decide (s14.2<((s4.1.len:Nat):Int)))
 (∃a15:Addr,(s4.1.ptr=some a15∧0≤s14.2∧s14.2<((s4.1.len:Nat):Int))∧
 ∃x16:Int×Nat,ai h12 (a15.add (s14.2.toNat*2)) 0 [(.int .i64 x16.1),(.float .f64 x16.2)]∧
 aM Tryz.prog (Instr.alloc 186 true (.tuple #[])) h12 fun a17 h13=>
 ae Tryz.prog (Instr.storeAt 186 (.pointer (some a17)) (.agg #[(.int .i64 x16.1),(.float .f64 x16.2)])) h13 fun _ h14=>
 ∃x18:Int,cellOf h14 a17=some (.int .i64 x18)∧
 av Tryz.prog (Instr.buildSlice 24 1 #[(0,(.int .i64 x18))]) (.one (.sc .slc)) h14 fun v19 h15=>
 av Tryz.prog (Builtin.append_ #[24,24] 24 #[(.slice s14.1.ptr s14.1.len s14.1.cap),(.slice v19.ptr v19.len v19.cap)]) (.one (.sc .slc)) h15 fun v20 h16=>
 K4 ((⟨v20.ptr,v20.len,v20.cap⟩:Sl),IntKind.wrap .i64 (s14.2+(1:Int))) h16)
 (R (.slice s14.1.ptr s14.1.len s14.1.cap) h12)) ((⟨none,0,0⟩:Sl),(0:Int)) h11)) ((⟨none,0,0⟩:Sl),(0:Int)) h3)
 (fun K1=>
 Br (decide (object_0<(0:Int))) (R (.slice none 0 0) h) (Br (decide (object_0>(16777215:Int))) (R (.slice none 0 0) h) (Br (decide (block_1<(0:Int))) (R (.slice none 0 0) h) (Br (decide (block_1≥(8:Int)))
 (R (.slice none 0 0) h)
 (K1 () h)))))
theorem yc (object_0:Int) (block_1:Int) (live_2:Sl) {R:Value→Heap→Prop} {h:Heap} (hm:rS object_0 block_1 live_2 R h):ab Tryz.prog 92 #[(.int .i64 object_0),(.int .i64 block_1),(.slice live_2.ptr live_2.len live_2.cap)] h R:=al ag Tryz.func92 (.two .n (.two (.join [] [(6,7),(15,29)] .n) (.two .n (.two .n (.two .n (.two (.two .n (.inn (.loop [(8,(.sc .slc)),(37,(.sc (.int .i64)))] [(8,9),(11,12),(37,65)] (.two .n (.two .n (.two (.inn (.two .n (.two (.join [(52,(.sc .bool))] [(41,53)] .n) .n))) .n)))))) (.two .n (.two .n (.two (.two .n (.inn (.loop [(12,(.sc .slc)),(69,(.sc (.int .i64)))] [(12,13),(14,15),(69,79)] .n))) .n))))))))) hm
abbrev jS:FuncId:=93
noncomputable def kh (b_0:Option Addr) (id_1:Int) (R:Value→Heap→Prop) (h:Heap):Prop:=
 aW (σ:=Unit) (fun _ h1=>
 ∃a2:Addr,(b_0=some a2)∧
 ∃x3:Int,cellOf h1 (a2.add 2)=some (.int .i64 x3)∧
 av Tryz.prog (Instr.makeSlice 45 (.int .i64 x3) (.int .i64 x3)) (.one (.sc .slc)) h1 fun v4 h2=>
 ∃a5:Addr,(b_0=some a5)∧
 ∃x6:Int×Int×Int,ai h2 a5 0 [(.int .i64 x6.1),(.int .i64 x6.2.1),(.int .i64 x6.2.2)]∧
 ∃a7:Addr,(b_0=some a7)∧
 ∃x8:Int,cellOf h2 (a7.add 3)=some (.int .u32 x8)∧
 af Tryz.prog 138 #[(.agg #[(.int .i64 x6.1),(.int .i64 x6.2.1),(.int .i64 x6.2.2)]),(.int .u32 x8),(.int .i64 id_1)] (.one (.sc .slc)) h2 fun r9 h3=>
 (aw.ok [] h3)∧
 aK (σ:=Int) (fun s10 K2 h4=>
 Br (decide (s10<((r9.len:Nat):Int)))
 (∃a11:Addr,(r9.ptr=some a11∧0≤s10∧s10<((r9.len:Nat):Int))∧
 ∃x12:Int,cellOf h4 (a11.add (s10.toNat*1))=some (.int .i64 x12)∧
 ∃a13:Addr,(b_0=some a13)∧
 ∃x14:Sl,cellOf h4 (a13.add 4)=some (.slice x14.ptr x14.len x14.cap)∧
 ∃a15:Addr,(x14.ptr=some a15∧0≤x12∧x12<((x14.len:Nat):Int))∧
 ∃x16:Sl,cellOf h4 (a15.add (x12.toNat*1))=some (.slice x16.ptr x16.len x16.cap)∧
 aK (σ:=Int) (fun s17 K3 h5=>
 Br (decide (s17<((x16.len:Nat):Int)))
 (∃a18:Addr,(x16.ptr=some a18∧0≤s17∧s17<((x16.len:Nat):Int))∧
 ∃x19:Int,cellOf h5 (a18.add (s17.toNat*1))=some (.int .u8 x19)∧
 ∃a20:Addr,(v4.ptr=some a20∧0≤s17∧s17<((v4.len:Nat):Int))∧
 ∃x21:Int,cellOf h5 (a20.add (s17.toNat*1))=some (.int .u8 x21)∧
 ∃a22:Addr,(v4.ptr=some a22∧0≤s17∧s17<((v4.len:Nat):Int))∧
 ae Tryz.prog (Instr.storeAt 5 (.pointer (some (a22.add (s17.toNat*1)))) (.int .u8 (IntKind.wrap .u8 ((BitVec.ofInt (IntKind.bits .u8) x21^^^(BitVec.ofInt (IntKind.bits .u8) x19)).toNat:Nat)))) h5 fun _ h6=>
 K3 (IntKind.wrap .i64 (s17+(1:Int))) h6)
 (K2 (IntKind.wrap .i64 (s10+(1:Int))) h5)) (0:Int) h4)
 (R (.slice v4.ptr v4.len v4.cap) h4)) (0:Int) h3)
 (fun K1=>
 Br (Option.isNone b_0) (R (.slice none 0 0) h) (Br (decide (id_1<(0:Int))) (R (.slice none 0 0) h) (Br (decide (id_1>(65535:Int)))
 (R (.slice none 0 0) h)
 (K1 () h))))
theorem og (b_0:Option Addr) (id_1:Int) {R:Value→Heap→Prop} {h:Heap} (hm:kh b_0 id_1 R h):ab Tryz.prog 93 #[(.pointer b_0),(.int .i64 id_1)] h R:=al ag Tryz.func93 (.two .n (.two (.join [] [(4,5),(10,20)] .n) (.two .n (.two (.two .n (.inn (.loop [(37,(.sc (.int .i64)))] [(7,10),(37,63)] (.two .n (.two .n (.two (.inn (.two .n (.two .n (.inn (.loop [(49,(.sc (.int .i64)))] [(8,10),(49,62)] .n))))) .n)))))) .n)))) hm
abbrev Ev:FuncId:=94
noncomputable def yd (order_0:Sl) (id_1:Int) (R:Value→Heap→Prop) (h:Heap):Prop:=
 aW (σ:=Unit) (fun _ h1=>
 (((order_0.len:Nat):Int)≠0)∧
 ∃a2:Addr,(order_0.ptr=some a2∧0≤(Int.tmod id_1 ((order_0.len:Nat):Int))∧(Int.tmod id_1 ((order_0.len:Nat):Int))<((order_0.len:Nat):Int))∧
 ∃x3:Int,cellOf h1 (a2.add ((Int.tmod id_1 ((order_0.len:Nat):Int)).toNat*1))=some (.int .i64 x3)∧
 R (.int .i64 x3) h1)
 (fun K1=>
 Br (((order_0.len:Nat):Int)==(0:Int)) (R (.int .i64 (-1:Int)) h) (Br (decide (id_1<(0:Int)))
 (R (.int .i64 (-1:Int)) h)
 (K1 () h)))
theorem C3 (order_0:Sl) (id_1:Int) {R:Value→Heap→Prop} {h:Heap} (hm:yd order_0 id_1 R h):ab Tryz.prog 94 #[(.slice order_0.ptr order_0.len order_0.cap),(.int .i64 id_1)] h R:=al ag Tryz.func94 (.two .n (.two (.join [] [(4,12)] .n) .n)) hm
abbrev Bv:FuncId:=95
noncomputable def ua (r_0:Int×Int×Int×Int×Int×Int×Int×Sl) (R:Value→Heap→Prop) (h:Heap):Prop:=
 aM Tryz.prog (Instr.box 149 (.agg #[(.int .i64 r_0.1),(.int .i64 r_0.2.1),(.int .i64 r_0.2.2.1),(.int .i64 r_0.2.2.2.1),(.int .i64 r_0.2.2.2.2.1),(.int .i64 r_0.2.2.2.2.2.1),(.int .u32 r_0.2.2.2.2.2.2.1),(.slice r_0.2.2.2.2.2.2.2.ptr r_0.2.2.2.2.2.2.2.len r_0.2.2.2.2.2.2.2.cap)])) h fun a1 h1=>
 ∃x2:Int×Int×Int×Int×Int×Int×Int×Sl,ai h1 a1 0 [(.int .i64 x2.1),(.int .i64 x2.2.1),(.int .i64 x2.2.2.1),(.int .i64 x2.2.2.2.1),(.int .i64 x2.2.2.2.2.1),(.int .i64 x2.2.2.2.2.2.1),(.int .u32 x2.2.2.2.2.2.2.1),(.slice x2.2.2.2.2.2.2.2.ptr x2.2.2.2.2.2.2.2.len x2.2.2.2.2.2.2.2.cap)]∧
 af Tryz.prog 139 #[(.agg #[(.int .i64 x2.1),(.int .i64 x2.2.1),(.int .i64 x2.2.2.1),(.int .i64 x2.2.2.2.1),(.int .i64 x2.2.2.2.2.1),(.int .i64 x2.2.2.2.2.2.1),(.int .u32 x2.2.2.2.2.2.2.1),(.slice x2.2.2.2.2.2.2.2.ptr x2.2.2.2.2.2.2.2.len x2.2.2.2.2.2.2.2.cap)])] (.one (.sc .bool)) h1 fun r3 h2=>
 Br (!r3)
 (R (.slice none 0 0) h2)
 (∃x4:Int,cellOf h2 a1=some (.int .i64 x4)∧
 af Tryz.prog 140 #[(.slice none 0 0),(.int .i64 x4),(.int .i64 (3:Int))] (.one (.sc .slc)) h2 fun r5 h3=>
 ∃x6:Int,cellOf h3 (a1.add 1)=some (.int .i64 x6)∧
 af Tryz.prog 140 #[(.slice r5.ptr r5.len r5.cap),(.int .i64 x6),(.int .i64 (1:Int))] (.one (.sc .slc)) h3 fun r7 h4=>
 ∃x8:Int,cellOf h4 (a1.add 2)=some (.int .i64 x8)∧
 af Tryz.prog 140 #[(.slice r7.ptr r7.len r7.cap),(.int .i64 x8),(.int .i64 (2:Int))] (.one (.sc .slc)) h4 fun r9 h5=>
 ∃x10:Int,cellOf h5 (a1.add 3)=some (.int .i64 x10)∧
 ∃x11:Int,cellOf h5 ((a1.add 3).add 1)=some (.int .i64 x11)∧
 ∃x12:Int,cellOf h5 ((a1.add 3).add 2)=some (.int .i64 x12)∧
 av Tryz.prog (Instr.buildSlice 45 3 #[(0,(.int .u8 (IntKind.wrap .u8 x10))),(1,(.int .u8 (IntKind.wrap .u8 x11))),(2,(.int .u8 (IntKind.wrap .u8 x12)))]) (.one (.sc .slc)) h5 fun v13 h6=>
 av Tryz.prog (Builtin.append_ #[45,45] 45 #[(.slice r9.ptr r9.len r9.cap),(.slice v13.ptr v13.len v13.cap)]) (.one (.sc .slc)) h6 fun v14 h7=>
 ∃x15:Int,cellOf h7 (a1.add 6)=some (.int .u32 x15)∧
 af Tryz.prog 140 #[(.slice v14.ptr v14.len v14.cap),(.int .i64 (IntKind.wrap .i64 x15)),(.int .i64 (4:Int))] (.one (.sc .slc)) h7 fun r16 h8=>
 ∃x17:Sl,cellOf h8 (a1.add 7)=some (.slice x17.ptr x17.len x17.cap)∧
 av Tryz.prog (Builtin.append_ #[45,45] 45 #[(.slice r16.ptr r16.len r16.cap),(.slice x17.ptr x17.len x17.cap)]) (.one (.sc .slc)) h8 fun v18 h9=>
 af Tryz.prog 114 #[(.int .i64 (1:Int)),(.slice v18.ptr v18.len v18.cap)] (.one (.sc .slc)) h9 fun r19 h10=>
 R (.slice r19.ptr r19.len r19.cap) h10)
theorem zO (r_0:Int×Int×Int×Int×Int×Int×Int×Sl) {R:Value→Heap→Prop} {h:Heap} (hm:ua r_0 R h):ab Tryz.prog 95 #[(.agg #[(.int .i64 r_0.1),(.int .i64 r_0.2.1),(.int .i64 r_0.2.2.1),(.int .i64 r_0.2.2.2.1),(.int .i64 r_0.2.2.2.2.1),(.int .i64 r_0.2.2.2.2.2.1),(.int .u32 r_0.2.2.2.2.2.2.1),(.slice r_0.2.2.2.2.2.2.2.ptr r_0.2.2.2.2.2.2.2.len r_0.2.2.2.2.2.2.2.cap)])] h R:=al ag Tryz.func95 .n hm
abbrev iJ:FuncId:=96
noncomputable def eW (x_0:Sl) (cmp_1:FuncId×Array Value×Array Value) (R:Value→Heap→Prop) (h:Heap):Prop:=
 af Tryz.prog 142 #[(.int .u64 (IntKind.wrap .u64 ((x_0.len:Nat):Int)))] (.one (.sc (.int .i64))) h fun r1 h1=>
 af Tryz.prog 141 #[(.slice x_0.ptr x_0.len x_0.cap),(.int .i64 (0:Int)),(.int .i64 ((x_0.len:Nat):Int)),(.int .i64 r1),(.func (.func cmp_1.1) cmp_1.2.1 cmp_1.2.2)] (.many []) h1 fun _ h2=>
 R (.tuple #[]) h2
theorem iA (x_0:Sl) (cmp_1:FuncId×Array Value×Array Value) {R:Value→Heap→Prop} {h:Heap} (hm:eW x_0 cmp_1 R h):ab Tryz.prog 96 #[(.slice x_0.ptr x_0.len x_0.cap),(.func (.func cmp_1.1) cmp_1.2.1 cmp_1.2.2)] h R:=al ag Tryz.func96 .n hm
abbrev dU:FuncId:=97
noncomputable def pU (a_0:ByteArray×Int×Int×Sl) (b_1:ByteArray×Int×Int×Sl) (R:Value→Heap→Prop) (h:Heap):Prop:=
 aM Tryz.prog (Instr.box 54 (.agg #[(.string a_0.1),(.int .i64 a_0.2.1),(.int .i64 a_0.2.2.1),(.slice a_0.2.2.2.ptr a_0.2.2.2.len a_0.2.2.2.cap)])) h fun a1 h1=>
 aM Tryz.prog (Instr.box 54 (.agg #[(.string b_1.1),(.int .i64 b_1.2.1),(.int .i64 b_1.2.2.1),(.slice b_1.2.2.2.ptr b_1.2.2.2.len b_1.2.2.2.cap)])) h1 fun a2 h2=>
 ∃x3:ByteArray,cellOf h2 a1=some (.string x3)∧
 ∃x4:ByteArray,cellOf h2 a2=some (.string x4)∧
 af Tryz.prog 98 #[(.string x3),(.string x4)] (.one (.sc (.int .i64))) h2 fun r5 h3=>
 R (.int .i64 r5) h3
theorem wN (a_0:ByteArray×Int×Int×Sl) (b_1:ByteArray×Int×Int×Sl) {R:Value→Heap→Prop} {h:Heap} (hm:pU a_0 b_1 R h):ab Tryz.prog 97 #[(.agg #[(.string a_0.1),(.int .i64 a_0.2.1),(.int .i64 a_0.2.2.1),(.slice a_0.2.2.2.ptr a_0.2.2.2.len a_0.2.2.2.cap)]),(.agg #[(.string b_1.1),(.int .i64 b_1.2.1),(.int .i64 b_1.2.2.1),(.slice b_1.2.2.2.ptr b_1.2.2.2.len b_1.2.2.2.cap)])] h R:=al ag Tryz.func97 .n hm
abbrev pV:FuncId:=98
noncomputable def kB (x_0:ByteArray) (y_1:ByteArray) (R:Value→Heap→Prop) (h:Heap):Prop:=
 af Tryz.prog 143 #[(.string x_0)] (.one (.sc .bool)) h fun r1 h1=>
 af Tryz.prog 143 #[(.string y_1)] (.one (.sc .bool)) h1 fun r2 h2=>
 Br r1
 (Br r2
 (R (.int .i64 (0:Int)) h2)
 (R (.int .i64 (-1:Int)) h2))
 (Br r2
 (R (.int .i64 (1:Int)) h2)
 (Br (Op.bytesLess x_0.toList y_1.toList)
 (R (.int .i64 (-1:Int)) h2)
 (Br (!(Op.bytesLess x_0.toList y_1.toList||x_0.toList==y_1.toList))
 (R (.int .i64 (1:Int)) h2)
 (R (.int .i64 (0:Int)) h2))))
theorem o9 (x_0:ByteArray) (y_1:ByteArray) {R:Value→Heap→Prop} {h:Heap} (hm:kB x_0 y_1 R h):ab Tryz.prog 98 #[(.string x_0),(.string y_1)] h R:=al ag Tryz.func98 .n hm
abbrev gn:FuncId:=99
noncomputable def eC (s_0:Sl) (f_1:FuncId×Array Value×Array Value) (R:Value→Heap→Prop) (h:Heap):Prop:=
 af Tryz.prog 144 #[(.slice s_0.ptr s_0.len s_0.cap),(.func (.func f_1.1) f_1.2.1 f_1.2.2)] (.one (.sc (.int .i64))) h fun r1 h1=>
 R (.bool (decide (r1≥(0:Int)))) h1
theorem gd (s_0:Sl) (f_1:FuncId×Array Value×Array Value) {R:Value→Heap→Prop} {h:Heap} (hm:eC s_0 f_1 R h):ab Tryz.prog 99 #[(.slice s_0.ptr s_0.len s_0.cap),(.func (.func f_1.1) f_1.2.1 f_1.2.2)] h R:=al ag Tryz.func99 .n hm
abbrev pW:FuncId:=100
noncomputable def kC (k_0:Int) (cap_1:Addr) (cap_2:Addr) (R:Value→Heap→Prop) (h:Heap):Prop:=
 ∃x1:Option Addr,cellOf h cap_1=some (.pointer x1)∧
 ∃a2:Addr,(x1=some a2)∧
 (0≤k_0∧k_0<((64:Nat):Int))∧
 ∃x3:Option Addr,cellOf h ((a2.add 10).add (k_0.toNat*1))=some (.pointer x3)∧
 ∃x4:Option Addr,cellOf h cap_1=some (.pointer x4)∧
 ∃a5:Addr,(x4=some a5)∧
 ∃x6:Int×Int×Int×Int×Int×Int×Sl×Sl,ai h a5 0 [(.int .i64 x6.1),(.int .i64 x6.2.1),(.int .i64 x6.2.2.1),(.int .i64 x6.2.2.2.1),(.int .i64 x6.2.2.2.2.1),(.int .i64 x6.2.2.2.2.2.1),(.slice x6.2.2.2.2.2.2.1.ptr x6.2.2.2.2.2.2.1.len x6.2.2.2.2.2.2.1.cap),(.slice x6.2.2.2.2.2.2.2.ptr x6.2.2.2.2.2.2.2.len x6.2.2.2.2.2.2.2.cap)]∧
 ∃x7:FuncId×Array Value×Array Value,cellOf h cap_2=some (.func (.func x7.1) x7.2.1 x7.2.2)∧
 gv C x7.1 (x7.2.1.toList++[(.int .i64 k_0)]++x7.2.2.toList) (.one (.sc (.int .i64))) h fun r8 h1=>
 (aw.ok [(a5,(.int .i64 x6.1)),(a5.add 1,(.int .i64 x6.2.1)),(a5.add 2,(.int .i64 x6.2.2.1)),(a5.add 3,(.int .i64 x6.2.2.2.1)),(a5.add 4,(.int .i64 x6.2.2.2.2.1)),(a5.add 5,(.int .i64 x6.2.2.2.2.2.1)),(a5.add 6,(.slice x6.2.2.2.2.2.2.1.ptr x6.2.2.2.2.2.2.1.len x6.2.2.2.2.2.2.1.cap)),(a5.add 7,(.slice x6.2.2.2.2.2.2.2.ptr x6.2.2.2.2.2.2.2.len x6.2.2.2.2.2.2.2.cap)),(cap_1,(.pointer x4)),((a2.add 10).add (k_0.toNat*1),(.pointer x3)),(cap_1,(.pointer x1))] h1)∧
 af Tryz.prog 101 #[(.pointer x3),(.agg #[(.int .i64 x6.1),(.int .i64 x6.2.1),(.int .i64 x6.2.2.1),(.int .i64 x6.2.2.2.1),(.int .i64 x6.2.2.2.2.1),(.int .i64 x6.2.2.2.2.2.1),(.slice x6.2.2.2.2.2.2.1.ptr x6.2.2.2.2.2.2.1.len x6.2.2.2.2.2.2.1.cap),(.slice x6.2.2.2.2.2.2.2.ptr x6.2.2.2.2.2.2.2.len x6.2.2.2.2.2.2.2.cap)]),(.int .i64 r8)] (.one (.sc .bool)) h1 fun r9 h2=>
 (aw.ok [(cap_1,(.pointer x4)),(cap_1,(.pointer x1))] h2)∧
 R (.bool (!r9)) h2
theorem pc (k_0:Int) (cap_1:Addr) (cap_2:Addr) {R:Value→Heap→Prop} {h:Heap} (hm:kC k_0 cap_1 cap_2 R h):ab Tryz.prog 100 #[(.int .i64 k_0),(.pointer (some cap_1)),(.pointer (some cap_2))] h R:=al ag Tryz.func100 .n hm
abbrev ub:FuncId:=101
noncomputable def pd (d_0:Option Addr) (m_1:Int×Int×Int×Int×Int×Int×Sl×Sl) (n_2:Int) (R:Value→Heap→Prop) (h:Heap):Prop:=
 aM Tryz.prog (Instr.box 50 (.agg #[(.int .i64 m_1.1),(.int .i64 m_1.2.1),(.int .i64 m_1.2.2.1),(.int .i64 m_1.2.2.2.1),(.int .i64 m_1.2.2.2.2.1),(.int .i64 m_1.2.2.2.2.2.1),(.slice m_1.2.2.2.2.2.2.1.ptr m_1.2.2.2.2.2.2.1.len m_1.2.2.2.2.2.2.1.cap),(.slice m_1.2.2.2.2.2.2.2.ptr m_1.2.2.2.2.2.2.2.len m_1.2.2.2.2.2.2.2.cap)])) h fun a1 h1=>
 aW (σ:=Unit) (fun _ h3=>
 af Tryz.prog 82 #[(.pointer d_0)] (.one (.sc (.int .i64))) h3 fun r4 h4=>
 af Tryz.prog 145 #[(.pointer d_0),(.int .i64 r4),(.int .i64 n_2)] (.one (.sc .bool)) h4 fun r5 h5=>
 Br r5 (R (.bool true) h5) (∃x6:Int×Int×Int×Int×Int×Int×Sl×Sl,ai h5 a1 0 [(.int .i64 x6.1),(.int .i64 x6.2.1),(.int .i64 x6.2.2.1),(.int .i64 x6.2.2.2.1),(.int .i64 x6.2.2.2.2.1),(.int .i64 x6.2.2.2.2.2.1),(.slice x6.2.2.2.2.2.2.1.ptr x6.2.2.2.2.2.2.1.len x6.2.2.2.2.2.2.1.cap),(.slice x6.2.2.2.2.2.2.2.ptr x6.2.2.2.2.2.2.2.len x6.2.2.2.2.2.2.2.cap)]∧
 af Tryz.prog 146 #[(.pointer d_0),(.agg #[(.int .i64 x6.1),(.int .i64 x6.2.1),(.int .i64 x6.2.2.1),(.int .i64 x6.2.2.2.1),(.int .i64 x6.2.2.2.2.1),(.int .i64 x6.2.2.2.2.2.1),(.slice x6.2.2.2.2.2.2.1.ptr x6.2.2.2.2.2.2.1.len x6.2.2.2.2.2.2.1.cap),(.slice x6.2.2.2.2.2.2.2.ptr x6.2.2.2.2.2.2.2.len x6.2.2.2.2.2.2.2.cap)])] (.one (.sc .slc)) h5 fun r7 h6=>
 af Tryz.prog 145 #[(.pointer d_0),(.int .i64 ((r7.len:Nat):Int)),(.int .i64 n_2)] (.one (.sc .bool)) h6 fun r8 h7=>
 R (.bool r8) h7))
 (fun K1=>
 Br (Option.isNone d_0) (R (.bool false) h1) (af Tryz.prog 85 #[(.pointer d_0)] (.one (.sc .bool)) h1 fun r2 h2=>
 Br r2
 (R (.bool false) h2)
 (K1 () h2)))
theorem rT (d_0:Option Addr) (m_1:Int×Int×Int×Int×Int×Int×Sl×Sl) (n_2:Int) {R:Value→Heap→Prop} {h:Heap} (hm:pd d_0 m_1 n_2 R h):ab Tryz.prog 101 #[(.pointer d_0),(.agg #[(.int .i64 m_1.1),(.int .i64 m_1.2.1),(.int .i64 m_1.2.2.1),(.int .i64 m_1.2.2.2.1),(.int .i64 m_1.2.2.2.2.1),(.int .i64 m_1.2.2.2.2.2.1),(.slice m_1.2.2.2.2.2.2.1.ptr m_1.2.2.2.2.2.2.1.len m_1.2.2.2.2.2.2.1.cap),(.slice m_1.2.2.2.2.2.2.2.ptr m_1.2.2.2.2.2.2.2.len m_1.2.2.2.2.2.2.2.cap)]),(.int .i64 n_2)] h R:=al ag Tryz.func101 (.two .n (.two (.join [] [(6,13)] .n) .n)) hm
abbrev uc:FuncId:=102
noncomputable def pe (d_0:Option Addr) (m_1:Int×Int×Int×Int×Int×Int×Sl×Sl) (n_2:Int) (R:Value→Heap→Prop) (h:Heap):Prop:=
 aM Tryz.prog (Instr.box 50 (.agg #[(.int .i64 m_1.1),(.int .i64 m_1.2.1),(.int .i64 m_1.2.2.1),(.int .i64 m_1.2.2.2.1),(.int .i64 m_1.2.2.2.2.1),(.int .i64 m_1.2.2.2.2.2.1),(.slice m_1.2.2.2.2.2.2.1.ptr m_1.2.2.2.2.2.2.1.len m_1.2.2.2.2.2.2.1.cap),(.slice m_1.2.2.2.2.2.2.2.ptr m_1.2.2.2.2.2.2.2.len m_1.2.2.2.2.2.2.2.cap)])) h fun a1 h1=>
 aW (σ:=Unit) (fun _ h7=>
 ∃x9:Int×Int×Int×Int×Int×Int×Sl×Sl,ai h7 a1 0 [(.int .i64 x9.1),(.int .i64 x9.2.1),(.int .i64 x9.2.2.1),(.int .i64 x9.2.2.2.1),(.int .i64 x9.2.2.2.2.1),(.int .i64 x9.2.2.2.2.2.1),(.slice x9.2.2.2.2.2.2.1.ptr x9.2.2.2.2.2.2.1.len x9.2.2.2.2.2.2.1.cap),(.slice x9.2.2.2.2.2.2.2.ptr x9.2.2.2.2.2.2.2.len x9.2.2.2.2.2.2.2.cap)]∧
 af Tryz.prog 146 #[(.pointer d_0),(.agg #[(.int .i64 x9.1),(.int .i64 x9.2.1),(.int .i64 x9.2.2.1),(.int .i64 x9.2.2.2.1),(.int .i64 x9.2.2.2.2.1),(.int .i64 x9.2.2.2.2.2.1),(.slice x9.2.2.2.2.2.2.1.ptr x9.2.2.2.2.2.2.1.len x9.2.2.2.2.2.2.1.cap),(.slice x9.2.2.2.2.2.2.2.ptr x9.2.2.2.2.2.2.2.len x9.2.2.2.2.2.2.2.cap)])] (.one (.sc .slc)) h7 fun r10 h8=>
 af Tryz.prog 147 #[(.pointer d_0),(.slice r10.ptr r10.len r10.cap)] (.one (.sc (.int .i64))) h8 fun r11 h9=>
 R (.int .i64 r11) h9)
 (fun K1=>
 aW (σ:=Bool) (fun s3 h3=>
 Br s3
 (R (.int .i64 (5:Int)) h3)
 (∃x4:Int×Int×Int×Int×Int×Int×Sl×Sl,ai h3 a1 0 [(.int .i64 x4.1),(.int .i64 x4.2.1),(.int .i64 x4.2.2.1),(.int .i64 x4.2.2.2.1),(.int .i64 x4.2.2.2.2.1),(.int .i64 x4.2.2.2.2.2.1),(.slice x4.2.2.2.2.2.2.1.ptr x4.2.2.2.2.2.2.1.len x4.2.2.2.2.2.2.1.cap),(.slice x4.2.2.2.2.2.2.2.ptr x4.2.2.2.2.2.2.2.len x4.2.2.2.2.2.2.2.cap)]∧
 af Tryz.prog 101 #[(.pointer d_0),(.agg #[(.int .i64 x4.1),(.int .i64 x4.2.1),(.int .i64 x4.2.2.1),(.int .i64 x4.2.2.2.1),(.int .i64 x4.2.2.2.2.1),(.int .i64 x4.2.2.2.2.2.1),(.slice x4.2.2.2.2.2.2.1.ptr x4.2.2.2.2.2.2.1.len x4.2.2.2.2.2.2.1.cap),(.slice x4.2.2.2.2.2.2.2.ptr x4.2.2.2.2.2.2.2.len x4.2.2.2.2.2.2.2.cap)]),(.int .i64 n_2)] (.one (.sc .bool)) h3 fun r5 h4=>
 Br (!r5)
 (R (.int .i64 (7:Int)) h4)
 (af Tryz.prog 82 #[(.pointer d_0)] (.one (.sc (.int .i64))) h4 fun r6 h5=>
 af Tryz.prog 145 #[(.pointer d_0),(.int .i64 r6),(.int .i64 n_2)] (.one (.sc .bool)) h5 fun r7 h6=>
 Br r7
 (R (.int .i64 (0:Int)) h6)
 (K1 () h6))))
 (fun K2=>
 Br (Option.isNone d_0) (K2 true h1) (af Tryz.prog 85 #[(.pointer d_0)] (.one (.sc .bool)) h1 fun r2 h2=>
 K2 r2 h2)))
theorem rU (d_0:Option Addr) (m_1:Int×Int×Int×Int×Int×Int×Sl×Sl) (n_2:Int) {R:Value→Heap→Prop} {h:Heap} (hm:pe d_0 m_1 n_2 R h):ab Tryz.prog 102 #[(.pointer d_0),(.agg #[(.int .i64 m_1.1),(.int .i64 m_1.2.1),(.int .i64 m_1.2.2.1),(.int .i64 m_1.2.2.2.1),(.int .i64 m_1.2.2.2.2.1),(.int .i64 m_1.2.2.2.2.2.1),(.slice m_1.2.2.2.2.2.2.1.ptr m_1.2.2.2.2.2.2.1.len m_1.2.2.2.2.2.2.1.cap),(.slice m_1.2.2.2.2.2.2.2.ptr m_1.2.2.2.2.2.2.2.len m_1.2.2.2.2.2.2.2.cap)]),(.int .i64 n_2)] h R:=al ag Tryz.func102 (.two .n (.two (.join [] [(6,26)] (.inn (.two (.join [(7,(.sc .bool))] [(7,14)] .n) .n))) .n)) hm
abbrev oh:FuncId:=103
noncomputable def jT (s_0:Sl) (R:Value→Heap→Prop) (h:Heap):Prop:=
 Br (Option.isNone s_0.ptr)
 (R (.slice none 0 0) h)
 (av Tryz.prog (Instr.buildSlice 24 0 #[]) (.one (.sc .slc)) h fun v1 h1=>
 av Tryz.prog (Builtin.append_ #[24,24] 24 #[(.slice v1.ptr v1.len v1.cap),(.slice s_0.ptr s_0.len s_0.cap)]) (.one (.sc .slc)) h1 fun v2 h2=>
 R (.slice v2.ptr v2.len v2.cap) h2)
theorem nG (s_0:Sl) {R:Value→Heap→Prop} {h:Heap} (hm:jT s_0 R h):ab Tryz.prog 103 #[(.slice s_0.ptr s_0.len s_0.cap)] h R:=al ag Tryz.func103 .n hm
abbrev jo:FuncId:=104
noncomputable def fy (s_0:Sl) (R:Value→Heap→Prop) (h:Heap):Prop:=
 Br (Option.isNone s_0.ptr)
 (R (.slice none 0 0) h)
 (av Tryz.prog (Instr.buildSlice 48 0 #[]) (.one (.sc .slc)) h fun v1 h1=>
 av Tryz.prog (Builtin.append_ #[48,48] 48 #[(.slice v1.ptr v1.len v1.cap),(.slice s_0.ptr s_0.len s_0.cap)]) (.one (.sc .slc)) h1 fun v2 h2=>
 R (.slice v2.ptr v2.len v2.cap) h2)
theorem jb (s_0:Sl) {R:Value→Heap→Prop} {h:Heap} (hm:fy s_0 R h):ab Tryz.prog 104 #[(.slice s_0.ptr s_0.len s_0.cap)] h R:=al ag Tryz.func104 .n hm
abbrev kD:FuncId:=105
noncomputable def pX (n_0:Int) (R:Value→Heap→Prop) (h:Heap):Prop:=
 af Tryz.prog 57 #[(.int .i64 n_0),(.int .i64 (0:Int)),(.int .i64 (15:Int))] (.one (.sc .bool)) h fun r1 h1=>
 R (.bool (!r1)) h1
theorem wO (n_0:Int) {R:Value→Heap→Prop} {h:Heap} (hm:pX n_0 R h):ab Tryz.prog 105 #[(.int .i64 n_0)] h R:=al ag Tryz.func105 .n hm
abbrev iB:FuncId:=106
noncomputable def dh (s_0:Sl) (f_1:FuncId×Array Value×Array Value) (R:Value→Heap→Prop) (h:Heap):Prop:=
 aK (σ:=Int) (fun s1 K1 h1=>
 Br (decide (s1<((s_0.len:Nat):Int)))
 (∃a2:Addr,(s_0.ptr=some a2∧0≤s1∧s1<((s_0.len:Nat):Int))∧
 ∃x3:ByteArray×Int×Int×Sl,ai h1 (a2.add (s1.toNat*4)) 0 [(.string x3.1),(.int .i64 x3.2.1),(.int .i64 x3.2.2.1),(.slice x3.2.2.2.ptr x3.2.2.2.len x3.2.2.2.cap)]∧
 gv C f_1.1 (f_1.2.1.toList++[(.agg #[(.string x3.1),(.int .i64 x3.2.1),(.int .i64 x3.2.2.1),(.slice x3.2.2.2.ptr x3.2.2.2.len x3.2.2.2.cap)])]++f_1.2.2.toList) (.one (.sc .bool)) h1 fun r4 h2=>
 Br r4
 (R (.int .i64 s1) h2)
 (K1 (IntKind.wrap .i64 (s1+(1:Int))) h2))
 (R (.int .i64 (-1:Int)) h1)) (0:Int) h
theorem dV (s_0:Sl) (f_1:FuncId×Array Value×Array Value) {R:Value→Heap→Prop} {h:Heap} (hm:dh s_0 f_1 R h):ab Tryz.prog 106 #[(.slice s_0.ptr s_0.len s_0.cap),(.func (.func f_1.1) f_1.2.1 f_1.2.2)] h R:=al ag Tryz.func106 (.two .n (.two (.two .n (.inn (.loop [(8,(.sc (.int .i64)))] [(4,6),(8,19)] .n))) .n)) hm
abbrev zP:FuncId:=107
noncomputable def rV (p_0:Int×Int×Int) (seed_1:Int) (ids_2:Sl) (R:Value→Heap→Prop) (h:Heap):Prop:=
 aM Tryz.prog (Instr.box 23 (.agg #[(.int .i64 p_0.1),(.int .i64 p_0.2.1),(.int .i64 p_0.2.2)])) h fun a1 h1=>
 ∃x2:Int×Int×Int,ai h1 a1 0 [(.int .i64 x2.1),(.int .i64 x2.2.1),(.int .i64 x2.2.2)]∧
 af Tryz.prog 129 #[] (.one (.sc .ptr)) h1 fun r3 h2=>
 (aw.ok [(a1,(.int .i64 x2.1)),(a1.add 1,(.int .i64 x2.2.1)),(a1.add 2,(.int .i64 x2.2.2))] h2)∧
 af Tryz.prog 130 #[(.agg #[(.int .i64 x2.1),(.int .i64 x2.2.1),(.int .i64 x2.2.2)]),(.int .u32 seed_1),(.slice ids_2.ptr ids_2.len ids_2.cap)] (.one (.sc .slc)) h2 fun r4 h3=>
 (aw.ok [] h3)∧
 af Tryz.prog 148 #[(.pointer r3),(.slice r4.ptr r4.len r4.cap)] (.one (.sc (.int .i64))) h3 fun r5 h4=>
 (aw.ok [] h4)∧
 R (.int .i64 r5) h4
theorem ye (p_0:Int×Int×Int) (seed_1:Int) (ids_2:Sl) {R:Value→Heap→Prop} {h:Heap} (hm:rV p_0 seed_1 ids_2 R h):ab Tryz.prog 107 #[(.agg #[(.int .i64 p_0.1),(.int .i64 p_0.2.1),(.int .i64 p_0.2.2)]),(.int .u32 seed_1),(.slice ids_2.ptr ids_2.len ids_2.cap)] h R:=al ag Tryz.func107 .n hm
abbrev Ew:FuncId:=108
noncomputable def yf (p_0:Int×Int×Int) (R:Value→Heap→Prop) (h:Heap):Prop:=
 aM Tryz.prog (Instr.box 23 (.agg #[(.int .i64 p_0.1),(.int .i64 p_0.2.1),(.int .i64 p_0.2.2)])) h fun a1 h1=>
 ∃x2:Int×Int×Int,ai h1 a1 0 [(.int .i64 x2.1),(.int .i64 x2.2.1),(.int .i64 x2.2.2)]∧
 af Tryz.prog 31 #[(.agg #[(.int .i64 x2.1),(.int .i64 x2.2.1),(.int .i64 x2.2.2)])] (.one (.sc .bool)) h1 fun r3 h2=>
 Br (!r3)
 (R (.int .i64 (0:Int)) h2)
 (∃x4:Int,cellOf h2 a1=some (.int .i64 x4)∧
 ∃x5:Int,cellOf h2 (a1.add 1)=some (.int .i64 x5)∧
 R (.int .i64 (IntKind.wrap .i64 (x4+x5))) h2)
theorem C4 (p_0:Int×Int×Int) {R:Value→Heap→Prop} {h:Heap} (hm:yf p_0 R h):ab Tryz.prog 108 #[(.agg #[(.int .i64 p_0.1),(.int .i64 p_0.2.1),(.int .i64 p_0.2.2)])] h R:=al ag Tryz.func108 .n hm
abbrev yg:FuncId:=109
noncomputable def pY (d_0:Option Addr) (m_1:Int×Int×Int×Int×Int×Int×Sl×Sl) (R:Value→Heap→Prop) (h:Heap):Prop:=
 aM Tryz.prog (Instr.box 50 (.agg #[(.int .i64 m_1.1),(.int .i64 m_1.2.1),(.int .i64 m_1.2.2.1),(.int .i64 m_1.2.2.2.1),(.int .i64 m_1.2.2.2.2.1),(.int .i64 m_1.2.2.2.2.2.1),(.slice m_1.2.2.2.2.2.2.1.ptr m_1.2.2.2.2.2.2.1.len m_1.2.2.2.2.2.2.1.cap),(.slice m_1.2.2.2.2.2.2.2.ptr m_1.2.2.2.2.2.2.2.len m_1.2.2.2.2.2.2.2.cap)])) h fun a1 h1=>
 af Tryz.prog 66 #[(.pointer d_0)] (.one (.sc .slc)) h1 fun r2 h2=>
 aK (σ:=Sl×Int) (fun s3 K1 h3=>
 Br (decide ((IntKind.wrap .i64 (s3.2+(1:Int)))≥((r2.len:Nat):Int)))
 (af Tryz.prog 151 #[(.slice s3.1.ptr s3.1.len s3.1.cap),(.func (.func 152) #[] #[])] (.many []) h3 fun _ h4=>
 af Tryz.prog 153 #[(.slice s3.1.ptr s3.1.len s3.1.cap),(.func (.func 154) #[] #[])] (.one (.sc .slc)) h4 fun r5 h5=>
 R (.slice r5.ptr r5.len r5.cap) h5)
 (aW (σ:=Sl) (fun s16 h12=>
 K1 ((⟨s16.ptr,s16.len,s16.cap⟩:Sl),IntKind.wrap .i64 (s3.2+(1:Int))) h12)
 (fun K2=>
 ∃a6:Addr,(r2.ptr=some a6∧0≤(IntKind.wrap .i64 (s3.2+(1:Int)))∧(IntKind.wrap .i64 (s3.2+(1:Int)))<((r2.len:Nat):Int))∧
 ∃x7:Sl,cellOf h3 (a6.add ((IntKind.wrap .i64 (s3.2+(1:Int))).toNat*1))=some (.slice x7.ptr x7.len x7.cap)∧
 af Tryz.prog 149 #[(.slice x7.ptr x7.len x7.cap)] (.many [(.agg [(.int .i64),(.int .i64),(.int .i64),(.int .i64),(.int .i64),(.int .i64),(.int .u32),.slc]),(.sc .bool)]) h3 fun r8 h6=>
 aM Tryz.prog (Instr.alloc 149 true (.tuple #[])) h6 fun a9 h7=>
 ae Tryz.prog (Instr.storeAt 149 (.pointer (some a9)) (.agg #[(.int .i64 r8.1.1),(.int .i64 r8.1.2.1),(.int .i64 r8.1.2.2.1),(.int .i64 r8.1.2.2.2.1),(.int .i64 r8.1.2.2.2.2.1),(.int .i64 r8.1.2.2.2.2.2.1),(.int .u32 r8.1.2.2.2.2.2.2.1),(.slice r8.1.2.2.2.2.2.2.2.ptr r8.1.2.2.2.2.2.2.2.len r8.1.2.2.2.2.2.2.2.cap)])) h7 fun _ h8=>
 Br r8.2 (∃x10:Int×Int×Int×Int×Int×Int×Sl×Sl,ai h8 a1 0 [(.int .i64 x10.1),(.int .i64 x10.2.1),(.int .i64 x10.2.2.1),(.int .i64 x10.2.2.2.1),(.int .i64 x10.2.2.2.2.1),(.int .i64 x10.2.2.2.2.2.1),(.slice x10.2.2.2.2.2.2.1.ptr x10.2.2.2.2.2.2.1.len x10.2.2.2.2.2.2.1.cap),(.slice x10.2.2.2.2.2.2.2.ptr x10.2.2.2.2.2.2.2.len x10.2.2.2.2.2.2.2.cap)]∧
 ∃x11:Int×Int×Int×Int×Int×Int×Int×Sl,ai h8 a9 0 [(.int .i64 x11.1),(.int .i64 x11.2.1),(.int .i64 x11.2.2.1),(.int .i64 x11.2.2.2.1),(.int .i64 x11.2.2.2.2.1),(.int .i64 x11.2.2.2.2.2.1),(.int .u32 x11.2.2.2.2.2.2.1),(.slice x11.2.2.2.2.2.2.2.ptr x11.2.2.2.2.2.2.2.len x11.2.2.2.2.2.2.2.cap)]∧
 af Tryz.prog 150 #[(.agg #[(.int .i64 x10.1),(.int .i64 x10.2.1),(.int .i64 x10.2.2.1),(.int .i64 x10.2.2.2.1),(.int .i64 x10.2.2.2.2.1),(.int .i64 x10.2.2.2.2.2.1),(.slice x10.2.2.2.2.2.2.1.ptr x10.2.2.2.2.2.2.1.len x10.2.2.2.2.2.2.1.cap),(.slice x10.2.2.2.2.2.2.2.ptr x10.2.2.2.2.2.2.2.len x10.2.2.2.2.2.2.2.cap)]),(.agg #[(.int .i64 x11.1),(.int .i64 x11.2.1),(.int .i64 x11.2.2.1),(.int .i64 x11.2.2.2.1),(.int .i64 x11.2.2.2.2.1),(.int .i64 x11.2.2.2.2.2.1),(.int .u32 x11.2.2.2.2.2.2.1),(.slice x11.2.2.2.2.2.2.2.ptr x11.2.2.2.2.2.2.2.len x11.2.2.2.2.2.2.2.cap)])] (.one (.sc .bool)) h8 fun r12 h9=>
 Br r12
 (∃x13:Int×Int×Int×Int×Int×Int×Int×Sl,ai h9 a9 0 [(.int .i64 x13.1),(.int .i64 x13.2.1),(.int .i64 x13.2.2.1),(.int .i64 x13.2.2.2.1),(.int .i64 x13.2.2.2.2.1),(.int .i64 x13.2.2.2.2.2.1),(.int .u32 x13.2.2.2.2.2.2.1),(.slice x13.2.2.2.2.2.2.2.ptr x13.2.2.2.2.2.2.2.len x13.2.2.2.2.2.2.2.cap)]∧
 av Tryz.prog (Instr.buildSlice 161 1 #[(0,(.agg #[(.int .i64 x13.1),(.int .i64 x13.2.1),(.int .i64 x13.2.2.1),(.int .i64 x13.2.2.2.1),(.int .i64 x13.2.2.2.2.1),(.int .i64 x13.2.2.2.2.2.1),(.int .u32 x13.2.2.2.2.2.2.1),(.slice x13.2.2.2.2.2.2.2.ptr x13.2.2.2.2.2.2.2.len x13.2.2.2.2.2.2.2.cap)]))]) (.one (.sc .slc)) h9 fun v14 h10=>
 av Tryz.prog (Builtin.append_ #[161,161] 161 #[(.slice s3.1.ptr s3.1.len s3.1.cap),(.slice v14.ptr v14.len v14.cap)]) (.one (.sc .slc)) h10 fun v15 h11=>
 K2 (⟨v15.ptr,v15.len,v15.cap⟩:Sl) h11)
 (K2 (⟨s3.1.ptr,s3.1.len,s3.1.cap⟩:Sl) h9)) (K2 (⟨s3.1.ptr,s3.1.len,s3.1.cap⟩:Sl) h8)))) ((⟨none,0,0⟩:Sl),(-1:Int)) h2
theorem wP (d_0:Option Addr) (m_1:Int×Int×Int×Int×Int×Int×Sl×Sl) {R:Value→Heap→Prop} {h:Heap} (hm:pY d_0 m_1 R h):ab Tryz.prog 109 #[(.pointer d_0),(.agg #[(.int .i64 m_1.1),(.int .i64 m_1.2.1),(.int .i64 m_1.2.2.1),(.int .i64 m_1.2.2.2.1),(.int .i64 m_1.2.2.2.2.1),(.int .i64 m_1.2.2.2.2.2.1),(.slice m_1.2.2.2.2.2.2.1.ptr m_1.2.2.2.2.2.2.1.len m_1.2.2.2.2.2.2.1.cap),(.slice m_1.2.2.2.2.2.2.2.ptr m_1.2.2.2.2.2.2.2.len m_1.2.2.2.2.2.2.2.cap)])] h R:=al ag Tryz.func109 (.two .n (.scope 0 [(6,(.sc .slc)),(7,(.sc (.int .i64)))] [(4,5),(6,10),(12,40)] [.n,.n,.n] [(.two .n (.two .n (.two (.join [(6,(.sc .slc))] [(6,7),(8,10),(18,36)] .n) .n)))] [(1,[.n])])) hm
abbrev C5:FuncId:=110
noncomputable def vO (l_0:Sl) (R:Value→Heap→Prop) (h:Heap):Prop:=
 aK (σ:=Sl×Int) (fun s1 K1 h1=>
 Br (decide (s1.2<((l_0.len:Nat):Int)))
 (∃a2:Addr,(l_0.ptr=some a2∧0≤s1.2∧s1.2<((l_0.len:Nat):Int))∧
 ∃x3:Sl,cellOf h1 (a2.add (s1.2.toNat*1))=some (.slice x3.ptr x3.len x3.cap)∧
 af Tryz.prog 115 #[(.slice x3.ptr x3.len x3.cap)] (.one (.sc .slc)) h1 fun r4 h2=>
 av Tryz.prog (Instr.buildSlice 78 1 #[(0,(.slice r4.ptr r4.len r4.cap))]) (.one (.sc .slc)) h2 fun v5 h3=>
 av Tryz.prog (Builtin.append_ #[78,78] 78 #[(.slice s1.1.ptr s1.1.len s1.1.cap),(.slice v5.ptr v5.len v5.cap)]) (.one (.sc .slc)) h3 fun v6 h4=>
 K1 ((⟨v6.ptr,v6.len,v6.cap⟩:Sl),IntKind.wrap .i64 (s1.2+(1:Int))) h4)
 (R (.slice s1.1.ptr s1.1.len s1.1.cap) h1)) ((⟨none,0,0⟩:Sl),(0:Int)) h
theorem Bw (l_0:Sl) {R:Value→Heap→Prop} {h:Heap} (hm:vO l_0 R h):ab Tryz.prog 110 #[(.slice l_0.ptr l_0.len l_0.cap)] h R:=al ag Tryz.func110 (.two .n (.two .n (.two (.two .n (.inn (.loop [(3,(.sc .slc)),(8,(.sc (.int .i64)))] [(3,4),(5,6),(8,18)] .n))) .n))) hm
noncomputable def gf (s_0:Sl) (f_1:FuncId×Array Value×Array Value) (R:Value→Heap→Prop) (h:Heap):Prop:=
 aK (σ:=Int) (fun s1 K1 h1=>
 Br (decide (s1<((s_0.len:Nat):Int)))
 (∃a2:Addr,(s_0.ptr=some a2∧0≤s1∧s1<((s_0.len:Nat):Int))∧
 ∃x3:Sl,cellOf h1 (a2.add (s1.toNat*1))=some (.slice x3.ptr x3.len x3.cap)∧
 gv C f_1.1 (f_1.2.1.toList++[(.slice x3.ptr x3.len x3.cap)]++f_1.2.2.toList) (.one (.sc .bool)) h1 fun r4 h2=>
 Br r4
 (R (.int .i64 s1) h2)
 (K1 (IntKind.wrap .i64 (s1+(1:Int))) h2))
 (R (.int .i64 (-1:Int)) h1)) (0:Int) h
theorem jU (s_0:Sl) (f_1:FuncId×Array Value×Array Value) {R:Value→Heap→Prop} {h:Heap} (hm:gf s_0 f_1 R h):ab Tryz.prog 111 #[(.slice s_0.ptr s_0.len s_0.cap),(.func (.func f_1.1) f_1.2.1 f_1.2.2)] h R:=al ag Tryz.func111 (.two .n (.two (.two .n (.inn (.loop [(8,(.sc (.int .i64)))] [(4,6),(8,19)] .n))) .n)) hm
abbrev zQ:FuncId:=113
noncomputable def rW (to_0:Sl) (n_1:Int) (size_2:Int) (R:Value→Heap→Prop) (h:Heap):Prop:=
 aK (σ:=Sl×Int) (fun s1 K1 h1=>
 Br (decide (s1.2≥(0:Int)))
 ((0≤(IntKind.wrap .i64 ((8:Int)*s1.2)))∧
 av Tryz.prog (Instr.buildSlice 45 1 #[(0,(.int .u8 (IntKind.wrap .u8 (Int.fdiv n_1 (2^min (IntKind.wrap .i64 ((8:Int)*s1.2)).toNat (IntKind.bits .i64))))))]) (.one (.sc .slc)) h1 fun v2 h2=>
 av Tryz.prog (Builtin.append_ #[45,45] 45 #[(.slice s1.1.ptr s1.1.len s1.1.cap),(.slice v2.ptr v2.len v2.cap)]) (.one (.sc .slc)) h2 fun v3 h3=>
 K1 ((⟨v3.ptr,v3.len,v3.cap⟩:Sl),IntKind.wrap .i64 (s1.2-(1:Int))) h3)
 (R (.slice s1.1.ptr s1.1.len s1.1.cap) h1)) ((⟨to_0.ptr,to_0.len,to_0.cap⟩:Sl),IntKind.wrap .i64 (size_2-(1:Int))) h
theorem yh (to_0:Sl) (n_1:Int) (size_2:Int) {R:Value→Heap→Prop} {h:Heap} (hm:rW to_0 n_1 size_2 R h):ab Tryz.prog 113 #[(.slice to_0.ptr to_0.len to_0.cap),(.int .i64 n_1),(.int .i64 size_2)] h R:=al ag Tryz.func113 (.two .n (.two (.two .n (.inn (.loop [(0,(.sc .slc)),(7,(.sc (.int .i64)))] [(0,1),(7,8),(10,22)] .n))) .n)) hm
abbrev Ex:FuncId:=114
noncomputable def yi (kind_0:Int) (body_1:Sl) (R:Value→Heap→Prop) (h:Heap):Prop:=
 aW (σ:=Unit) (fun _ h1=>
 av Tryz.prog (Instr.makeSlice 45 (.int .i64 (64:Int)) (.int .i64 (64:Int))) (.one (.sc .slc)) h1 fun v2 h2=>
 av Tryz.prog (Instr.buildSlice 45 4 #[(0,(.int .u8 (87:Int))),(1,(.int .u8 (115:Int))),(2,(.int .u8 (1:Int))),(3,(.int .u8 (IntKind.wrap .u8 kind_0)))]) (.one (.sc .slc)) h2 fun v3 h3=>
 av Tryz.prog (Builtin.copy_ #[45,45] 3 #[(.slice v2.ptr v2.len v2.cap),(.slice v3.ptr v3.len v3.cap)]) (.one (.sc (.int .i64))) h3 fun _ h4=>
 (0≤(4:Int)∧(4:Int)≤((v2.len:Nat):Int))∧
 av Tryz.prog (Builtin.copy_ #[45,45] 3 #[(.slice (if v2.cap=(4:Int).toNat then v2.ptr else v2.ptr.map (·.add ((4:Int).toNat*1))) (v2.len-(4:Int).toNat) (v2.cap-(4:Int).toNat)),(.slice body_1.ptr body_1.len body_1.cap)]) (.one (.sc (.int .i64))) h4 fun _ h5=>
 (0≤(59:Int)∧(59:Int)≤((v2.cap:Nat):Int))∧
 af Tryz.prog 155 #[(.slice v2.ptr ((59:Int).toNat) v2.cap)] (.one (.sc (.int .u32))) h5 fun r6 h6=>
 aK (σ:=Int) (fun s7 K2 h7=>
 Br (decide (s7<(4:Int)))
 ((0≤(IntKind.wrap .i64 ((8:Int)*s7)))∧
 ∃a8:Addr,(v2.ptr=some a8∧0≤(IntKind.wrap .i64 ((59:Int)+s7))∧(IntKind.wrap .i64 ((59:Int)+s7))<((v2.len:Nat):Int))∧
 ae Tryz.prog (Instr.storeAt 5 (.pointer (some (a8.add ((IntKind.wrap .i64 ((59:Int)+s7)).toNat*1)))) (.int .u8 (IntKind.wrap .u8 (Int.fdiv r6 (2^min (IntKind.wrap .i64 ((8:Int)*s7)).toNat (IntKind.bits .u32)))))) h7 fun _ h8=>
 K2 (IntKind.wrap .i64 (s7+(1:Int))) h8)
 (∃a9:Addr,(v2.ptr=some a9∧0≤(63:Int)∧(63:Int)<((v2.len:Nat):Int))∧
 ae Tryz.prog (Instr.storeAt 5 (.pointer (some (a9.add ((63:Int).toNat*1)))) (.int .u8 (165:Int))) h7 fun _ h9=>
 R (.slice v2.ptr v2.len v2.cap) h9)) (0:Int) h6)
 (fun K1=>
 Br (decide (kind_0<(1:Int))) (R (.slice none 0 0) h) (Br (decide (kind_0>(255:Int))) (R (.slice none 0 0) h) (Br (decide (((body_1.len:Nat):Int)>(55:Int)))
 (R (.slice none 0 0) h)
 (K1 () h))))
theorem C6 (kind_0:Int) (body_1:Sl) {R:Value→Heap→Prop} {h:Heap} (hm:yi kind_0 body_1 R h):ab Tryz.prog 114 #[(.int .i64 kind_0),(.slice body_1.ptr body_1.len body_1.cap)] h R:=al ag Tryz.func114 (.two .n (.two (.join [] [(4,5),(8,19)] .n) (.two .n (.two .n (.two .n (.two .n (.two (.two .n (.inn (.loop [(32,(.sc (.int .i64)))] [(7,8),(32,45)] .n))) .n))))))) hm
abbrev zR:FuncId:=115
noncomputable def rX (b_0:Sl) (R:Value→Heap→Prop) (h:Heap):Prop:=
 Br (Option.isNone b_0.ptr)
 (R (.slice none 0 0) h)
 (av Tryz.prog (Instr.buildSlice 45 0 #[]) (.one (.sc .slc)) h fun v1 h1=>
 av Tryz.prog (Builtin.append_ #[45,45] 45 #[(.slice v1.ptr v1.len v1.cap),(.slice b_0.ptr b_0.len b_0.cap)]) (.one (.sc .slc)) h1 fun v2 h2=>
 R (.slice v2.ptr v2.len v2.cap) h2)
theorem yj (b_0:Sl) {R:Value→Heap→Prop} {h:Heap} (hm:rX b_0 R h):ab Tryz.prog 115 #[(.slice b_0.ptr b_0.len b_0.cap)] h R:=al ag Tryz.func115 .n hm
abbrev sD:FuncId:=116
noncomputable def l9 (p_0:Option Addr) (R:Value→Heap→Prop) (h:Heap):Prop:=
 af Tryz.prog 29 #[(.pointer p_0)] (.one (.sc .bool)) h fun r1 h1=>
 Br (!r1)
 (R (.bool false) h1)
 (∃a2:Addr,(p_0=some a2)∧
 ∃x3:Bool,cellOf h1 (a2.add 1)=some (.bool x3)∧
 Br (!x3)
 (R (.bool true) h1)
 (∃a4:Addr,(p_0=some a4)∧
 ∃x5:Int,cellOf h1 (a4.add 2)=some (.int .i64 x5)∧
 Br (x5==(0:Int))
 (∃a6:Addr,(p_0=some a6)∧
 ae Tryz.prog (Instr.storeAt 4 (.pointer (some a6)) (.bool true)) h1 fun _ h2=>
 ∃a7:Addr,(p_0=some a7)∧
 ∃x8:Int,cellOf h2 (a7.add 3)=some (.int .i64 x8)∧
 ∃a9:Addr,(p_0=some a9)∧
 ae Tryz.prog (Instr.storeAt 3 (.pointer (some (a9.add 3))) (.int .i64 (IntKind.wrap .i64 (x8+(1:Int))))) h2 fun _ h3=>
 R (.bool false) h3)
 (∃a10:Addr,(p_0=some a10)∧
 ∃x11:Int,cellOf h1 (a10.add 2)=some (.int .i64 x11)∧
 ∃a12:Addr,(p_0=some a12)∧
 ae Tryz.prog (Instr.storeAt 3 (.pointer (some (a12.add 2))) (.int .i64 (IntKind.wrap .i64 (x11-(1:Int))))) h1 fun _ h4=>
 R (.bool true) h4)))
theorem rj (p_0:Option Addr) {R:Value→Heap→Prop} {h:Heap} (hm:l9 p_0 R h):ab Tryz.prog 116 #[(.pointer p_0)] h R:=al ag Tryz.func116 .n hm
abbrev sE:FuncId:=117
noncomputable def ma (d_0:Option Addr) (R:Value→Heap→Prop) (h:Heap):Prop:=
 ∃a1:Addr,(d_0=some a1)∧
 ae Tryz.prog (Instr.storeAt 78 (.pointer (some (a1.add 4))) (.slice none 0 0)) h fun _ h1=>
 ∃a2:Addr,(d_0=some a2)∧
 ae Tryz.prog (Instr.storeAt 4 (.pointer (some (a2.add 5))) (.bool false)) h1 fun _ h2=>
 R (.int .i64 (0:Int)) h2
theorem rk (d_0:Option Addr) {R:Value→Heap→Prop} {h:Heap} (hm:ma d_0 R h):ab Tryz.prog 117 #[(.pointer d_0)] h R:=al ag Tryz.func117 .n hm
abbrev pf:FuncId:=118
abbrev mR:FuncId:=119
abbrev kW:FuncId:=120
noncomputable def jc (d_0:Option Addr) (R:Value→Heap→Prop) (h:Heap):Prop:=
 aW (σ:=Unit) (fun _ h1=>
 ∃a4:Addr,(d_0=some a4)∧
 ∃x5:Option Addr,cellOf h1 a4=some (.pointer x5)∧
 af Tryz.prog 116 #[(.pointer x5)] (.one (.sc .bool)) h1 fun r6 h2=>
 Br (!r6)
 (R (.int .i64 (14:Int)) h2)
 (∃a7:Addr,(d_0=some a7)∧
 ae Tryz.prog (Instr.storeAt 3 (.pointer (some (a7.add 3))) (.int .i64 (0:Int))) h2 fun _ h3=>
 af Tryz.prog 117 #[(.pointer d_0)] (.one (.sc (.int .i64))) h3 fun r8 h4=>
 R (.int .i64 r8) h4))
 (fun K1=>
 Br (Option.isNone d_0) (R (.int .i64 (5:Int)) h) (∃a1:Addr,(d_0=some a1)∧
 ∃x2:Bool,cellOf h (a1.add 6)=some (.bool x2)∧
 Br x2
 (R (.int .i64 (5:Int)) h)
 (K1 () h)))
theorem kE (d_0:Option Addr) {R:Value→Heap→Prop} {h:Heap} (hm:jc d_0 R h):ab Tryz.prog 120 #[(.pointer d_0)] h R:=al ag Tryz.func120 (.two .n (.two (.join [] [(2,11)] .n) .n)) hm
abbrev pZ:FuncId:=127
noncomputable def kF (x_0:ByteArray×Int×Int×Sl) (cap_1:Addr) (R:Value→Heap→Prop) (h:Heap):Prop:=
 aM Tryz.prog (Instr.box 54 (.agg #[(.string x_0.1),(.int .i64 x_0.2.1),(.int .i64 x_0.2.2.1),(.slice x_0.2.2.2.ptr x_0.2.2.2.len x_0.2.2.2.cap)])) h fun a1 h1=>
 ∃x2:ByteArray,cellOf h1 a1=some (.string x2)∧
 ∃x3:ByteArray,cellOf h1 cap_1=some (.string x3)∧
 R (.bool (x2.toList==x3.toList)) h1
theorem ph (x_0:ByteArray×Int×Int×Sl) (cap_1:Addr) {R:Value→Heap→Prop} {h:Heap} (hm:kF x_0 cap_1 R h):ab Tryz.prog 127 #[(.agg #[(.string x_0.1),(.int .i64 x_0.2.1),(.int .i64 x_0.2.2.1),(.slice x_0.2.2.2.ptr x_0.2.2.2.len x_0.2.2.2.cap)]),(.pointer (some cap_1))] h R:=al ag Tryz.func127 .n hm
abbrev C7:FuncId:=128
noncomputable def vP (f_0:Option Addr) (a_1:Sl) (b_2:Sl) (R:Value→Heap→Prop) (h:Heap):Prop:=
 aW (σ:=Unit) (fun _ h3=>
 af Tryz.prog 161 #[(.slice a_1.ptr a_1.len a_1.cap)] (.one (.sc (.int .i64))) h3 fun r4 h4=>
 af Tryz.prog 162 #[(.slice a_1.ptr a_1.len a_1.cap)] (.one (.sc .slc)) h4 fun r5 h5=>
 aK (σ:=Int) (fun s6 K2 h6=>
 Br (decide (s6<((r5.len:Nat):Int)))
 (∃a7:Addr,(r5.ptr=some a7∧0≤s6∧s6<((r5.len:Nat):Int))∧
 ∃x8:Sl,cellOf h6 (a7.add (s6.toNat*1))=some (.slice x8.ptr x8.len x8.cap)∧
 ∃a9:Addr,(b_2.ptr=some a9∧0≤s6∧s6<((b_2.len:Nat):Int))∧
 ∃x10:Sl,cellOf h6 (a9.add (s6.toNat*1))=some (.slice x10.ptr x10.len x10.cap)∧
 av Tryz.prog (Builtin.append_ #[45,45] 45 #[(.slice x8.ptr x8.len x8.cap),(.slice x10.ptr x10.len x10.cap)]) (.one (.sc .slc)) h6 fun v11 h7=>
 (aw.ok [] h7)∧
 ∃a12:Addr,(r5.ptr=some a12∧0≤s6∧s6<((r5.len:Nat):Int))∧
 ae Tryz.prog (Instr.storeAt 45 (.pointer (some (a12.add (s6.toNat*1)))) (.slice v11.ptr v11.len v11.cap)) h7 fun _ h8=>
 (aw.ok [] h8)∧
 K2 (IntKind.wrap .i64 (s6+(1:Int))) h8)
 (af Tryz.prog 164 #[(.pointer f_0)] (.one (.sc .ptr)) h6 fun r13 h9=>
 af Tryz.prog 163 #[(.pointer r13),(.slice r5.ptr r5.len r5.cap),(.int .i64 r4)] (.one (.sc (.int .i64))) h9 fun r14 h10=>
 Br (decide (r14<r4))
 (R (.tuple #[(.slice none 0 0),(.int .i64 (9:Int))]) h10)
 ((0≤r14∧r14≤((r5.len:Nat):Int))∧
 aK (σ:=Int) (fun s15 K3 h11=>
 Br (decide (s15<(((r5.len-r14.toNat):Nat):Int)))
 (∃a16:Addr,((if r5.cap=r14.toNat then r5.ptr else r5.ptr.map (·.add (r14.toNat*1)))=some a16∧0≤s15∧s15<(((r5.len-r14.toNat):Nat):Int))∧
 ∃x17:Sl,cellOf h11 (a16.add (s15.toNat*1))=some (.slice x17.ptr x17.len x17.cap)∧
 af Tryz.prog 165 #[(.slice x17.ptr x17.len x17.cap)] (.one (.sc (.int .i64))) h11 fun r18 h12=>
 Br (decide (r18≥(0:Int)))
 (R (.tuple #[(.slice none 0 0),(.int .i64 (10:Int))]) h12)
 (K3 (IntKind.wrap .i64 (s15+(1:Int))) h12))
 ((0≤r14∧r14≤((r5.cap:Nat):Int))∧
 aK (σ:=Sl×Int) (fun s19 K4 h13=>
 Br (decide (s19.2<((r14.toNat:Nat):Int)))
 (∃a20:Addr,(r5.ptr=some a20∧0≤s19.2∧s19.2<((r14.toNat:Nat):Int))∧
 ∃x21:Sl,cellOf h13 (a20.add (s19.2.toNat*1))=some (.slice x21.ptr x21.len x21.cap)∧
 (0≤r4∧r4≤((x21.len:Nat):Int))∧
 af Tryz.prog 115 #[(.slice (if x21.cap=r4.toNat then x21.ptr else x21.ptr.map (·.add (r4.toNat*1))) (x21.len-r4.toNat) (x21.cap-r4.toNat))] (.one (.sc .slc)) h13 fun r22 h14=>
 av Tryz.prog (Instr.buildSlice 78 1 #[(0,(.slice r22.ptr r22.len r22.cap))]) (.one (.sc .slc)) h14 fun v23 h15=>
 av Tryz.prog (Builtin.append_ #[78,78] 78 #[(.slice s19.1.ptr s19.1.len s19.1.cap),(.slice v23.ptr v23.len v23.cap)]) (.one (.sc .slc)) h15 fun v24 h16=>
 K4 ((⟨v24.ptr,v24.len,v24.cap⟩:Sl),IntKind.wrap .i64 (s19.2+(1:Int))) h16)
 (R (.tuple #[(.slice s19.1.ptr s19.1.len s19.1.cap),(.int .i64 (0:Int))]) h13)) ((⟨none,0,0⟩:Sl),(0:Int)) h11)) (0:Int) h10))) (0:Int) h5)
 (fun K1=>
 af Tryz.prog 160 #[(.slice a_1.ptr a_1.len a_1.cap)] (.one (.sc .bool)) h fun r1 h1=>
 Br (!r1) (R (.tuple #[(.slice none 0 0),(.int .i64 (1:Int))]) h1) (af Tryz.prog 160 #[(.slice b_2.ptr b_2.len b_2.cap)] (.one (.sc .bool)) h1 fun r2 h2=>
 Br (!r2) (R (.tuple #[(.slice none 0 0),(.int .i64 (1:Int))]) h2) (Br (((a_1.len:Nat):Int) !=((b_2.len:Nat):Int)) (R (.tuple #[(.slice none 0 0),(.int .i64 (1:Int))]) h2) (Br (((a_1.len:Nat):Int)==(0:Int))
 (R (.tuple #[(.slice none 0 0),(.int .i64 (1:Int))]) h2)
 (K1 () h2)))))
theorem Bx (f_0:Option Addr) (a_1:Sl) (b_2:Sl) {R:Value→Heap→Prop} {h:Heap} (hm:vP f_0 a_1 b_2 R h):ab Tryz.prog 128 #[(.pointer f_0),(.slice a_1.ptr a_1.len a_1.cap),(.slice b_2.ptr b_2.len b_2.cap)] h R:=al ag Tryz.func128 (.two .n (.two (.join [] [(6,8),(17,37)] .n) (.two .n (.two .n (.two (.two .n (.inn (.loop [(43,(.sc (.int .i64)))] [(10,11),(43,59)] .n))) (.two .n (.two .n (.two (.two .n (.inn (.loop [(71,(.sc (.int .i64)))] [(6,8),(13,14),(71,79)] .n))) (.two .n (.two (.two .n (.inn (.loop [(14,(.sc .slc)),(83,(.sc (.int .i64)))] [(14,15),(16,17),(83,95)] .n))) .n)))))))))) hm
abbrev Iy:FuncId:=129
noncomputable def C8 (R:Value→Heap→Prop) (h:Heap):Prop:=
 af Tryz.prog 166 #[] (.one (.arr (.int .u8))) h fun r1 h1=>
 aM Tryz.prog (Instr.alloc 215 true (.tuple #[])) h1 fun a2 h2=>
 ae Tryz.prog (Instr.storeAt 215 (.pointer (some a2)) (.agg (r1.map (Sc.enc (.int .u8))).toArray)) h2 fun _ h3=>
 ∃x3:List (Int),(x3.length=255∧ai h3 a2 0 (x3.map (Sc.enc (.int .u8))))∧
 ∃x4:List (Int),(x4.length=255∧ai h3 a2 0 (x4.map (Sc.enc (.int .u8))))∧
 af Tryz.prog 167 #[(.agg (x4.map (Sc.enc (.int .u8))).toArray)] (.one (.arr (.int .i64))) h3 fun r5 h4=>
 (aw.ok (iR a2 0 (x3.map (Sc.enc (.int .u8))) []) h4)∧
 ∃v6:Value,(ar Tryz.prog (Instr.build 220 #[(0,(.agg (x3.map (Sc.enc (.int .u8))).toArray)),(1,(.agg (r5.map (Sc.enc (.int .i64))).toArray))]) v6)∧
 aM Tryz.prog (Instr.box 220 v6) h4 fun a7 h5=>
 (aw.ok (iR a2 0 (x3.map (Sc.enc (.int .u8))) []) h5)∧
 R (.pointer (some a7)) h5
theorem GF {R:Value→Heap→Prop} {h:Heap} (hm:C8 R h):ab Tryz.prog 129 #[] h R:=al ag Tryz.func129 .n hm
abbrev wQ:FuncId:=130
noncomputable def oE (p_0:Int×Int×Int) (seed_1:Int) (ids_2:Sl) (R:Value→Heap→Prop) (h:Heap):Prop:=
 aM Tryz.prog (Instr.box 23 (.agg #[(.int .i64 p_0.1),(.int .i64 p_0.2.1),(.int .i64 p_0.2.2)])) h fun a1 h1=>
 ∃x2:Int×Int×Int,ai h1 a1 0 [(.int .i64 x2.1),(.int .i64 x2.2.1),(.int .i64 x2.2.2)]∧
 af Tryz.prog 168 #[(.agg #[(.int .i64 x2.1),(.int .i64 x2.2.1),(.int .i64 x2.2.2)])] (.one (.sc .slc)) h1 fun r3 h2=>
 aK (σ:=Sl×Int) (fun s4 K1 h3=>
 Br (decide (s4.2<((ids_2.len:Nat):Int)))
 (∃a5:Addr,(ids_2.ptr=some a5∧0≤s4.2∧s4.2<((ids_2.len:Nat):Int))∧
 ∃x6:Int,cellOf h3 (a5.add (s4.2.toNat*1))=some (.int .i64 x6)∧
 ∃x7:Int×Int×Int,ai h3 a1 0 [(.int .i64 x7.1),(.int .i64 x7.2.1),(.int .i64 x7.2.2)]∧
 af Tryz.prog 169 #[(.agg #[(.int .i64 x7.1),(.int .i64 x7.2.1),(.int .i64 x7.2.2)]),(.int .u32 seed_1),(.int .i64 x6)] (.one (.sc .slc)) h3 fun r8 h4=>
 Br (!(Option.isNone r8.ptr))
 (av Tryz.prog (Instr.buildSlice 78 1 #[(0,(.slice r8.ptr r8.len r8.cap))]) (.one (.sc .slc)) h4 fun v9 h5=>
 av Tryz.prog (Builtin.append_ #[78,78] 78 #[(.slice s4.1.ptr s4.1.len s4.1.cap),(.slice v9.ptr v9.len v9.cap)]) (.one (.sc .slc)) h5 fun v10 h6=>
 K1 ((⟨v10.ptr,v10.len,v10.cap⟩:Sl),IntKind.wrap .i64 (s4.2+(1:Int))) h6)
 (K1 ((⟨s4.1.ptr,s4.1.len,s4.1.cap⟩:Sl),IntKind.wrap .i64 (s4.2+(1:Int))) h4))
 (R (.slice s4.1.ptr s4.1.len s4.1.cap) h3)) ((⟨r3.ptr,r3.len,r3.cap⟩:Sl),(0:Int)) h2
theorem vn (p_0:Int×Int×Int) (seed_1:Int) (ids_2:Sl) {R:Value→Heap→Prop} {h:Heap} (hm:oE p_0 seed_1 ids_2 R h):ab Tryz.prog 130 #[(.agg #[(.int .i64 p_0.1),(.int .i64 p_0.2.1),(.int .i64 p_0.2.2)]),(.int .u32 seed_1),(.slice ids_2.ptr ids_2.len ids_2.cap)] h R:=al ag Tryz.func130 (.two .n (.two .n (.two (.two .n (.inn (.loop [(7,(.sc .slc)),(15,(.sc (.int .i64)))] [(7,8),(9,11),(15,30)] .n))) .n))) hm
abbrev Ey:FuncId:=131
noncomputable def yk (n_0:Int) (R:Value→Heap→Prop) (h:Heap):Prop:=
 Br (decide (n_0<(0:Int))) (R (.complex .f64 0 0) h) (Br (decide (n_0≥(4096:Int)))
 (R (.complex .f64 0 0) h)
 (af Tryz.prog 170 #[] (.one (.sc .ptr)) h fun r1 h1=>
 aK (σ:=Int) (fun s2 K1 h2=>
 Br (s2==n_0)
 (∃a3:Addr,(r1=some a3)∧
 ∃x4:Nat×Nat,cellOf h2 a3=some (.complex .f64 x4.1 x4.2)∧
 R (.complex .f64 x4.1 x4.2) h2)
 (af Tryz.prog 171 #[(.pointer r1)] (.many []) h2 fun _ h3=>
 K1 (IntKind.wrap .i64 (s2+(1:Int))) h3)) (0:Int) h1))
theorem C9 (n_0:Int) {R:Value→Heap→Prop} {h:Heap} (hm:yk n_0 R h):ab Tryz.prog 131 #[(.int .i64 n_0)] h R:=al ag Tryz.func131 (.two .n (.scope 0 [(4,(.sc (.int .i64)))] [(2,3),(4,5),(12,23)] [.n,.n,.n] [.n] [])) hm
abbrev Da:FuncId:=132
noncomputable def vQ (a_0:Nat×Nat) (b_1:Nat×Nat) (R:Value→Heap→Prop) (h:Heap):Prop:=
 ∃z1:Nat×Nat,(iv Tryz.prog .sub 180 (.tmp 6) (.tmp 7) (.complex .f64 a_0.1 a_0.2) (.complex .f64 b_1.1 b_1.2) (.complex .f64 z1.1 z1.2))∧
 ∃r2:Nat,((FloatKind.format .f64).mul z1.1 z1.1=some r2)∧
 ∃r3:Nat,((FloatKind.format .f64).mul z1.2 z1.2=some r3)∧
 ∃r4:Nat,((FloatKind.format .f64).add r2 r3=some r4)∧
 R (.float .f64 r4) h
theorem By (a_0:Nat×Nat) (b_1:Nat×Nat) {R:Value→Heap→Prop} {h:Heap} (hm:vQ a_0 b_1 R h):ab Tryz.prog 132 #[(.complex .f64 a_0.1 a_0.2),(.complex .f64 b_1.1 b_1.2)] h R:=al ag Tryz.func132 .n hm
abbrev eM:FuncId:=133
abbrev ik:FuncId:=134
noncomputable def oF (a_0:Int×Nat) (b_1:Int×Nat) (R:Value→Heap→Prop) (h:Heap):Prop:=
 aM Tryz.prog (Instr.box 186 (.agg #[(.int .i64 a_0.1),(.float .f64 a_0.2)])) h fun a1 h1=>
 aM Tryz.prog (Instr.box 186 (.agg #[(.int .i64 b_1.1),(.float .f64 b_1.2)])) h1 fun a2 h2=>
 ∃x3:Nat,cellOf h2 (a1.add 1)=some (.float .f64 x3)∧
 ∃x4:Nat,cellOf h2 (a2.add 1)=some (.float .f64 x4)∧
 ∃x5:Int,cellOf h2 a1=some (.int .i64 x5)∧
 ∃x6:Int,cellOf h2 a2=some (.int .i64 x6)∧
 af Tryz.prog 136 #[(.float .f64 x3),(.float .f64 x4)] (.one (.sc (.int .i64))) h2 fun r7 h3=>
 (aw.ok [(a2,(.int .i64 x6)),(a1,(.int .i64 x5))] h3)∧
 af Tryz.prog 137 #[(.int .i64 x5),(.int .i64 x6)] (.one (.sc (.int .i64))) h3 fun r8 h4=>
 (aw.ok [] h4)∧
 av Tryz.prog (Instr.buildSlice 24 2 #[(0,(.int .i64 r7)),(1,(.int .i64 r8))]) (.one (.sc .slc)) h4 fun v9 h5=>
 (aw.ok [] h5)∧
 af Tryz.prog 135 #[(.slice v9.ptr v9.len v9.cap)] (.one (.sc (.int .i64))) h5 fun r10 h6=>
 (aw.ok [] h6)∧
 R (.int .i64 r10) h6
theorem vo (a_0:Int×Nat) (b_1:Int×Nat) {R:Value→Heap→Prop} {h:Heap} (hm:oF a_0 b_1 R h):ab Tryz.prog 134 #[(.agg #[(.int .i64 a_0.1),(.float .f64 a_0.2)]),(.agg #[(.int .i64 b_1.1),(.float .f64 b_1.2)])] h R:=al ag Tryz.func134 .n hm
abbrev Bz:FuncId:=135
noncomputable def nH (vals_0:Sl) (R:Value→Heap→Prop) (h:Heap):Prop:=
 aK (σ:=Int) (fun s1 K1 h1=>
 Br (decide (s1<((vals_0.len:Nat):Int)))
 (∃a2:Addr,(vals_0.ptr=some a2∧0≤s1∧s1<((vals_0.len:Nat):Int))∧
 ∃x3:Int,cellOf h1 (a2.add (s1.toNat*1))=some (.int .i64 x3)∧
 Br (x3 !=(0:Int))
 (R (.int .i64 x3) h1)
 (K1 (IntKind.wrap .i64 (s1+(1:Int))) h1))
 (R (.int .i64 (0:Int)) h1)) (0:Int) h
theorem p7 (vals_0:Sl) {R:Value→Heap→Prop} {h:Heap} (hm:nH vals_0 R h):ab Tryz.prog 135 #[(.slice vals_0.ptr vals_0.len vals_0.cap)] h R:=al ag Tryz.func135 (.two .n (.two .n (.two (.two .n (.inn (.loop [(8,(.sc (.int .i64)))] [(2,3),(5,6),(8,17)] .n))) .n))) hm
abbrev pj:FuncId:=136
noncomputable def ki (x_0:Nat) (y_1:Nat) (R:Value→Heap→Prop) (h:Heap):Prop:=
 af Tryz.prog 173 #[(.float .f64 x_0)] (.one (.sc .bool)) h fun r1 h1=>
 af Tryz.prog 173 #[(.float .f64 y_1)] (.one (.sc .bool)) h1 fun r2 h2=>
 Br r1
 (Br r2
 (R (.int .i64 (0:Int)) h2)
 (R (.int .i64 (-1:Int)) h2))
 (Br r2
 (R (.int .i64 (1:Int)) h2)
 (Br ((FloatKind.format .f64).order x_0 y_1==some .lt)
 (R (.int .i64 (-1:Int)) h2)
 (Br ((FloatKind.format .f64).order x_0 y_1==some .gt)
 (R (.int .i64 (1:Int)) h2)
 (R (.int .i64 (0:Int)) h2))))
theorem om (x_0:Nat) (y_1:Nat) {R:Value→Heap→Prop} {h:Heap} (hm:ki x_0 y_1 R h):ab Tryz.prog 136 #[(.float .f64 x_0),(.float .f64 y_1)] h R:=al ag Tryz.func136 .n hm
abbrev mb:FuncId:=137
noncomputable def jD (x_0:Int) (y_1:Int) (R:Value→Heap→Prop) (h:Heap):Prop:=
 af Tryz.prog 174 #[(.int .i64 x_0)] (.one (.sc .bool)) h fun r1 h1=>
 af Tryz.prog 174 #[(.int .i64 y_1)] (.one (.sc .bool)) h1 fun r2 h2=>
 Br r1
 (Br r2
 (R (.int .i64 (0:Int)) h2)
 (R (.int .i64 (-1:Int)) h2))
 (Br r2
 (R (.int .i64 (1:Int)) h2)
 (Br (decide (x_0<y_1))
 (R (.int .i64 (-1:Int)) h2)
 (Br (decide (x_0>y_1))
 (R (.int .i64 (1:Int)) h2)
 (R (.int .i64 (0:Int)) h2))))
theorem kX (x_0:Int) (y_1:Int) {R:Value→Heap→Prop} {h:Heap} (hm:jD x_0 y_1 R h):ab Tryz.prog 137 #[(.int .i64 x_0),(.int .i64 y_1)] h R:=al ag Tryz.func137 .n hm
abbrev GG:FuncId:=138
noncomputable def AJ (p_0:Int×Int×Int) (seed_1:Int) (id_2:Int) (R:Value→Heap→Prop) (h:Heap):Prop:=
 aM Tryz.prog (Instr.box 23 (.agg #[(.int .i64 p_0.1),(.int .i64 p_0.2.1),(.int .i64 p_0.2.2)])) h fun a1 h1=>
 aW (σ:=Unit) (fun _ h3=>
 ∃x5:Int×Int×Int,ai h3 a1 0 [(.int .i64 x5.1),(.int .i64 x5.2.1),(.int .i64 x5.2.2)]∧
 af Tryz.prog 108 #[(.agg #[(.int .i64 x5.1),(.int .i64 x5.2.1),(.int .i64 x5.2.2)])] (.one (.sc (.int .i64))) h3 fun r6 h4=>
 af Tryz.prog 175 #[(.int .u32 (IntKind.wrap .u32 ((BitVec.ofInt (IntKind.bits .u32) seed_1^^^(BitVec.ofInt (IntKind.bits .u32) (IntKind.wrap .u32 ((IntKind.wrap .u32 id_2)*(2654435761:Int))))).toNat:Nat)))] (.one (.sc .ptr)) h4 fun r7 h5=>
 af Tryz.prog 176 #[(.pointer r7)] (.one (.sc (.int .u32))) h5 fun _ h6=>
 af Tryz.prog 178 #[(.int .i64 r6)] (.one (.sc .slc)) h6 fun r9 h7=>
 af Tryz.prog 177 #[(.slice r9.ptr r9.len r9.cap),(.pointer r7)] (.one (.sc (.int .i64))) h7 fun r10 h8=>
 af Tryz.prog 179 #[(.pointer r7),(.int .i64 r6),(.int .i64 r10)] (.one (.sc .slc)) h8 fun r11 h9=>
 R (.slice r11.ptr r11.len r11.cap) h9)
 (fun K1=>
 ∃x2:Int×Int×Int,ai h1 a1 0 [(.int .i64 x2.1),(.int .i64 x2.2.1),(.int .i64 x2.2.2)]∧
 af Tryz.prog 31 #[(.agg #[(.int .i64 x2.1),(.int .i64 x2.2.1),(.int .i64 x2.2.2)])] (.one (.sc .bool)) h1 fun r3 h2=>
 Br (!r3) (R (.slice none 0 0) h2) (Br (decide (id_2<(0:Int))) (R (.slice none 0 0) h2) (Br (decide (id_2>(65535:Int)))
 (R (.slice none 0 0) h2)
 (K1 () h2))))
theorem Ez (p_0:Int×Int×Int) (seed_1:Int) (id_2:Int) {R:Value→Heap→Prop} {h:Heap} (hm:AJ p_0 seed_1 id_2 R h):ab Tryz.prog 138 #[(.agg #[(.int .i64 p_0.1),(.int .i64 p_0.2.1),(.int .i64 p_0.2.2)]),(.int .u32 seed_1),(.int .i64 id_2)] h R:=al ag Tryz.func138 (.two .n (.two (.join [] [(6,7),(10,21)] .n) .n)) hm
abbrev BA:FuncId:=139
noncomputable def ud (r_0:Int×Int×Int×Int×Int×Int×Int×Sl) (R:Value→Heap→Prop) (h:Heap):Prop:=
 aM Tryz.prog (Instr.box 149 (.agg #[(.int .i64 r_0.1),(.int .i64 r_0.2.1),(.int .i64 r_0.2.2.1),(.int .i64 r_0.2.2.2.1),(.int .i64 r_0.2.2.2.2.1),(.int .i64 r_0.2.2.2.2.2.1),(.int .u32 r_0.2.2.2.2.2.2.1),(.slice r_0.2.2.2.2.2.2.2.ptr r_0.2.2.2.2.2.2.2.len r_0.2.2.2.2.2.2.2.cap)])) h fun a1 h1=>
 aW (σ:=Bool) (fun s8 h2=>
 Br s8 (∃x9:Int×Int×Int,ai h2 (a1.add 3) 0 [(.int .i64 x9.1),(.int .i64 x9.2.1),(.int .i64 x9.2.2)]∧
 af Tryz.prog 31 #[(.agg #[(.int .i64 x9.1),(.int .i64 x9.2.1),(.int .i64 x9.2.2)])] (.one (.sc .bool)) h2 fun r10 h3=>
 Br r10 (∃x11:Sl,cellOf h3 (a1.add 7)=some (.slice x11.ptr x11.len x11.cap)∧
 ∃x12:Int,cellOf h3 ((a1.add 3).add 2)=some (.int .i64 x12)∧
 R (.bool (((x11.len:Nat):Int)==x12)) h3) (R (.bool false) h3)) (R (.bool false) h2))
 (fun K1=>
 ∃x2:Int,cellOf h1 a1=some (.int .i64 x2)∧
 Br (decide (x2≥(0:Int))) (∃x3:Int,cellOf h1 a1=some (.int .i64 x3)∧
 Br (decide (x3≤(16777215:Int))) (∃x4:Int,cellOf h1 (a1.add 1)=some (.int .i64 x4)∧
 Br (decide (x4≥(0:Int))) (∃x5:Int,cellOf h1 (a1.add 1)=some (.int .i64 x5)∧
 Br (decide (x5<(8:Int))) (∃x6:Int,cellOf h1 (a1.add 2)=some (.int .i64 x6)∧
 Br (decide (x6≥(0:Int))) (∃x7:Int,cellOf h1 (a1.add 2)=some (.int .i64 x7)∧
 K1 (decide (x7≤(65535:Int))) h1) (K1 false h1)) (K1 false h1)) (K1 false h1)) (K1 false h1)) (K1 false h1))
theorem zS (r_0:Int×Int×Int×Int×Int×Int×Int×Sl) {R:Value→Heap→Prop} {h:Heap} (hm:ud r_0 R h):ab Tryz.prog 139 #[(.agg #[(.int .i64 r_0.1),(.int .i64 r_0.2.1),(.int .i64 r_0.2.2.1),(.int .i64 r_0.2.2.2.1),(.int .i64 r_0.2.2.2.2.1),(.int .i64 r_0.2.2.2.2.2.1),(.int .u32 r_0.2.2.2.2.2.2.1),(.slice r_0.2.2.2.2.2.2.2.ptr r_0.2.2.2.2.2.2.2.len r_0.2.2.2.2.2.2.2.cap)])] h R:=al ag Tryz.func139 (.two .n (.two (.join [(3,(.sc .bool))] [(3,32)] .n) .n)) hm
abbrev wR:FuncId:=140
noncomputable def oG (to_0:Sl) (n_1:Int) (size_2:Int) (R:Value→Heap→Prop) (h:Heap):Prop:=
 aK (σ:=Sl×Int) (fun s1 K1 h1=>
 Br (decide (s1.2≥(0:Int)))
 ((0≤(IntKind.wrap .i64 ((8:Int)*s1.2)))∧
 av Tryz.prog (Instr.buildSlice 45 1 #[(0,(.int .u8 (IntKind.wrap .u8 (Int.fdiv n_1 (2^min (IntKind.wrap .i64 ((8:Int)*s1.2)).toNat (IntKind.bits .i64))))))]) (.one (.sc .slc)) h1 fun v2 h2=>
 av Tryz.prog (Builtin.append_ #[45,45] 45 #[(.slice s1.1.ptr s1.1.len s1.1.cap),(.slice v2.ptr v2.len v2.cap)]) (.one (.sc .slc)) h2 fun v3 h3=>
 K1 ((⟨v3.ptr,v3.len,v3.cap⟩:Sl),IntKind.wrap .i64 (s1.2-(1:Int))) h3)
 (R (.slice s1.1.ptr s1.1.len s1.1.cap) h1)) ((⟨to_0.ptr,to_0.len,to_0.cap⟩:Sl),IntKind.wrap .i64 (size_2-(1:Int))) h
theorem vp (to_0:Sl) (n_1:Int) (size_2:Int) {R:Value→Heap→Prop} {h:Heap} (hm:oG to_0 n_1 size_2 R h):ab Tryz.prog 140 #[(.slice to_0.ptr to_0.len to_0.cap),(.int .i64 n_1),(.int .i64 size_2)] h R:=al ag Tryz.func140 (.two .n (.two (.two .n (.inn (.loop [(0,(.sc .slc)),(7,(.sc (.int .i64)))] [(0,1),(7,8),(10,22)] .n))) .n)) hm
abbrev jE:FuncId:=141
noncomputable def fL (data_0:Sl) (a_1:Int) (b_2:Int) (limit_3:Int) (cmp_4:FuncId×Array Value×Array Value) (R:Value→Heap→Prop) (h:Heap):Prop:=
 aK (σ:=Int×Int×Int×Bool×Bool) (fun s1 K1 h1=>
 Br (decide ((IntKind.wrap .i64 (s1.2.1-s1.1))≤(12:Int)))
 (af Tryz.prog 180 #[(.slice data_0.ptr data_0.len data_0.cap),(.int .i64 s1.1),(.int .i64 s1.2.1),(.func (.func cmp_4.1) cmp_4.2.1 cmp_4.2.2)] (.many []) h1 fun _ h2=>
 R (.tuple #[]) h2)
 (Br (s1.2.2.1==(0:Int))
 (af Tryz.prog 181 #[(.slice data_0.ptr data_0.len data_0.cap),(.int .i64 s1.1),(.int .i64 s1.2.1),(.func (.func cmp_4.1) cmp_4.2.1 cmp_4.2.2)] (.many []) h1 fun _ h3=>
 R (.tuple #[]) h3)
 (aW (σ:=Int) (fun s5 h5=>
 af Tryz.prog 183 #[(.slice data_0.ptr data_0.len data_0.cap),(.int .i64 s1.1),(.int .i64 s1.2.1),(.func (.func cmp_4.1) cmp_4.2.1 cmp_4.2.2)] (.many [(.sc (.int .i64)),(.sc (.int .i64))]) h5 fun r6 h6=>
 aW (σ:=Int×Int) (fun s8 h8=>
 aW (σ:=Unit) (fun _ h10=>
 aW (σ:=Int) (fun s18 h14=>
 af Tryz.prog 187 #[(.slice data_0.ptr data_0.len data_0.cap),(.int .i64 s18),(.int .i64 s1.2.1),(.int .i64 s8.1),(.func (.func cmp_4.1) cmp_4.2.1 cmp_4.2.2)] (.many [(.sc (.int .i64)),(.sc .bool)]) h14 fun r19 h15=>
 ((8:Int)≠0)∧
 Br (decide ((IntKind.wrap .i64 (r19.1-s18))<(IntKind.wrap .i64 (s1.2.1-r19.1))))
 (af Tryz.prog 141 #[(.slice data_0.ptr data_0.len data_0.cap),(.int .i64 s18),(.int .i64 r19.1),(.int .i64 s5),(.func (.func cmp_4.1) cmp_4.2.1 cmp_4.2.2)] (.many []) h15 fun _ h16=>
 K1 (IntKind.wrap .i64 (r19.1+(1:Int)),s1.2.1,s5,decide ((IntKind.wrap .i64 (r19.1-s18))≥(IntKind.wrap .i64 (Int.tdiv (IntKind.wrap .i64 (s1.2.1-s1.1)) (8:Int)))),r19.2) h16)
 (af Tryz.prog 141 #[(.slice data_0.ptr data_0.len data_0.cap),(.int .i64 (IntKind.wrap .i64 (r19.1+(1:Int)))),(.int .i64 s1.2.1),(.int .i64 s5),(.func (.func cmp_4.1) cmp_4.2.1 cmp_4.2.2)] (.many []) h15 fun _ h17=>
 K1 (s18,r19.1,s5,decide ((IntKind.wrap .i64 (s1.2.1-r19.1))≥(IntKind.wrap .i64 (Int.tdiv (IntKind.wrap .i64 (s1.2.1-s1.1)) (8:Int)))),r19.2) h17))
 (fun K5=>
 aW (σ:=Bool) (fun s16 h12=>
 Br s16
 (af Tryz.prog 186 #[(.slice data_0.ptr data_0.len data_0.cap),(.int .i64 s1.1),(.int .i64 s1.2.1),(.int .i64 s8.1),(.func (.func cmp_4.1) cmp_4.2.1 cmp_4.2.2)] (.one (.sc (.int .i64))) h12 fun r17 h13=>
 K1 (r17,s1.2.1,s5,s1.2.2.2.1,s1.2.2.2.2) h13)
 (K5 s1.1 h12))
 (fun K6=>
 Br (decide (s1.1>(0:Int))) (∃a11:Addr,(data_0.ptr=some a11∧0≤(IntKind.wrap .i64 (s1.1-(1:Int)))∧(IntKind.wrap .i64 (s1.1-(1:Int)))<((data_0.len:Nat):Int))∧
 ∃x12:ByteArray×Int×Int×Sl,ai h10 (a11.add ((IntKind.wrap .i64 (s1.1-(1:Int))).toNat*4)) 0 [(.string x12.1),(.int .i64 x12.2.1),(.int .i64 x12.2.2.1),(.slice x12.2.2.2.ptr x12.2.2.2.len x12.2.2.2.cap)]∧
 ∃a13:Addr,(data_0.ptr=some a13∧0≤s8.1∧s8.1<((data_0.len:Nat):Int))∧
 ∃x14:ByteArray×Int×Int×Sl,ai h10 (a13.add (s8.1.toNat*4)) 0 [(.string x14.1),(.int .i64 x14.2.1),(.int .i64 x14.2.2.1),(.slice x14.2.2.2.ptr x14.2.2.2.len x14.2.2.2.cap)]∧
 gv C cmp_4.1 (cmp_4.2.1.toList++[(.agg #[(.string x12.1),(.int .i64 x12.2.1),(.int .i64 x12.2.2.1),(.slice x12.2.2.2.ptr x12.2.2.2.len x12.2.2.2.cap)]),(.agg #[(.string x14.1),(.int .i64 x14.2.1),(.int .i64 x14.2.2.1),(.slice x14.2.2.2.ptr x14.2.2.2.len x14.2.2.2.cap)])]++cmp_4.2.2.toList) (.one (.sc (.int .i64))) h10 fun r15 h11=>
 (aw.ok [] h11)∧
 K6 (!(decide (r15<(0:Int)))) h11) ((aw.ok [] h10)∧
 K6 false h10))))
 (fun K4=>
 Br s1.2.2.2.1 (Br s1.2.2.2.2 (Br (s8.2==(1:Int))
 (af Tryz.prog 185 #[(.slice data_0.ptr data_0.len data_0.cap),(.int .i64 s1.1),(.int .i64 s1.2.1),(.func (.func cmp_4.1) cmp_4.2.1 cmp_4.2.2)] (.one (.sc .bool)) h8 fun r9 h9=>
 Br r9
 (R (.tuple #[]) h9)
 (K4 () h9))
 (K4 () h8)) (K4 () h8)) (K4 () h8)))
 (fun K3=>
 Br (r6.2==(2:Int))
 (af Tryz.prog 184 #[(.slice data_0.ptr data_0.len data_0.cap),(.int .i64 s1.1),(.int .i64 s1.2.1),(.func (.func cmp_4.1) cmp_4.2.1 cmp_4.2.2)] (.many []) h6 fun _ h7=>
 K3 (IntKind.wrap .i64 ((IntKind.wrap .i64 (s1.2.1-(1:Int)))-(IntKind.wrap .i64 (r6.1-s1.1))),(1:Int)) h7)
 (K3 (r6.1,r6.2) h6)))
 (fun K2=>
 Br (!s1.2.2.2.1)
 (af Tryz.prog 182 #[(.slice data_0.ptr data_0.len data_0.cap),(.int .i64 s1.1),(.int .i64 s1.2.1),(.func (.func cmp_4.1) cmp_4.2.1 cmp_4.2.2)] (.many []) h1 fun _ h4=>
 K2 (IntKind.wrap .i64 (s1.2.2.1-(1:Int))) h4)
 (K2 s1.2.2.1 h1))))) (a_1,b_2,limit_3,true,true) h
theorem jq (data_0:Sl) (a_1:Int) (b_2:Int) (limit_3:Int) (cmp_4:FuncId×Array Value×Array Value) {R:Value→Heap→Prop} {h:Heap} (hm:fL data_0 a_1 b_2 limit_3 cmp_4 R h):ab Tryz.prog 141 #[(.slice data_0.ptr data_0.len data_0.cap),(.int .i64 a_1),(.int .i64 b_2),(.int .i64 limit_3),(.func (.func cmp_4.1) cmp_4.2.1 cmp_4.2.2)] h R:=al ag Tryz.func141 (.two .n (.two .n (.inn (.loop [(1,(.sc (.int .i64))),(2,(.sc (.int .i64))),(3,(.sc (.int .i64))),(10,(.sc .bool)),(11,(.sc .bool))] [(1,4),(10,148)] (.inn (.two .n (.two .n (.two .n (.two (.join [(3,(.sc (.int .i64)))] [(3,4),(38,47)] .n) (.two .n (.two (.join [(13,(.sc (.int .i64))),(14,(.sc (.int .i64)))] [(13,15),(55,68)] .n) (.two (.join [] [(68,81)] .n) (.two (.join [(1,(.sc (.int .i64)))] [(1,2),(15,16),(81,105)] (.two (.join [(97,(.sc .bool))] [(81,98)] .n) .n)) .n))))))))))))) hm
abbrev nI:FuncId:=142
abbrev sF:FuncId:=143
noncomputable def me (x_0:ByteArray) (R:Value→Heap→Prop) (h:Heap):Prop:=
 R (.bool (!(x_0.toList==x_0.toList))) h
theorem rl (x_0:ByteArray) {R:Value→Heap→Prop} {h:Heap} (hm:me x_0 R h):ab Tryz.prog 143 #[(.string x_0)] h R:=al ag Tryz.func143 .n hm
noncomputable def fu (s_0:Sl) (f_1:FuncId×Array Value×Array Value) (R:Value→Heap→Prop) (h:Heap):Prop:=
 aK (σ:=Int) (fun s1 K1 h1=>
 Br (decide (s1<((s_0.len:Nat):Int)))
 (∃a2:Addr,(s_0.ptr=some a2∧0≤s1∧s1<((s_0.len:Nat):Int))∧
 ∃x3:Int,cellOf h1 (a2.add (s1.toNat*1))=some (.int .i64 x3)∧
 gv C f_1.1 (f_1.2.1.toList++[(.int .i64 x3)]++f_1.2.2.toList) (.one (.sc .bool)) h1 fun r4 h2=>
 Br r4
 (R (.int .i64 s1) h2)
 (K1 (IntKind.wrap .i64 (s1+(1:Int))) h2))
 (R (.int .i64 (-1:Int)) h1)) (0:Int) h
theorem gU (s_0:Sl) (f_1:FuncId×Array Value×Array Value) {R:Value→Heap→Prop} {h:Heap} (hm:fu s_0 f_1 R h):ab Tryz.prog 144 #[(.slice s_0.ptr s_0.len s_0.cap),(.func (.func f_1.1) f_1.2.1 f_1.2.2)] h R:=al ag Tryz.func144 (.two .n (.two (.two .n (.inn (.loop [(8,(.sc (.int .i64)))] [(4,6),(8,19)] .n))) .n)) hm
abbrev zT:FuncId:=145
noncomputable def rY (d_0:Option Addr) (there_1:Int) (n_2:Int) (R:Value→Heap→Prop) (h:Heap):Prop:=
 af Tryz.prog 84 #[(.pointer d_0)] (.one (.sc (.int .i64))) h fun r1 h1=>
 R (.bool (decide ((if(0:Int)>n_2 then(0:Int)else n_2)≤(IntKind.wrap .i64 (r1-there_1))))) h1
theorem yl (d_0:Option Addr) (there_1:Int) (n_2:Int) {R:Value→Heap→Prop} {h:Heap} (hm:rY d_0 there_1 n_2 R h):ab Tryz.prog 145 #[(.pointer d_0),(.int .i64 there_1),(.int .i64 n_2)] h R:=al ag Tryz.func145 .n hm
abbrev Db:FuncId:=146
noncomputable def vR (d_0:Option Addr) (m_1:Int×Int×Int×Int×Int×Int×Sl×Sl) (R:Value→Heap→Prop) (h:Heap):Prop:=
 aM Tryz.prog (Instr.box 50 (.agg #[(.int .i64 m_1.1),(.int .i64 m_1.2.1),(.int .i64 m_1.2.2.1),(.int .i64 m_1.2.2.2.1),(.int .i64 m_1.2.2.2.2.1),(.int .i64 m_1.2.2.2.2.2.1),(.slice m_1.2.2.2.2.2.2.1.ptr m_1.2.2.2.2.2.2.1.len m_1.2.2.2.2.2.2.1.cap),(.slice m_1.2.2.2.2.2.2.2.ptr m_1.2.2.2.2.2.2.2.len m_1.2.2.2.2.2.2.2.cap)])) h fun a1 h1=>
 ∃x2:Int×Int×Int×Int×Int×Int×Sl×Sl,ai h1 a1 0 [(.int .i64 x2.1),(.int .i64 x2.2.1),(.int .i64 x2.2.2.1),(.int .i64 x2.2.2.2.1),(.int .i64 x2.2.2.2.2.1),(.int .i64 x2.2.2.2.2.2.1),(.slice x2.2.2.2.2.2.2.1.ptr x2.2.2.2.2.2.2.1.len x2.2.2.2.2.2.2.1.cap),(.slice x2.2.2.2.2.2.2.2.ptr x2.2.2.2.2.2.2.2.len x2.2.2.2.2.2.2.2.cap)]∧
 ∃x3:Int×Int×Int×Int×Int×Int×Sl×Sl,ai h1 a1 0 [(.int .i64 x3.1),(.int .i64 x3.2.1),(.int .i64 x3.2.2.1),(.int .i64 x3.2.2.2.1),(.int .i64 x3.2.2.2.2.1),(.int .i64 x3.2.2.2.2.2.1),(.slice x3.2.2.2.2.2.2.1.ptr x3.2.2.2.2.2.2.1.len x3.2.2.2.2.2.2.1.cap),(.slice x3.2.2.2.2.2.2.2.ptr x3.2.2.2.2.2.2.2.len x3.2.2.2.2.2.2.2.cap)]∧
 af Tryz.prog 33 #[(.agg #[(.int .i64 x2.1),(.int .i64 x2.2.1),(.int .i64 x2.2.2.1),(.int .i64 x2.2.2.2.1),(.int .i64 x2.2.2.2.2.1),(.int .i64 x2.2.2.2.2.2.1),(.slice x2.2.2.2.2.2.2.1.ptr x2.2.2.2.2.2.2.1.len x2.2.2.2.2.2.2.1.cap),(.slice x2.2.2.2.2.2.2.2.ptr x2.2.2.2.2.2.2.2.len x2.2.2.2.2.2.2.2.cap)])] (.one (.sc .slc)) h1 fun r4 h2=>
 (aw.ok [(a1,(.int .i64 x3.1)),(a1.add 1,(.int .i64 x3.2.1)),(a1.add 2,(.int .i64 x3.2.2.1)),(a1.add 3,(.int .i64 x3.2.2.2.1)),(a1.add 4,(.int .i64 x3.2.2.2.2.1)),(a1.add 5,(.int .i64 x3.2.2.2.2.2.1)),(a1.add 6,(.slice x3.2.2.2.2.2.2.1.ptr x3.2.2.2.2.2.2.1.len x3.2.2.2.2.2.2.1.cap)),(a1.add 7,(.slice x3.2.2.2.2.2.2.2.ptr x3.2.2.2.2.2.2.2.len x3.2.2.2.2.2.2.2.cap))] h2)∧
 af Tryz.prog 190 #[(.pointer d_0),(.agg #[(.int .i64 x3.1),(.int .i64 x3.2.1),(.int .i64 x3.2.2.1),(.int .i64 x3.2.2.2.1),(.int .i64 x3.2.2.2.2.1),(.int .i64 x3.2.2.2.2.2.1),(.slice x3.2.2.2.2.2.2.1.ptr x3.2.2.2.2.2.2.1.len x3.2.2.2.2.2.2.1.cap),(.slice x3.2.2.2.2.2.2.2.ptr x3.2.2.2.2.2.2.2.len x3.2.2.2.2.2.2.2.cap)])] (.one (.sc .slc)) h2 fun r5 h3=>
 (aw.ok [] h3)∧
 av Tryz.prog (Builtin.append_ #[78,78] 78 #[(.slice r4.ptr r4.len r4.cap),(.slice r5.ptr r5.len r5.cap)]) (.one (.sc .slc)) h3 fun v6 h4=>
 (aw.ok [] h4)∧
 R (.slice v6.ptr v6.len v6.cap) h4
theorem BB (d_0:Option Addr) (m_1:Int×Int×Int×Int×Int×Int×Sl×Sl) {R:Value→Heap→Prop} {h:Heap} (hm:vR d_0 m_1 R h):ab Tryz.prog 146 #[(.pointer d_0),(.agg #[(.int .i64 m_1.1),(.int .i64 m_1.2.1),(.int .i64 m_1.2.2.1),(.int .i64 m_1.2.2.2.1),(.int .i64 m_1.2.2.2.2.1),(.int .i64 m_1.2.2.2.2.2.1),(.slice m_1.2.2.2.2.2.2.1.ptr m_1.2.2.2.2.2.2.1.len m_1.2.2.2.2.2.2.1.cap),(.slice m_1.2.2.2.2.2.2.2.ptr m_1.2.2.2.2.2.2.2.len m_1.2.2.2.2.2.2.2.cap)])] h R:=al ag Tryz.func146 .n hm
abbrev pk:FuncId:=147
noncomputable def kj (d_0:Option Addr) (l_1:Sl) (R:Value→Heap→Prop) (h:Heap):Prop:=
 aK (σ:=Int) (fun s1 K1 h1=>
 Br (decide (s1<((l_1.len:Nat):Int)))
 (∃a2:Addr,(l_1.ptr=some a2∧0≤s1∧s1<((l_1.len:Nat):Int))∧
 ∃x3:Sl,cellOf h1 (a2.add (s1.toNat*1))=some (.slice x3.ptr x3.len x3.cap)∧
 Br (((x3.len:Nat):Int) !=(64:Int))
 (R (.int .i64 (1:Int)) h1)
 (K1 (IntKind.wrap .i64 (s1+(1:Int))) h1))
 (aW (σ:=Unit) (fun _ h4=>
 ∃a13:Addr,(d_0=some a13)∧
 ∃x14:Option Addr,cellOf h4 a13=some (.pointer x14)∧
 af Tryz.prog 116 #[(.pointer x14)] (.one (.sc .bool)) h4 fun r15 h5=>
 Br (!r15)
 (af Tryz.prog 110 #[(.slice l_1.ptr l_1.len l_1.cap)] (.one (.sc .slc)) h5 fun r16 h6=>
 ∃a17:Addr,(d_0=some a17)∧
 ae Tryz.prog (Instr.storeAt 78 (.pointer (some (a17.add 4))) (.slice r16.ptr r16.len r16.cap)) h6 fun _ h7=>
 ∃a18:Addr,(d_0=some a18)∧
 ae Tryz.prog (Instr.storeAt 4 (.pointer (some (a18.add 5))) (.bool true)) h7 fun _ h8=>
 R (.int .i64 (14:Int)) h8)
 (af Tryz.prog 110 #[(.slice l_1.ptr l_1.len l_1.cap)] (.one (.sc .slc)) h5 fun r19 h9=>
 ∃a20:Addr,(d_0=some a20)∧
 ae Tryz.prog (Instr.storeAt 78 (.pointer (some (a20.add 2))) (.slice r19.ptr r19.len r19.cap)) h9 fun _ h10=>
 ∃a21:Addr,(d_0=some a21)∧
 ae Tryz.prog (Instr.storeAt 3 (.pointer (some (a21.add 3))) (.int .i64 (0:Int))) h10 fun _ h11=>
 af Tryz.prog 117 #[(.pointer d_0)] (.one (.sc (.int .i64))) h11 fun r22 h12=>
 R (.int .i64 r22) h12))
 (fun K2=>
 aW (σ:=Bool) (fun s6 h2=>
 Br s6
 (R (.int .i64 (5:Int)) h2)
 (∃a7:Addr,(d_0=some a7)∧
 ∃x8:Int,cellOf h2 (a7.add 1)=some (.int .i64 x8)∧
 Br (decide (((l_1.len:Nat):Int)>x8))
 (R (.int .i64 (7:Int)) h2)
 (∃a9:Addr,(d_0=some a9)∧
 ∃x10:Option Addr,cellOf h2 a9=some (.pointer x10)∧
 af Tryz.prog 29 #[(.pointer x10)] (.one (.sc .bool)) h2 fun r11 h3=>
 Br (!r11)
 (R (.int .i64 (14:Int)) h3)
 (K2 () h3))))
 (fun K3=>
 Br (Option.isNone d_0) (K3 true h1) (∃a4:Addr,(d_0=some a4)∧
 ∃x5:Bool,cellOf h1 (a4.add 6)=some (.bool x5)∧
 K3 x5 h1))))) (0:Int) h
theorem oo (d_0:Option Addr) (l_1:Sl) {R:Value→Heap→Prop} {h:Heap} (hm:kj d_0 l_1 R h):ab Tryz.prog 147 #[(.pointer d_0),(.slice l_1.ptr l_1.len l_1.cap)] h R:=al ag Tryz.func147 (.two .n (.two (.two .n (.inn (.loop [(9,(.sc (.int .i64)))] [(4,5),(6,7),(9,17)] .n))) (.two (.join [] [(4,5),(17,41)] (.inn (.two (.join [(17,(.sc .bool))] [(17,26)] .n) .n))) .n))) hm
abbrev EB:FuncId:=148
noncomputable def ym (f_0:Option Addr) (a_1:Sl) (R:Value→Heap→Prop) (h:Heap):Prop:=
 af Tryz.prog 191 #[(.pointer f_0),(.slice a_1.ptr a_1.len a_1.cap)] (.one (.sc .slc)) h fun r1 h1=>
 R (.int .i64 ((r1.len:Nat):Int)) h1
theorem Dc (f_0:Option Addr) (a_1:Sl) {R:Value→Heap→Prop} {h:Heap} (hm:ym f_0 a_1 R h):ab Tryz.prog 148 #[(.pointer f_0),(.slice a_1.ptr a_1.len a_1.cap)] h R:=al ag Tryz.func148 .n hm
end Go.Proofs.YtdoiokchdaoonaaGreat
