/- Part of the proofs that the laws of this seat answer true whatever the input reads, and leave it as it was; no condition. -/
import Derived.Test.YteieadfggboeeaaGreatDoorTabA
set_option linter.unusedVariables false
set_option linter.unusedSimpArgs false
namespace Go.Qw
open Go Go.Vc Go.Proofs
set_option maxRecDepth 1000000
variable {R:Value→Heap→Prop} {h:Heap}
abbrev pn:FuncId:=20
noncomputable def lx (l_0:Sl):Prop:=
 aI Tryz.prog (Instr.alloc 29 true (.tuple #[])) h fun a1 h1=>
 Br ((l_0.len:Int) !=3)
 (aa Tryz.prog (Instr.storeAt 29 a1 (.agg #[(.int .i64 (0:Int)),bx,(.slice none 0 0),(.int .i64 (0:Int)),(.int .i64 (0:Int)),(.int .i64 (0:Int)),(.int .u32 (0:Int)),(.slice none 0 0),(.slice none 0 0)])) h1 fun _ h2=>
 ∃res2:bE,ai h2 a1 0 res2∧
 R (.tuple #[res2,false]) h2)
 (∃a3:Addr,(l_0.ptr=some a3∧0≤(2:Int)∧(2:Int)<(l_0.len:Int))∧
 ∃x4:ByteArray,cellOf h1 (a3.add ((2:Int).toNat*1))=some (.string x4)∧
 ah Tryz.prog 42 #[x4] (.many [fw,eW]) h1 fun r5 h3=>
 Br (!r5.2)
 (aa Tryz.prog (Instr.storeAt 29 a1 (.agg #[(.int .i64 (0:Int)),bx,(.slice none 0 0),(.int .i64 (0:Int)),(.int .i64 (0:Int)),(.int .i64 (0:Int)),(.int .u32 (0:Int)),(.slice none 0 0),(.slice none 0 0)])) h3 fun _ h4=>
 ∃res6:bE,ai h4 a1 0 res6∧
 R (.tuple #[res6,false]) h4)
 (∃a7:Addr,(l_0.ptr=some a7∧0≤(1:Int)∧(1:Int)<(l_0.len:Int))∧
 ∃x8:ByteArray,cellOf h3 (a7.add ((1:Int).toNat*1))=some (.string x8)∧
 aa Tryz.prog (Instr.storeAt 29 a1 (.agg #[(.int .i64 (1:Int)),x8,r5.1,(.int .i64 (0:Int)),(.int .i64 (0:Int)),(.int .i64 (0:Int)),(.int .u32 (0:Int)),(.slice none 0 0),(.slice none 0 0)])) h3 fun _ h5=>
 ∃res9:bE,ai h5 a1 0 res9∧
 R (.tuple #[res9,true]) h5))
theorem oz (l_0:Sl) (hm: @lx R h l_0):ae Tryz.prog 20 #[l_0] h R:=az ag Tryz.func20 .n hm
abbrev nJ:FuncId:=21
noncomputable def jA (l_0:Sl):Prop:=
 aI Tryz.prog (Instr.alloc 29 true (.tuple #[])) h fun a1 h1=>
 au Tryz.prog (Instr.makeMap 82 none) (.one (.sc .mp)) h1 fun v2 h2=>
 aa Tryz.prog (Instr.mapUpdate 82 (.map v2) mi (.int .i64 (2:Int))) h2 fun _ h3=>
 aa Tryz.prog (Instr.mapUpdate 82 (.map v2) mj (.int .i64 (3:Int))) h3 fun _ h4=>
 aa Tryz.prog (Instr.mapUpdate 82 (.map v2) fN (.int .i64 (5:Int))) h4 fun _ h5=>
 ∃a3:Addr,(l_0.ptr=some a3∧0≤(0:Int)∧(0:Int)<(l_0.len:Int))∧
 ∃x4:ByteArray,cellOf h5 (a3.add ((0:Int).toNat*1))=some (.string x4)∧
 au Tryz.prog (Instr.lookup 82 (.map v2) x4 true) (.many [bk,eW]) h5 fun v5 h6=>
 aD (σ:=Unit) (fun _ h9=>
 ∃a9:Addr,(l_0.ptr=some a9∧0≤(1:Int)∧(1:Int)<(l_0.len:Int))∧
 ∃x10:ByteArray,cellOf h9 (a9.add ((1:Int).toNat*1))=some (.string x10)∧
 aa Tryz.prog (Instr.storeAt 29 a1 (.agg #[v5.1,x10,(.slice none 0 0),(.int .i64 (0:Int)),(.int .i64 (0:Int)),(.int .i64 (0:Int)),(.int .u32 (0:Int)),(.slice none 0 0),(.slice none 0 0)])) h9 fun _ h10=>
 ∃res11:bE,ai h10 a1 0 res11∧
 R (.tuple #[res11,true]) h10)
 (fun K1=>
 Br (!v5.2) (aa Tryz.prog (Instr.storeAt 29 a1 (.agg #[(.int .i64 (0:Int)),bx,(.slice none 0 0),(.int .i64 (0:Int)),(.int .i64 (0:Int)),(.int .i64 (0:Int)),(.int .u32 (0:Int)),(.slice none 0 0),(.slice none 0 0)])) h6 fun _ h7=>
 ∃res6:bE,ai h7 a1 0 res6∧
 R (.tuple #[res6,false]) h7) (Br ((l_0.len:Int) !=2)
 (aa Tryz.prog (Instr.storeAt 29 a1 (.agg #[(.int .i64 (0:Int)),bx,(.slice none 0 0),(.int .i64 (0:Int)),(.int .i64 (0:Int)),(.int .i64 (0:Int)),(.int .u32 (0:Int)),(.slice none 0 0),(.slice none 0 0)])) h6 fun _ h8=>
 ∃res7:bE,ai h8 a1 0 res7∧
 R (.tuple #[res7,false]) h8)
 (K1 () h6)))
theorem mW (l_0:Sl) (hm: @jA R h l_0):ae Tryz.prog 21 #[l_0] h R:=az ag Tryz.func21 (.two .n (.two .n (.two .n (.two (.join [] [(3,4),(17,25)] .n) .n)))) hm
abbrev ml:FuncId:=22
noncomputable def ie (l_0:Sl):Prop:=
 aS (σ:=Sl×Int) (fun s1 K1 h1=>
 Br (decide (s1.2<(l_0.len:Int)))
 (∃a2:Addr,(l_0.ptr=some a2∧0≤s1.2∧s1.2<(l_0.len:Int))∧
 ∃x3:ByteArray,cellOf h1 (a2.add (s1.2.toNat*1))=some (.string x3)∧
 ah Tryz.prog 43 #[x3] (.many [bk,eW]) h1 fun r4 h2=>
 Br (!r4.2)
 (R (.tuple #[(.slice none 0 0),false]) h2)
 (au Tryz.prog (Instr.buildSlice 22 1 #[(0,r4.1)]) aT h2 fun v5 h3=>
 au Tryz.prog (Builtin.append_ #[22,22] 22 #[s1.1,v5]) aT h3 fun v6 h4=>
 K1 ((⟨v6.ptr,v6.len,v6.cap⟩:Sl),IntKind.wrap .i64 (s1.2+1)) h4))
 (R (.tuple #[s1.1,true]) h1)) ((⟨none,0,0⟩:Sl),(0:Int)) h
theorem lF (l_0:Sl) (hm: @ie R h l_0):ae Tryz.prog 22 #[l_0] h R:=az ag Tryz.func22 (.two .n (.two .n (.two (.two .n (.inn (.loop [(4,fw),(11,bk)] [(2,5),(6,9),(11,27)] .n))) .n))) hm
abbrev mm:FuncId:=23
noncomputable def ig (w_0:ByteArray) (l_1:Sl):Prop:=
 aI Tryz.prog (Instr.alloc 29 true (.tuple #[])) h fun a1 h1=>
 aD (σ:=Unit) (fun _ h38=>
 aa Tryz.prog (Instr.storeAt 29 a1 (.agg #[(.int .i64 (0:Int)),bx,(.slice none 0 0),(.int .i64 (0:Int)),(.int .i64 (0:Int)),(.int .i64 (0:Int)),(.int .u32 (0:Int)),(.slice none 0 0),(.slice none 0 0)])) h38 fun _ h39=>
 ∃res67:bE,ai h39 a1 0 res67∧
 R (.tuple #[res67,false]) h39)
 (fun K1=>
 aD (σ:=Bool) (fun s2 h2=>
 Br s2
 (∃a3:Addr,(l_1.ptr=some a3∧0≤(0:Int)∧(0:Int)<(l_1.len:Int))∧
 ∃x4:Int,cellOf h2 (a3.add ((0:Int).toNat*1))=some (.int .i64 x4)∧
 ∃a5:Addr,(l_1.ptr=some a5∧0≤(1:Int)∧(1:Int)<(l_1.len:Int))∧
 ∃x6:Int,cellOf h2 (a5.add ((1:Int).toNat*1))=some (.int .i64 x6)∧
 aa Tryz.prog (Instr.storeAt 29 a1 (.agg #[(.int .i64 (6:Int)),bx,(.slice none 0 0),x4,x6,(.int .i64 (0:Int)),(.int .u32 (0:Int)),(.slice none 0 0),(.slice none 0 0)])) h2 fun _ h3=>
 (ar.ok [] h3)∧
 ∃res7:bE,ai h3 a1 0 res7∧
 R (.tuple #[res7,true]) h3)
 (aD (σ:=Bool) (fun s8 h4=>
 Br s8
 (∃a9:Addr,(l_1.ptr=some a9∧0≤(0:Int)∧(0:Int)<(l_1.len:Int))∧
 ∃x10:Int,cellOf h4 (a9.add ((0:Int).toNat*1))=some (.int .i64 x10)∧
 aa Tryz.prog (Instr.storeAt 29 a1 (.agg #[(.int .i64 (7:Int)),bx,(.slice none 0 0),x10,(.int .i64 (0:Int)),(.int .i64 (0:Int)),(.int .u32 (0:Int)),(.slice none 0 0),(.slice none 0 0)])) h4 fun _ h5=>
 ∃res11:bE,ai h5 a1 0 res11∧
 R (.tuple #[res11,true]) h5)
 (aD (σ:=Bool) (fun s12 h6=>
 Br s12
 (∃a13:Addr,(l_1.ptr=some a13∧0≤(0:Int)∧(0:Int)<(l_1.len:Int))∧
 ∃x14:Int,cellOf h6 (a13.add ((0:Int).toNat*1))=some (.int .i64 x14)∧
 ∃a15:Addr,(l_1.ptr=some a15∧0≤(1:Int)∧(1:Int)<(l_1.len:Int))∧
 ∃x16:Int,cellOf h6 (a15.add ((1:Int).toNat*1))=some (.int .i64 x16)∧
 aa Tryz.prog (Instr.storeAt 29 a1 (.agg #[(.int .i64 (8:Int)),bx,(.slice none 0 0),x14,x16,(.int .i64 (0:Int)),(.int .u32 (0:Int)),(.slice none 0 0),(.slice none 0 0)])) h6 fun _ h7=>
 (ar.ok [] h7)∧
 ∃res17:bE,ai h7 a1 0 res17∧
 R (.tuple #[res17,true]) h7)
 (aD (σ:=Bool) (fun s18 h8=>
 Br s18
 (∃a19:Addr,(l_1.ptr=some a19∧0≤(0:Int)∧(0:Int)<(l_1.len:Int))∧
 ∃x20:Int,cellOf h8 (a19.add ((0:Int).toNat*1))=some (.int .i64 x20)∧
 aa Tryz.prog (Instr.storeAt 29 a1 (.agg #[(.int .i64 (9:Int)),bx,(.slice none 0 0),x20,(.int .i64 (0:Int)),(.int .i64 (0:Int)),(.int .u32 (0:Int)),(.slice none 0 0),(.slice none 0 0)])) h8 fun _ h9=>
 ∃res21:bE,ai h9 a1 0 res21∧
 R (.tuple #[res21,true]) h9)
 (aD (σ:=Bool) (fun s22 h10=>
 Br s22
 (∃a23:Addr,(l_1.ptr=some a23∧0≤(0:Int)∧(0:Int)<(l_1.len:Int))∧
 ∃x24:Int,cellOf h10 (a23.add ((0:Int).toNat*1))=some (.int .i64 x24)∧
 ∃a25:Addr,(l_1.ptr=some a25∧0≤(1:Int)∧(1:Int)<(l_1.len:Int))∧
 ∃x26:Int,cellOf h10 (a25.add ((1:Int).toNat*1))=some (.int .i64 x26)∧
 aa Tryz.prog (Instr.storeAt 29 a1 (.agg #[(.int .i64 (10:Int)),bx,(.slice none 0 0),(.int .i64 (0:Int)),x24,x26,(.int .u32 (0:Int)),(.slice none 0 0),(.slice none 0 0)])) h10 fun _ h11=>
 (ar.ok [] h11)∧
 ∃res27:bE,ai h11 a1 0 res27∧
 R (.tuple #[res27,true]) h11)
 (aD (σ:=Bool) (fun s28 h12=>
 Br s28
 (∃a29:Addr,(l_1.ptr=some a29∧0≤(0:Int)∧(0:Int)<(l_1.len:Int))∧
 ∃x30:Int,cellOf h12 (a29.add ((0:Int).toNat*1))=some (.int .i64 x30)∧
 ∃a31:Addr,(l_1.ptr=some a31∧0≤(1:Int)∧(1:Int)<(l_1.len:Int))∧
 ∃x32:Int,cellOf h12 (a31.add ((1:Int).toNat*1))=some (.int .i64 x32)∧
 ∃a33:Addr,(l_1.ptr=some a33∧0≤(2:Int)∧(2:Int)<(l_1.len:Int))∧
 ∃x34:Int,cellOf h12 (a33.add ((2:Int).toNat*1))=some (.int .i64 x34)∧
 ∃a35:Addr,(l_1.ptr=some a35∧0≤(3:Int)∧(3:Int)<(l_1.len:Int))∧
 ∃x36:Int,cellOf h12 (a35.add ((3:Int).toNat*1))=some (.int .i64 x36)∧
 aa Tryz.prog (Instr.storeAt 29 a1 (.agg #[(.int .i64 (11:Int)),bx,(.slice none 0 0),x30,x32,x34,(.int .u32 (IntKind.wrap .u32 x36)),(.slice none 0 0),(.slice none 0 0)])) h12 fun _ h13=>
 (ar.ok [] h13)∧
 ∃res37:bE,ai h13 a1 0 res37∧
 R (.tuple #[res37,true]) h13)
 (aD (σ:=Bool) (fun s38 h14=>
 Br s38
 (∃a39:Addr,(l_1.ptr=some a39∧0≤(0:Int)∧(0:Int)<(l_1.len:Int))∧
 ∃x40:Int,cellOf h14 (a39.add ((0:Int).toNat*1))=some (.int .i64 x40)∧
 aa Tryz.prog (Instr.storeAt 29 a1 (.agg #[(.int .i64 (12:Int)),bx,(.slice none 0 0),(.int .i64 (0:Int)),x40,(.int .i64 (0:Int)),(.int .u32 (0:Int)),(.slice none 0 0),(.slice none 0 0)])) h14 fun _ h15=>
 ∃res41:bE,ai h15 a1 0 res41∧
 R (.tuple #[res41,true]) h15)
 (aD (σ:=Bool) (fun s42 h16=>
 Br s42
 (∃a43:Addr,(l_1.ptr=some a43∧0≤(0:Int)∧(0:Int)<(l_1.len:Int))∧
 ∃x44:Int,cellOf h16 (a43.add ((0:Int).toNat*1))=some (.int .i64 x44)∧
 aI Tryz.prog (Instr.alloc 29 true (.tuple #[])) h16 fun a45 h17=>
 aa Tryz.prog (Instr.storeAt 29 a45 (.agg #[(.int .i64 (13:Int)),bx,(.slice none 0 0),(.int .i64 (0:Int)),x44,(.int .i64 (0:Int)),(.int .u32 (0:Int)),(.slice none 0 0),(.slice none 0 0)])) h17 fun _ h18=>
 aS (σ:=Int) (fun s46 K10 h19=>
 Br (decide (s46<(l_1.len:Int)))
 (∃x47:Sl,cellOf h19 (a45.add 7)=some (.slice x47.ptr x47.len x47.cap)∧
 ∃a48:Addr,(l_1.ptr=some a48∧0≤s46∧s46<(l_1.len:Int))∧
 ∃x49:Int,cellOf h19 (a48.add (s46.toNat*1))=some (.int .i64 x49)∧
 ∃x50:Sl,cellOf h19 (a45.add 8)=some (.slice x50.ptr x50.len x50.cap)∧
 ∃a51:Addr,(l_1.ptr=some a51∧0≤(IntKind.wrap .i64 (s46+1))∧(IntKind.wrap .i64 (s46+1))<(l_1.len:Int))∧
 ∃x52:Int,cellOf h19 (a51.add ((IntKind.wrap .i64 (s46+1)).toNat*1))=some (.int .i64 x52)∧
 (au Tryz.prog (Instr.buildSlice 22 1 #[(0,x49)]) aT h19 fun v53 h20=>
 (ar.ok [(a51.add ((IntKind.wrap .i64 (s46+1)).toNat*1),x52),(a45.add 8,x50),(a45.add 7,x47)] h20)∧
 (au Tryz.prog (Builtin.append_ #[22,22] 22 #[x47,v53]) aT h20 fun v54 h21=>
 (ar.ok [(a51.add ((IntKind.wrap .i64 (s46+1)).toNat*1),x52),(a45.add 8,x50)] h21)∧
 au Tryz.prog (Instr.buildSlice 22 1 #[(0,x52)]) aT h21 fun v55 h22=>
 (ar.ok [(a45.add 8,x50)] h22)∧
 au Tryz.prog (Builtin.append_ #[22,22] 22 #[x50,v55]) aT h22 fun v56 h23=>
 (ar.ok [] h23)∧
 aa Tryz.prog (Instr.storeAt 22 (a45.add 7) v54) h23 fun _ h24=>
 (ar.ok [] h24)∧
 aa Tryz.prog (Instr.storeAt 22 (a45.add 8) v56) h24 fun _ h25=>
 (ar.ok [] h25)∧
 K10 (IntKind.wrap .i64 (s46+2)) h25)∧(au Tryz.prog (Instr.buildSlice 22 1 #[(0,x52)]) aT h20 fun v57 h26=>
 (ar.ok [(a45.add 8,x50),(a45.add 7,x47)] h26)∧
 au Tryz.prog (Builtin.append_ #[22,22] 22 #[x47,v53]) aT h26 fun v58 h27=>
 (ar.ok [(a45.add 8,x50)] h27)∧
 au Tryz.prog (Builtin.append_ #[22,22] 22 #[x50,v57]) aT h27 fun v59 h28=>
 (ar.ok [] h28)∧
 aa Tryz.prog (Instr.storeAt 22 (a45.add 7) v58) h28 fun _ h29=>
 (ar.ok [] h29)∧
 aa Tryz.prog (Instr.storeAt 22 (a45.add 8) v59) h29 fun _ h30=>
 (ar.ok [] h30)∧
 K10 (IntKind.wrap .i64 (s46+2)) h30))∧(au Tryz.prog (Instr.buildSlice 22 1 #[(0,x52)]) aT h19 fun v60 h31=>
 (ar.ok [(a45.add 8,x50),(a48.add (s46.toNat*1),x49),(a45.add 7,x47)] h31)∧
 au Tryz.prog (Instr.buildSlice 22 1 #[(0,x49)]) aT h31 fun v61 h32=>
 (ar.ok [(a45.add 8,x50),(a45.add 7,x47)] h32)∧
 au Tryz.prog (Builtin.append_ #[22,22] 22 #[x47,v61]) aT h32 fun v62 h33=>
 (ar.ok [(a45.add 8,x50)] h33)∧
 au Tryz.prog (Builtin.append_ #[22,22] 22 #[x50,v60]) aT h33 fun v63 h34=>
 (ar.ok [] h34)∧
 aa Tryz.prog (Instr.storeAt 22 (a45.add 7) v62) h34 fun _ h35=>
 (ar.ok [] h35)∧
 aa Tryz.prog (Instr.storeAt 22 (a45.add 8) v63) h35 fun _ h36=>
 (ar.ok [] h36)∧
 K10 (IntKind.wrap .i64 (s46+2)) h36))
 (∃x64:bE,ai h19 a45 0 x64∧
 aa Tryz.prog (Instr.storeAt 29 a1 x64) h19 fun _ h37=>
 ∃res65:bE,ai h37 a1 0 res65∧
 R (.tuple #[res65,true]) h37)) (1:Int) h18)
 (K1 () h16))
 (fun K9=>
 Br (w_0.toList==sK.toList) (((2:Int)≠0)∧
 K9 ((Int.tmod (l_1.len:Int) 2)==1) h14) (K9 false h14))))
 (fun K8=>
 Br (w_0.toList==um.toList) (K8 ((l_1.len:Int)==1) h12) (K8 false h12))))
 (fun K7=>
 Br (w_0.toList==rF.toList) (K7 ((l_1.len:Int)==4) h10) (K7 false h10))))
 (fun K6=>
 Br (w_0.toList==rE.toList) (K6 ((l_1.len:Int)==2) h8) (K6 false h8))))
 (fun K5=>
 Br (w_0.toList==sJ.toList) (K5 ((l_1.len:Int)==1) h6) (K5 false h6))))
 (fun K4=>
 Br (w_0.toList==pl.toList) (K4 ((l_1.len:Int)==2) h4) (K4 false h4))))
 (fun K3=>
 Br (w_0.toList==qr.toList) (K3 ((l_1.len:Int)==1) h2) (K3 false h2))))
 (fun K2=>
 Br (w_0.toList==ul.toList) (K2 ((l_1.len:Int)==2) h1) (K2 false h1)))
theorem lG (w_0:ByteArray) (l_1:Sl) (hm: @ig R h w_0 l_1):ae Tryz.prog 23 #[w_0,l_1] h R:=az ag Tryz.func23 (.two .n (.two (.join [] [(5,150)] (.inn (.two (.join [(8,eW)] [(8,16)] .n) (.two .n (.two (.join [(23,eW)] [(23,31)] .n) (.two .n (.two (.join [(35,eW)] [(35,43)] .n) (.two .n (.two (.join [(50,eW)] [(50,58)] .n) (.two .n (.two (.join [(62,eW)] [(62,70)] .n) (.two .n (.two (.join [(77,eW)] [(77,85)] .n) (.two .n (.two (.join [(99,eW)] [(99,107)] .n) (.two .n (.two (.join [(111,eW)] [(111,120)] .n) (.two (.two .n (.two (.two .n (.inn (.loop [(7,bk)] [(7,8),(124,149)] .n))) .n)) .n)))))))))))))))))) .n)) hm
abbrev oA:FuncId:=29
noncomputable def kp (i_0:Int):Prop:=
 ah Tryz.prog 46 #[i_0] (.one bo) h fun r1 h1=>
 R r1 h1
theorem nK (i_0:Int) (hm: @kp R h i_0):ae Tryz.prog 29 #[i_0] h R:=az ag Tryz.func29 .n hm
abbrev po:FuncId:=30
noncomputable def ly (b_0:Sl):Prop:=
 Br ((b_0.len:Int)==0)
 (R ko h)
 (aI Tryz.prog (Instr.alloc 65 true (.tuple #[])) h fun a1 h1=>
 aS (σ:=Int) (fun s2 K1 h2=>
 Br (decide (s2<(b_0.len:Int)))
 (∃a3:Addr,(b_0.ptr=some a3∧0≤s2∧s2<(b_0.len:Int))∧
 ∃x4:Int,cellOf h2 (a3.add (s2.toNat*1))=some (.int .u8 x4)∧
 ((16:Int)≠0)∧
 ∃c5:UInt8,(0≤(IntKind.wrap .u8 (Int.tdiv x4 16))∧ap.data[(IntKind.wrap .u8 (Int.tdiv x4 16)).toNat]?=some c5)∧
 ah Tryz.prog 47 #[a1,(.int .u8 (c5.toNat:Int))] (.one (.sc .any)) h2 fun _ h3=>
 ((16:Int)≠0)∧
 ∃c7:UInt8,(0≤(Int.tmod x4 16)∧ap.data[(Int.tmod x4 16).toNat]?=some c7)∧
 ah Tryz.prog 47 #[a1,(.int .u8 (c7.toNat:Int))] (.one (.sc .any)) h3 fun _ h4=>
 K1 (IntKind.wrap .i64 (s2+1)) h4)
 (ah Tryz.prog 32 #[a1] (.one bo) h2 fun r9 h5=>
 R r9 h5)) (0:Int) h1)
theorem oB (b_0:Sl) (hm: @ly R h b_0):ae Tryz.prog 30 #[b_0] h R:=az ag Tryz.func30 (.two .n (.two .n (.two .n (.two (.two .n (.inn (.loop [(11,bk)] [(5,6),(11,24)] .n))) .n)))) hm
abbrev bR:FuncId:=31
noncomputable def df (b_0:Option Addr) (s_1:ByteArray):Prop:=
 ah Tryz.prog 48 #[b_0] vr h fun _ h1=>
 ∃a2:Addr,(b_0=some a2)∧
 ∃x3:Sl,cellOf h1 (a2.add 1)=some (.slice x3.ptr x3.len x3.cap)∧
 au Tryz.prog (Builtin.append_ #[26,9] 26 #[x3,s_1]) aT h1 fun v4 h2=>
 ∃a5:Addr,(b_0=some a5)∧
 aa Tryz.prog (Instr.storeAt 26 (a5.add 1) v4) h2 fun _ h3=>
 R (.tuple #[(.int .i64 (s_1.size:Int)),.nilIface]) h3
theorem fD (b_0:Option Addr) (s_1:ByteArray) (hm: @df R h b_0 s_1):ae Tryz.prog 31 #[b_0,s_1] h R:=az ag Tryz.func31 .n hm
abbrev jZ:FuncId:=33
noncomputable def fx (n_0:Int):Prop:=
 aD (σ:=Int) (fun s1 h1=>
 aS (σ:=ByteArray×Int) (fun s2 K2 h2=>
 Br (decide (s2.2>9))
 (((10:Int)≠0)∧
 ((10:Int)≠0)∧
 (0≤(Int.tmod s2.2 10)∧(Int.tmod s2.2 10)≤(IntKind.wrap .u64 ((Int.tmod s2.2 10)+1))∧(IntKind.wrap .u64 ((Int.tmod s2.2 10)+1))≤(ap.size:Int))∧
 ((((ap.extract (Int.tmod s2.2 10).toNat ((IntKind.wrap .u64 ((Int.tmod s2.2 10)+1)).toNat)).size+s2.1.size:Nat):Int)≤IntKind.max .i64)∧
 ((10:Int)≠0)∧
 K2 ((ap.extract (Int.tmod s2.2 10).toNat ((IntKind.wrap .u64 ((Int.tmod s2.2 10)+1)).toNat))++s2.1,IntKind.wrap .u64 (Int.tdiv s2.2 10)) h2)
 ((0≤s2.2∧s2.2≤(IntKind.wrap .u64 (s2.2+1))∧(IntKind.wrap .u64 (s2.2+1))≤(ap.size:Int))∧
 ((((ap.extract s2.2.toNat ((IntKind.wrap .u64 (s2.2+1)).toNat)).size+s2.1.size:Nat):Int)≤IntKind.max .i64)∧
 Br (decide (n_0<0))
 ((((ko.size+((ap.extract s2.2.toNat ((IntKind.wrap .u64 (s2.2+1)).toNat))++s2.1).size:Nat):Int)≤IntKind.max .i64)∧
 R (.string (ko++((ap.extract s2.2.toNat ((IntKind.wrap .u64 (s2.2+1)).toNat))++s2.1))) h2)
 (R (.string ((ap.extract s2.2.toNat ((IntKind.wrap .u64 (s2.2+1)).toNat))++s2.1)) h2))) (bx,s1) h1)
 (fun K1=>
 Br (decide (n_0<0))
 (K1 (IntKind.wrap .u64 ((IntKind.wrap .u64 (IntKind.wrap .i64 (0-(IntKind.wrap .i64 (n_0+1)))))+1)) h)
 (K1 (IntKind.wrap .u64 n_0) h))
theorem jp (n_0:Int) (hm: @fx R h n_0):ae Tryz.prog 33 #[n_0] h R:=az ag Tryz.func33 (.two .n (.two .n (.two (.join [(4,(.sc (.int .u64)))] [(4,5),(7,14)] .n) (.two (.inn (.loop [(3,bo),(4,(.sc (.int .u64)))] [(3,5),(14,26)] .n)) .n)))) hm
abbrev ka:FuncId:=34
noncomputable def fz (b_0:Sl):Prop:=
 Br ((b_0.len:Int)==0)
 (R ko h)
 (aS (σ:=ByteArray×Int) (fun s1 K1 h1=>
 Br (decide (s1.2<(b_0.len:Int)))
 (∃a2:Addr,(b_0.ptr=some a2∧0≤s1.2∧s1.2<(b_0.len:Int))∧
 ∃x3:Int,cellOf h1 (a2.add (s1.2.toNat*1))=some (.int .u8 x3)∧
 ((16:Int)≠0)∧
 ((16:Int)≠0)∧
 (0≤(IntKind.wrap .u8 (Int.tdiv x3 16))∧(IntKind.wrap .u8 (Int.tdiv x3 16))≤(IntKind.wrap .u8 ((IntKind.wrap .u8 (Int.tdiv x3 16))+1))∧(IntKind.wrap .u8 ((IntKind.wrap .u8 (Int.tdiv x3 16))+1))≤(ap.size:Int))∧
 (((s1.1.size+(ap.extract (IntKind.wrap .u8 (Int.tdiv x3 16)).toNat ((IntKind.wrap .u8 ((IntKind.wrap .u8 (Int.tdiv x3 16))+1)).toNat)).size:Nat):Int)≤IntKind.max .i64)∧
 ((16:Int)≠0)∧
 ((16:Int)≠0)∧
 (0≤(Int.tmod x3 16)∧(Int.tmod x3 16)≤(IntKind.wrap .u8 ((Int.tmod x3 16)+1))∧(IntKind.wrap .u8 ((Int.tmod x3 16)+1))≤(ap.size:Int))∧
 ((((s1.1++(ap.extract (IntKind.wrap .u8 (Int.tdiv x3 16)).toNat ((IntKind.wrap .u8 ((IntKind.wrap .u8 (Int.tdiv x3 16))+1)).toNat))).size+(ap.extract (Int.tmod x3 16).toNat ((IntKind.wrap .u8 ((Int.tmod x3 16)+1)).toNat)).size:Nat):Int)≤IntKind.max .i64)∧
 K1 ((s1.1++(ap.extract (IntKind.wrap .u8 (Int.tdiv x3 16)).toNat ((IntKind.wrap .u8 ((IntKind.wrap .u8 (Int.tdiv x3 16))+1)).toNat)))++(ap.extract (Int.tmod x3 16).toNat ((IntKind.wrap .u8 ((Int.tmod x3 16)+1)).toNat)),IntKind.wrap .i64 (s1.2+1)) h1)
 (R s1.1 h1)) (bx,(0:Int)) h)
theorem jq (b_0:Sl) (hm: @fz R h b_0):ae Tryz.prog 34 #[b_0] h R:=az ag Tryz.func34 (.two .n (.two .n (.two .n (.two (.two .n (.inn (.loop [(3,bo),(11,bk)] [(3,4),(5,6),(11,31)] .n))) .n)))) hm
abbrev kq:FuncId:=37
noncomputable def lz (p_0:gQ) (extra_1:Int) (cells_2:Sl):Prop:=
 aI Tryz.prog (Instr.box 44 p_0) h fun a1 h1=>
 ah Tryz.prog 49 #[] xf h1 fun r2 h2=>
 ∃x3:gQ,ai h2 a1 0 x3∧
 ah Tryz.prog 50 #[x3,extra_1,r2,cells_2] (.many [zC,bk]) h2 fun r4 h3=>
 Br (r4.2 !=0)
 (R (.tuple #[(.pointer none),r4.2]) h3)
 (∃v5:Value,(ao Tryz.prog (Instr.build 98 #[(0,r2),(1,r4.1)]) v5)∧
 aI Tryz.prog (Instr.box 98 v5) h3 fun a6 h4=>
 R (.tuple #[a6,(.int .i64 (0:Int))]) h4)
theorem oC (p_0:gQ) (extra_1:Int) (cells_2:Sl) (hm: @lz R h p_0 extra_1 cells_2):ae Tryz.prog 37 #[p_0,extra_1,cells_2] h R:=az ag Tryz.func37 .n hm
abbrev iS:FuncId:=38
noncomputable def jB (s_0:ByteArray):Prop:=
 aI Tryz.prog (Instr.box 9 s_0) h fun a1 h1=>
 R (.func (.func 51) #[] #[a1]) h1
theorem mX (s_0:ByteArray) (hm: @jB R h s_0):ae Tryz.prog 38 #[s_0] h R:=az ag Tryz.func38 .n hm
abbrev fA:FuncId:=39
abbrev fB:FuncId:=40
noncomputable def fO (a_0:Option Addr) (m_1:bE):Prop:=
 aI Tryz.prog (Instr.box 29 m_1) h fun a1 h1=>
 aI Tryz.prog (Instr.alloc 38 true (.tuple #[])) h1 fun a2 h2=>
 Br (Option.isNone a_0)
 (aa Tryz.prog (Instr.storeAt 38 a2 (.agg #[(.int .i64 (14:Int)),(.slice none 0 0),(.slice none 0 0),(.int .i64 (0:Int)),(.int .i64 (0:Int)),(.int .i64 (0:Int)),(.slice none 0 0),(.int .i64 (0:Int))])) h2 fun _ h3=>
 ∃res3:fM,ai h3 a2 0 res3∧
 R res3 h3)
 (aD (σ:=Unit) (fun _ h24=>
 ∃x41:fM,ai h24 a2 0 x41∧
 aa Tryz.prog (Instr.storeAt 38 a2 x41) h24 fun _ h25=>
 ∃res42:fM,ai h25 a2 0 res42∧
 R res42 h25)
 (fun K1=>
 ∃x4:Int,cellOf h2 a1=some (.int .i64 x4)∧
 aD (σ:=Bool) (fun s5 h4=>
 Br s5
 (∃x6:bE,ai h4 a1 0 x6∧
 ah Tryz.prog 54 #[a_0,x6] (.one (.agg [(.int .i64),.slc,.slc,(.int .i64),(.int .i64),(.int .i64),.slc,(.int .i64)])) h4 fun r7 h5=>
 aa Tryz.prog (Instr.storeAt 38 a2 r7) h5 fun _ h6=>
 ∃res8:fM,ai h6 a2 0 res8∧
 R res8 h6)
 (Br (x4==6)
 (∃a9:Addr,(a_0=some a9)∧
 ∃x10:Option Addr,cellOf h4 (a9.add 1)=some (.pointer x10)∧
 ∃x11:Int,cellOf h4 (a1.add 3)=some (.int .i64 x11)∧
 ∃x12:Int,cellOf h4 (a1.add 4)=some (.int .i64 x12)∧
 ah Tryz.prog 55 #[x10,x11,x12] cU h4 fun r13 h7=>
 (ar.ok [] h7)∧
 aa Tryz.prog (Instr.storeAt 34 a2 r13) h7 fun _ h8=>
 (ar.ok [] h8)∧
 K1 () h8)
 (Br (x4==7)
 (∃a14:Addr,(a_0=some a14)∧
 ∃x15:Option Addr,cellOf h4 (a14.add 1)=some (.pointer x15)∧
 ∃x16:Int,cellOf h4 (a1.add 3)=some (.int .i64 x16)∧
 ah Tryz.prog 56 #[x15,x16] cU h4 fun r17 h9=>
 (ar.ok [] h9)∧
 aa Tryz.prog (Instr.storeAt 34 a2 r17) h9 fun _ h10=>
 (ar.ok [] h10)∧
 K1 () h10)
 (Br (x4==8)
 (∃a18:Addr,(a_0=some a18)∧
 ∃x19:Option Addr,cellOf h4 (a18.add 1)=some (.pointer x19)∧
 ∃x20:Int,cellOf h4 (a1.add 3)=some (.int .i64 x20)∧
 ∃x21:Int,cellOf h4 (a1.add 4)=some (.int .i64 x21)∧
 ah Tryz.prog 57 #[x19,x20,x21] cU h4 fun r22 h11=>
 (ar.ok [] h11)∧
 aa Tryz.prog (Instr.storeAt 34 a2 r22) h11 fun _ h12=>
 (ar.ok [] h12)∧
 K1 () h12)
 (Br (x4==9)
 (∃a23:Addr,(a_0=some a23)∧
 ∃x24:Option Addr,cellOf h4 (a23.add 1)=some (.pointer x24)∧
 ∃x25:Int,cellOf h4 (a1.add 3)=some (.int .i64 x25)∧
 ah Tryz.prog 58 #[x24,x25] cU h4 fun r26 h13=>
 (ar.ok [] h13)∧
 aa Tryz.prog (Instr.storeAt 34 a2 r26) h13 fun _ h14=>
 (ar.ok [] h14)∧
 K1 () h14)
 (Br (x4==10)
 (∃a27:Addr,(a_0=some a27)∧
 ∃x28:Option Addr,cellOf h4 (a27.add 1)=some (.pointer x28)∧
 ∃x29:Int,cellOf h4 (a1.add 4)=some (.int .i64 x29)∧
 ∃x30:Int,cellOf h4 (a1.add 5)=some (.int .i64 x30)∧
 ah Tryz.prog 59 #[x28,x29,x30] (.many [bk,bk]) h4 fun r31 h15=>
 (ar.ok [] h15)∧
 aa Tryz.prog (Instr.storeAt 3 (a2.add 7) r31.1) h15 fun _ h16=>
 (ar.ok [] h16)∧
 aa Tryz.prog (Instr.storeAt 34 a2 r31.2) h16 fun _ h17=>
 (ar.ok [] h17)∧
 K1 () h17)
 (Br (x4==11)
 (∃x32:bE,ai h4 a1 0 x32∧
 ah Tryz.prog 60 #[a_0,x32] cU h4 fun r33 h18=>
 aa Tryz.prog (Instr.storeAt 34 a2 r33) h18 fun _ h19=>
 K1 () h19)
 (Br (x4==12)
 (∃a34:Addr,(a_0=some a34)∧
 ∃x35:Option Addr,cellOf h4 a34=some (.pointer x35)∧
 ∃x36:Int,cellOf h4 (a1.add 4)=some (.int .i64 x36)∧
 ah Tryz.prog 61 #[x35,x36] vr h4 fun _ h20=>
 (ar.ok [] h20)∧
 K1 () h20)
 (Br (x4==13)
 (∃x38:bE,ai h4 a1 0 x38∧
 ah Tryz.prog 62 #[a_0,x38] cU h4 fun r39 h21=>
 aa Tryz.prog (Instr.storeAt 34 a2 r39) h21 fun _ h22=>
 K1 () h22)
 (aa Tryz.prog (Instr.storeAt 34 a2 (.int .i64 (1:Int))) h4 fun _ h23=>
 K1 () h23))))))))))
 (fun K2=>
 Br (x4==1)
 (K2 (x4==1) h2)
 (Br (x4==2)
 (K2 (x4==2) h2)
 (Br (x4==3)
 (K2 (x4==3) h2)
 (Br (x4==4)
 (K2 (x4==4) h2)
 (K2 (x4==5) h2)))))))
theorem kb (a_0:Option Addr) (m_1:bE) (hm: @fO R h a_0 m_1):ae Tryz.prog 40 #[a_0,m_1] h R:=az ag Tryz.func40 (.two .n (.two .n (.two (.join [] [(8,101)] (.two .n (.inn (.two (.join [(11,eW)] [(11,17)] .n) .n)))) .n))) hm
abbrev oD:FuncId:=42
noncomputable def kr (w_0:ByteArray):Prop:=
 Br (w_0.toList==ko.toList)
 (R (.tuple #[(.slice none 0 0),true]) h)
 (aD (σ:=Unit) (fun _ h2=>
 aS (σ:=Sl×Int) (fun s3 K2 h3=>
 Br (decide (s3.2<(w_0.size:Int)))
 (aD (σ:=Int×Int) (fun s8 h6=>
 au Tryz.prog (Instr.buildSlice 26 1 #[(0,(.int .u8 (IntKind.wrap .u8 (IntKind.wrap .i64 ((IntKind.wrap .i64 (s8.1*16))+s8.2)))))]) aT h6 fun v9 h7=>
 au Tryz.prog (Builtin.append_ #[26,26] 26 #[s3.1,v9]) aT h7 fun v10 h8=>
 K2 ((⟨v10.ptr,v10.len,v10.cap⟩:Sl),IntKind.wrap .i64 (s3.2+2)) h8)
 (fun K3=>
 ∃c4:UInt8,(0≤s3.2∧w_0.data[s3.2.toNat]?=some c4)∧
 ∃c5:UInt8,(0≤(IntKind.wrap .i64 (s3.2+1))∧w_0.data[(IntKind.wrap .i64 (s3.2+1)).toNat]?=some c5)∧
 ah Tryz.prog 52 #[ap,(.int .u8 (c4.toNat:Int))] cU h3 fun r6 h4=>
 (ar.ok [] h4)∧
 ah Tryz.prog 52 #[ap,(.int .u8 (c5.toNat:Int))] cU h4 fun r7 h5=>
 (ar.ok [] h5)∧
 K3 (r6,r7) h5))
 (R (.tuple #[s3.1,true]) h3)) ((⟨none,0,0⟩:Sl),(0:Int)) h2)
 (fun K1=>
 ((2:Int)≠0)∧
 Br ((Int.tmod (w_0.size:Int) 2)==1) (R (.tuple #[(.slice none 0 0),false]) h) (ah Tryz.prog 66 #[w_0,ap] (.one bo) h fun r1 h1=>
 Br (decide ((r1.size:Int)>0))
 (R (.tuple #[(.slice none 0 0),false]) h1)
 (K1 () h1))))
theorem nL (w_0:ByteArray) (hm: @kr R h w_0):ae Tryz.prog 42 #[w_0] h R:=az ag Tryz.func42 (.two .n (.two .n (.two (.join [] [(2,4),(10,20)] .n) (.two .n (.two (.two .n (.inn (.loop [(4,fw),(5,bk)] [(4,8),(20,43)] (.two .n (.two (.inn (.two (.join [(6,bk),(7,bk)] [(6,8),(26,35)] .n) .n)) .n))))) .n))))) hm
abbrev mY:FuncId:=43
noncomputable def iT (w_0:ByteArray):Prop:=
 aD (σ:=Unit) (fun _ h3=>
 ah Tryz.prog 67 #[w_0] (.many [bk,(.sc .any)]) h3 fun r5 h4=>
 ∃b6:Bool,(fF Tryz.prog .eql 68 (.tmp 37) (.const .nilIface) r5.2 .nilIface (.bool b6))∧
 R (.tuple #[r5.1,b6]) h4)
 (fun K1=>
 Br (decide ((w_0.size:Int)<1)) (R (.tuple #[(.int .i64 (0:Int)),false]) h) (Br (decide ((w_0.size:Int)>9)) (R (.tuple #[(.int .i64 (0:Int)),false]) h) (∃c1:UInt8,(0≤(0:Int)∧w_0.data[(0:Int).toNat]?=some c1)∧
 Br ((c1.toNat:Int)==48) (Br (decide ((w_0.size:Int)>1)) (R (.tuple #[(.int .i64 (0:Int)),false]) h) ((0≤(10:Int)∧(10:Int)≤(ap.size:Int))∧
 ah Tryz.prog 66 #[w_0,(.string (ap.extract 0 ((10:Int).toNat)))] (.one bo) h fun r2 h1=>
 Br (decide ((r2.size:Int)>0))
 (R (.tuple #[(.int .i64 (0:Int)),false]) h1)
 (K1 () h1))) ((0≤(10:Int)∧(10:Int)≤(ap.size:Int))∧
 ah Tryz.prog 66 #[w_0,(.string (ap.extract 0 ((10:Int).toNat)))] (.one bo) h fun r3 h2=>
 Br (decide ((r3.size:Int)>0))
 (R (.tuple #[(.int .i64 (0:Int)),false]) h2)
 (K1 () h2)))))
theorem mo (w_0:ByteArray) (hm: @iT R h w_0):ae Tryz.prog 43 #[w_0] h R:=az ag Tryz.func43 (.two .n (.two (.join [] [(2,4),(6,31)] .n) .n)) hm
abbrev iU:FuncId:=46
noncomputable def eP (i_0:Int):Prop:=
 ah Tryz.prog 68 #[i_0,(.int .i64 (10:Int))] (.one bo) h fun r1 h1=>
 R r1 h1
theorem iu (i_0:Int) (hm: @eP R h i_0):ae Tryz.prog 46 #[i_0] h R:=az ag Tryz.func46 .n hm
abbrev gw:FuncId:=47
noncomputable def dC (b_0:Option Addr) (c_1:Int):Prop:=
 ah Tryz.prog 48 #[b_0] vr h fun _ h1=>
 ∃a2:Addr,(b_0=some a2)∧
 ∃x3:Sl,cellOf h1 (a2.add 1)=some (.slice x3.ptr x3.len x3.cap)∧
 au Tryz.prog (Instr.buildSlice 26 1 #[(0,(.int .u8 c_1))]) aT h1 fun v4 h2=>
 au Tryz.prog (Builtin.append_ #[26,26] 26 #[x3,v4]) aT h2 fun v5 h3=>
 ∃a6:Addr,(b_0=some a6)∧
 aa Tryz.prog (Instr.storeAt 26 (a6.add 1) v5) h3 fun _ h4=>
 R .nilIface h4
theorem gb (b_0:Option Addr) (c_1:Int) (hm: @dC R h b_0 c_1):ae Tryz.prog 47 #[b_0,(.int .u8 c_1)] h R:=az ag Tryz.func47 .n hm
abbrev rG:FuncId:=49
noncomputable def nj:Prop:=
 aI Tryz.prog (Instr.box 113 (.agg #[false,false,(.int .i64 (0:Int)),(.int .i64 (0:Int))])) h fun a1 h1=>
 R a1 h1
theorem qu (hm: @nj R h):ae Tryz.prog 49 #[] h R:=az ag Tryz.func49 .n hm
abbrev oE:FuncId:=50
noncomputable def ku (p_0:gQ) (extra_1:Int) (pw_2:Option Addr) (cells_3:Sl):Prop:=
 aI Tryz.prog (Instr.box 44 p_0) h fun a1 h1=>
 ah Tryz.prog 70 #[cells_3] (.many [fw,eW]) h1 fun r2 h2=>
 aD (σ:=Unit) (fun _ h4=>
 aD (σ:=Option Addr) (fun s10 h7=>
 aS (σ:=Int) (fun s11 K3 h8=>
 Br (decide (s11<(r2.1.len:Int)))
 (∃a12:Addr,(r2.1.ptr=some a12∧0≤s11∧s11<(r2.1.len:Int))∧
 ∃x13:Int,cellOf h8 (a12.add (s11.toNat*1))=some (.int .i64 x13)∧
 ∃a14:Addr,(cells_3.ptr=some a14∧0≤x13∧x13<(cells_3.len:Int))∧
 ∃x15:Int,cellOf h8 (a14.add (x13.toNat*1))=some (.int .i64 x15)∧
 ∃a16:Addr,(s10=some a16)∧
 ∃x17:ic,ai h8 a16 0 x17∧
 ah Tryz.prog 73 #[x17] aT h8 fun r18 h9=>
 (ar.ok [(a14.add (x13.toNat*1),x15)] h9)∧
 Br (decide (x15<(r18.len:Int)))
 (R (.tuple #[(.pointer none),(.int .i64 (7:Int))]) h9)
 (K3 (IntKind.wrap .i64 (s11+1)) h9))
 (aS (σ:=Int) (fun s19 K4 h10=>
 Br (decide (s19<(r2.1.len:Int)))
 (∃a20:Addr,(r2.1.ptr=some a20∧0≤s19∧s19<(r2.1.len:Int))∧
 ∃x21:Int,cellOf h10 (a20.add (s19.toNat*1))=some (.int .i64 x21)∧
 ∃a22:Addr,(cells_3.ptr=some a22∧0≤x21∧x21<(cells_3.len:Int))∧
 ∃x23:Int,cellOf h10 (a22.add (x21.toNat*1))=some (.int .i64 x23)∧
 ∃a24:Addr,(s10=some a24)∧
 ah Tryz.prog 74 #[x23,pw_2] xf h10 fun r25 h11=>
 (ar.ok [] h11)∧
 (0≤x21∧x21<((64:Nat):Int))∧
 aa Tryz.prog (Instr.storeAt 95 ((a24.add 10).add (x21.toNat*1)) r25) h11 fun _ h12=>
 (ar.ok [] h12)∧
 K4 (IntKind.wrap .i64 (s19+1)) h12)
 (∃a26:Addr,(s10=some a26)∧
 ∃x27:ic,ai h10 a26 0 x27∧
 ah Tryz.prog 77 #[x27,r2.1] aT h10 fun r28 h13=>
 ah Tryz.prog 75 #[(.func (.func 76) #[s10] #[]),r28] cU h13 fun r29 h14=>
 Br (r29 !=0)
 (R (.tuple #[(.pointer none),r29]) h14)
 (R (.tuple #[s10,(.int .i64 (0:Int))]) h14))) (0:Int) h8)) (0:Int) h7)
 (fun K2=>
 ∃x6:gQ,ai h4 a1 0 x6∧
 ah Tryz.prog 72 #[pw_2] cU h4 fun r7 h5=>
 (ar.ok [(a1,x6.1),(a1.add 1,x6.2.1),(a1.add 2,x6.2.2)] h5)∧
 ∃v8:Value,(ao Tryz.prog (Instr.build 121 #[(0,(.agg #[(.int .i64 (1:Int)),(.int .i64 (0:Int)),x6.1,x6.2.1,x6.2.2,extra_1,r2.1,(.slice none 0 0)])),(1,pw_2),(2,r7)]) v8)∧
 aI Tryz.prog (Instr.box 121 v8) h5 fun a9 h6=>
 (ar.ok [(a1,x6.1),(a1.add 1,x6.2.1),(a1.add 2,x6.2.2)] h6)∧
 K2 (some a9) h6))
 (fun K1=>
 Br (!r2.2) (R (.tuple #[(.pointer none),(.int .i64 (1:Int))]) h2) (∃x3:gQ,ai h2 a1 0 x3∧
 ah Tryz.prog 71 #[x3] cB h2 fun r4 h3=>
 Br (!r4) (R (.tuple #[(.pointer none),(.int .i64 (1:Int))]) h3) (Br (decide (extra_1<0)) (R (.tuple #[(.pointer none),(.int .i64 (1:Int))]) h3) (Br (decide (extra_1>16)) (R (.tuple #[(.pointer none),(.int .i64 (1:Int))]) h3) (Br (Option.isNone pw_2)
 (R (.tuple #[(.pointer none),(.int .i64 (1:Int))]) h3)
 (K1 () h3))))))
theorem nM (p_0:gQ) (extra_1:Int) (pw_2:Option Addr) (cells_3:Sl) (hm: @ku R h p_0 extra_1 pw_2 cells_3):ae Tryz.prog 50 #[p_0,extra_1,pw_2,cells_3] h R:=az ag Tryz.func50 (.two .n (.two .n (.two (.join [] [(8,10),(23,42)] .n) (.two (.join [(12,zC)] [(12,13),(42,51)] .n) (.two (.two .n (.inn (.loop [(53,bk)] [(8,10),(14,15),(53,69)] .n))) (.two (.two .n (.inn (.loop [(71,bk)] [(16,17),(71,87)] .n))) .n)))))) hm
abbrev aW:FuncId:=51
abbrev fP:FuncId:=52
abbrev jr:FuncId:=54
noncomputable def eY (a_0:Option Addr) (m_1:bE):Prop:=
 aI Tryz.prog (Instr.box 29 m_1) h fun a1 h1=>
 aI Tryz.prog (Instr.alloc 38 true (.tuple #[])) h1 fun a2 h2=>
 aD (σ:=Unit) (fun _ h18=>
 ∃x30:fM,ai h18 a2 0 x30∧
 aa Tryz.prog (Instr.storeAt 38 a2 x30) h18 fun _ h19=>
 ∃res31:fM,ai h19 a2 0 res31∧
 R res31 h19)
 (fun K1=>
 ∃x3:Int,cellOf h2 a1=some (.int .i64 x3)∧
 Br (x3==1)
 (∃a4:Addr,(a_0=some a4)∧
 ∃x5:Option Addr,cellOf h2 (a4.add 1)=some (.pointer x5)∧
 ∃x6:ByteArray,cellOf h2 (a1.add 1)=some (.string x6)∧
 ∃x7:Sl,cellOf h2 (a1.add 2)=some (.slice x7.ptr x7.len x7.cap)∧
 ah Tryz.prog 80 #[x5,x6,x7] cU h2 fun r8 h3=>
 (ar.ok [] h3)∧
 aa Tryz.prog (Instr.storeAt 34 a2 r8) h3 fun _ h4=>
 (ar.ok [] h4)∧
 K1 () h4)
 (Br (x3==2)
 (∃a9:Addr,(a_0=some a9)∧
 ∃x10:Option Addr,cellOf h2 (a9.add 1)=some (.pointer x10)∧
 ∃x11:ByteArray,cellOf h2 (a1.add 1)=some (.string x11)∧
 ah Tryz.prog 81 #[x10,x11] (.many [fw,bk]) h2 fun r12 h5=>
 (ar.ok [] h5)∧
 aa Tryz.prog (Instr.storeAt 26 (a2.add 1) r12.1) h5 fun _ h6=>
 (ar.ok [] h6)∧
 aa Tryz.prog (Instr.storeAt 34 a2 r12.2) h6 fun _ h7=>
 (ar.ok [] h7)∧
 K1 () h7)
 (Br (x3==3)
 (∃a13:Addr,(a_0=some a13)∧
 ∃x14:Option Addr,cellOf h2 (a13.add 1)=some (.pointer x14)∧
 ∃x15:ByteArray,cellOf h2 (a1.add 1)=some (.string x15)∧
 ah Tryz.prog 82 #[x14,x15] cU h2 fun r16 h8=>
 (ar.ok [] h8)∧
 aa Tryz.prog (Instr.storeAt 34 a2 r16) h8 fun _ h9=>
 (ar.ok [] h9)∧
 K1 () h9)
 (Br (x3==4)
 (∃a17:Addr,(a_0=some a17)∧
 ∃x18:Option Addr,cellOf h2 (a17.add 1)=some (.pointer x18)∧
 ah Tryz.prog 83 #[x18] aT h2 fun r19 h10=>
 aa Tryz.prog (Instr.storeAt 25 (a2.add 2) r19) h10 fun _ h11=>
 ∃a20:Addr,(a_0=some a20)∧
 ∃x21:Option Addr,cellOf h11 (a20.add 1)=some (.pointer x21)∧
 Br (Option.isNone x21) (aa Tryz.prog (Instr.storeAt 34 a2 (.int .i64 (14:Int))) h11 fun _ h12=>
 K1 () h12) (∃a22:Addr,(a_0=some a22)∧
 ∃x23:Option Addr,cellOf h11 (a22.add 1)=some (.pointer x23)∧
 ah Tryz.prog 84 #[x23] cB h11 fun r24 h13=>
 Br r24
 (aa Tryz.prog (Instr.storeAt 34 a2 (.int .i64 (14:Int))) h13 fun _ h14=>
 K1 () h14)
 (K1 () h13)))
 (Br (x3==5)
 (∃a25:Addr,(a_0=some a25)∧
 ∃x26:Option Addr,cellOf h2 (a25.add 1)=some (.pointer x26)∧
 ∃x27:ByteArray,cellOf h2 (a1.add 1)=some (.string x27)∧
 ah Tryz.prog 85 #[x26,x27] (.many [(.agg [(.int .i64),(.int .i64),(.int .i64),.slc]),bk]) h2 fun r28 h15=>
 (ar.ok [] h15)∧
 aa Tryz.prog (Instr.storeAt 36 (a2.add 3) r28.1) h15 fun _ h16=>
 (ar.ok [] h16)∧
 aa Tryz.prog (Instr.storeAt 34 a2 r28.2) h16 fun _ h17=>
 (ar.ok [] h17)∧
 K1 () h17)
 (K1 () h2))))))
theorem iV (a_0:Option Addr) (m_1:bE) (hm: @eY R h a_0 m_1):ae Tryz.prog 54 #[a_0,m_1] h R:=az ag Tryz.func54 (.two .n (.two (.join [] [(5,78)] .n) .n)) hm
abbrev jC:FuncId:=66
noncomputable def kv (s_0:ByteArray) (cutset_1:ByteArray):Prop:=
 aD (σ:=Unit) (fun _ h1=>
 aD (σ:=Unit) (fun _ h4=>
 ah Tryz.prog 120 #[cutset_1] (.many [(.arr .bool),eW]) h4 fun r8 h5=>
 aI Tryz.prog (Instr.alloc 170 true (.tuple #[])) h5 fun a9 h6=>
 aa Tryz.prog (Instr.storeAt 170 a9 (.agg (r8.1.map (Sc.enc .bool)).toArray)) h6 fun _ h7=>
 Br r8.2
 (ah Tryz.prog 122 #[s_0,a9] (.one bo) h7 fun r10 h8=>
 ah Tryz.prog 121 #[r10,a9] (.one bo) h8 fun r11 h9=>
 R r11 h9)
 (ah Tryz.prog 124 #[s_0,cutset_1] (.one bo) h7 fun r12 h10=>
 ah Tryz.prog 123 #[r12,cutset_1] (.one bo) h10 fun r13 h11=>
 R r13 h11))
 (fun K2=>
 Br ((cutset_1.size:Int)==1) (∃c2:UInt8,(0≤(0:Int)∧cutset_1.data[(0:Int).toNat]?=some c2)∧
 Br (decide ((c2.toNat:Int)<128))
 (∃c3:UInt8,(0≤(0:Int)∧cutset_1.data[(0:Int).toNat]?=some c3)∧
 ∃c4:UInt8,(0≤(0:Int)∧cutset_1.data[(0:Int).toNat]?=some c4)∧
 ah Tryz.prog 119 #[s_0,(.int .u8 (c3.toNat:Int))] (.one bo) h1 fun r5 h2=>
 (ar.ok [] h2)∧
 ah Tryz.prog 118 #[r5,(.int .u8 (c4.toNat:Int))] (.one bo) h2 fun r6 h3=>
 (ar.ok [] h3)∧
 R r6 h3)
 (K2 () h1)) (K2 () h1)))
 (fun K1=>
 Br (s_0.toList==bx.toList) (R s_0 h) (Br (cutset_1.toList==bx.toList)
 (R s_0 h)
 (K1 () h)))
theorem nN (s_0:ByteArray) (cutset_1:ByteArray) (hm: @kv R h s_0 cutset_1):ae Tryz.prog 66 #[s_0,cutset_1] h R:=az ag Tryz.func66 (.two .n (.two (.join [] [(4,5),(7,14)] .n) (.two (.join [] [(4,5),(14,29)] .n) .n))) hm
abbrev gc:FuncId:=68
noncomputable def dw (i_0:Int) (base_1:Int):Prop:=
 Br (base_1==10)
 (aD (σ:=Unit) (fun _ h2=>
 aI Tryz.prog (Instr.alloc 176 true (.tuple #[])) h2 fun a3 h3=>
 aD (σ:=Int) (fun s4 h4=>
 ah Tryz.prog 128 #[(.int .u64 s4)] cU h4 fun r5 h5=>
 (0≤(1:Int)∧(1:Int)≤(IntKind.wrap .i64 (1+r5))∧(IntKind.wrap .i64 (1+r5))≤((24:Nat):Int))∧
 ah Tryz.prog 129 #[(.slice (some (if 24=(1:Int).toNat then a3 else a3.add ((1:Int).toNat*1))) ((IntKind.wrap .i64 (1+r5)).toNat-(1:Int).toNat) (24-(1:Int).toNat)),(.int .u64 s4)] vr h5 fun _ h6=>
 Br (decide (i_0<0))
 ((0≤(0:Int)∧(0:Int)<((24:Nat):Int))∧
 aa Tryz.prog (Instr.storeAt 5 (a3.add ((0:Int).toNat*1)) (.int .u8 (45:Int))) h6 fun _ h7=>
 (0≤(IntKind.wrap .i64 (1+r5))∧(IntKind.wrap .i64 (1+r5))≤((24:Nat):Int))∧
 au Tryz.prog (convert 26 9 (.slice (some a3) ((IntKind.wrap .i64 (1+r5)).toNat) 24)) (.one bo) h7 fun v7 h8=>
 R v7 h8)
 ((0≤(1:Int)∧(1:Int)≤(IntKind.wrap .i64 (1+r5))∧(IntKind.wrap .i64 (1+r5))≤((24:Nat):Int))∧
 au Tryz.prog (convert 26 9 (.slice (some (if 24=(1:Int).toNat then a3 else a3.add ((1:Int).toNat*1))) ((IntKind.wrap .i64 (1+r5)).toNat-(1:Int).toNat) (24-(1:Int).toNat))) (.one bo) h6 fun v8 h9=>
 R v8 h9))
 (fun K2=>
 Br (decide (i_0<0))
 (K2 (IntKind.wrap .u64 (0-(IntKind.wrap .u64 i_0))) h3)
 (K2 (IntKind.wrap .u64 i_0) h3)))
 (fun K1=>
 Br (decide (0≤i_0)) (Br (decide (i_0<100))
 (ah Tryz.prog 127 #[i_0] (.one bo) h fun r1 h1=>
 R r1 h1)
 (K1 () h)) (K1 () h)))
 (ah Tryz.prog 130 #[(.slice none 0 0),(.int .u64 (IntKind.wrap .u64 i_0)),base_1,(decide (i_0<0)),false] (.many [fw,bo]) h fun r9 h10=>
 R r9.2 h10)
theorem fQ (i_0:Int) (base_1:Int) (hm: @dw R h i_0 base_1):ae Tryz.prog 68 #[i_0,base_1] h R:=az ag Tryz.func68 (.two .n (.two (.two .n (.two (.two (.join [] [(4,5),(12,20)] .n) (.two .n (.two .n (.two (.join [(6,(.sc (.int .u64)))] [(6,7),(22,26)] .n) .n)))) .n)) .n)) hm
abbrev oF:FuncId:=70
noncomputable def kw (cells_0:Sl):Prop:=
 aS (σ:=Sl×Int) (fun s1 K1 h1=>
 Br (decide (s1.2<(cells_0.len:Int)))
 (∃a2:Addr,(cells_0.ptr=some a2∧0≤s1.2∧s1.2<(cells_0.len:Int))∧
 ∃x3:Int,cellOf h1 (a2.add (s1.2.toNat*1))=some (.int .i64 x3)∧
 aD (σ:=Unit) (fun _ h2=>
 Br (decide (x3>0))
 (au Tryz.prog (Instr.buildSlice 22 1 #[(0,s1.2)]) aT h2 fun v5 h3=>
 au Tryz.prog (Builtin.append_ #[22,22] 22 #[s1.1,v5]) aT h3 fun v6 h4=>
 K1 ((⟨v6.ptr,v6.len,v6.cap⟩:Sl),IntKind.wrap .i64 (s1.2+1)) h4)
 (K1 ((⟨s1.1.ptr,s1.1.len,s1.1.cap⟩:Sl),IntKind.wrap .i64 (s1.2+1)) h2))
 (fun K2=>
 Br (decide (x3<0)) (R (.tuple #[(.slice none 0 0),false]) h1) (Br (decide (x3>512))
 (R (.tuple #[(.slice none 0 0),false]) h1)
 (K2 () h1))))
 (Br (decide ((cells_0.len:Int)≤64)) (R (.tuple #[s1.1,(decide ((s1.1.len:Int)>0))]) h1) (R (.tuple #[s1.1,false]) h1))) ((⟨none,0,0⟩:Sl),(0:Int)) h
theorem nO (cells_0:Sl) (hm: @kw R h cells_0):ae Tryz.prog 70 #[cells_0] h R:=az ag Tryz.func70 (.two .n (.two .n (.two (.two .n (.inn (.loop [(4,fw),(9,bk)] [(2,7),(9,27)] (.two .n (.two .n (.two (.inn (.two .n (.two (.join [] [(2,4),(14,20)] .n) .n))) .n)))))) .n))) hm
abbrev uq:FuncId:=71
noncomputable def pX (p_0:gQ):Prop:=
 aI Tryz.prog (Instr.box 44 p_0) h fun a1 h1=>
 ∃x2:Int,cellOf h1 a1=some (.int .i64 x2)∧
 Br (decide (x2≥1)) (∃x3:Int,cellOf h1 a1=some (.int .i64 x3)∧
 Br (decide (x3≤16)) (∃x4:Int,cellOf h1 (a1.add 1)=some (.int .i64 x4)∧
 Br (decide (x4≥1)) (∃x5:Int,cellOf h1 (a1.add 1)=some (.int .i64 x5)∧
 Br (decide (x5≤4)) (∃x6:Int,cellOf h1 (a1.add 2)=some (.int .i64 x6)∧
 Br (decide (x6≥1)) (∃x7:Int,cellOf h1 (a1.add 2)=some (.int .i64 x7)∧
 R (decide (x7≤24)) h1) (R false h1)) (R false h1)) (R false h1)) (R false h1)) (R false h1)
theorem sN (p_0:gQ) (hm: @pX R h p_0):ae Tryz.prog 71 #[p_0] h R:=az ag Tryz.func71 .n hm
abbrev lH:FuncId:=72
noncomputable def gR (p_0:Option Addr):Prop:=
 Br (Option.isNone p_0)
 (R (.int .i64 (0:Int)) h)
 (∃a1:Addr,(p_0=some a1)∧
 ∃x2:Int,cellOf h (a1.add 3)=some (.int .i64 x2)∧
 R x2 h)
theorem kV (p_0:Option Addr) (hm: @gR R h p_0):ae Tryz.prog 72 #[p_0] h R:=az ag Tryz.func72 .n hm
abbrev qv:FuncId:=73
noncomputable def mq (m_0:ic):Prop:=
 aI Tryz.prog (Instr.box 118 m_0) h fun a1 h1=>
 ∃x2:ic,ai h1 a1 0 x2∧
 ah Tryz.prog 131 #[x2] aT h1 fun r3 h2=>
 ((48:Int)≠0)∧
 aS (σ:=Sl×Int) (fun s4 K1 h3=>
 Br (decide (s4.2<(IntKind.wrap .i64 (Int.tdiv (IntKind.wrap .i64 ((IntKind.wrap .i64 ((r3.len:Int)+48))-1)) 48))))
 (∃x5:Int,cellOf h3 a1=some (.int .i64 x5)∧
 (0≤(IntKind.wrap .i64 (s4.2*48))∧(IntKind.wrap .i64 (s4.2*48))≤(if(IntKind.wrap .i64 ((IntKind.wrap .i64 (s4.2+1))*48))<(r3.len:Int)then IntKind.wrap .i64 ((IntKind.wrap .i64 (s4.2+1))*48)else(r3.len:Int))∧(if(IntKind.wrap .i64 ((IntKind.wrap .i64 (s4.2+1))*48))<(r3.len:Int)then IntKind.wrap .i64 ((IntKind.wrap .i64 (s4.2+1))*48)else(r3.len:Int))≤(r3.cap:Int))∧
 ah Tryz.prog 132 #[x5,s4.2,(IntKind.wrap .i64 (Int.tdiv (IntKind.wrap .i64 ((IntKind.wrap .i64 ((r3.len:Int)+48))-1)) 48)),(.slice (if r3.cap=(IntKind.wrap .i64 (s4.2*48)).toNat then r3.ptr else r3.ptr.map (·.add ((IntKind.wrap .i64 (s4.2*48)).toNat*1))) ((if(IntKind.wrap .i64 ((IntKind.wrap .i64 (s4.2+1))*48))<(r3.len:Int)then IntKind.wrap .i64 ((IntKind.wrap .i64 (s4.2+1))*48)else(r3.len:Int)).toNat-(IntKind.wrap .i64 (s4.2*48)).toNat) (r3.cap-(IntKind.wrap .i64 (s4.2*48)).toNat))] aT h3 fun r6 h4=>
 (ar.ok [] h4)∧
 au Tryz.prog (Instr.buildSlice 122 1 #[(0,r6)]) aT h4 fun v7 h5=>
 (ar.ok [] h5)∧
 au Tryz.prog (Builtin.append_ #[122,122] 122 #[s4.1,v7]) aT h5 fun v8 h6=>
 (ar.ok [] h6)∧
 K1 ((⟨v8.ptr,v8.len,v8.cap⟩:Sl),IntKind.wrap .i64 (s4.2+1)) h6)
 (R s4.1 h3)) ((⟨none,0,0⟩:Sl),(0:Int)) h2
theorem pq (m_0:ic) (hm: @mq R h m_0):ae Tryz.prog 73 #[m_0] h R:=az ag Tryz.func73 (.two .n (.two .n (.two .n (.two .n (.two (.two .n (.inn (.loop [(5,fw),(16,bk)] [(5,8),(16,39)] .n))) .n))))) hm
abbrev rH:FuncId:=74
noncomputable def nk (cells_0:Int) (p_1:Option Addr):Prop:=
 aD (σ:=Unit) (fun _ h1=>
 aI Tryz.prog (Instr.box 184 (.agg #[p_1,cells_0,(.slice none 0 0),(.int .i64 (0:Int)),(.slice none 0 0),false,false])) h1 fun a2 h2=>
 R a2 h2)
 (fun K1=>
 Br (decide (cells_0<1)) (R (.pointer none) h) (Br (decide (cells_0>512)) (R (.pointer none) h) (Br (Option.isNone p_1)
 (R (.pointer none) h)
 (K1 () h))))
theorem qw (cells_0:Int) (p_1:Option Addr) (hm: @nk R h cells_0 p_1):ae Tryz.prog 74 #[cells_0,p_1] h R:=az ag Tryz.func74 (.two .n (.two (.join [] [(4,15)] .n) .n)) hm
abbrev ur:FuncId:=75
noncomputable def pY (at_0:FuncId×Array Value×Array Value) (l_1:Sl):Prop:=
 aS (σ:=Sl×Int) (fun s1 K1 h1=>
 Br (decide (s1.2<(l_1.len:Int)))
 (∃a2:Addr,(l_1.ptr=some a2∧0≤s1.2∧s1.2<(l_1.len:Int))∧
 ∃x3:Int×Sl,ai h1 (a2.add (s1.2.toNat*2)) 0 x3∧
 aI Tryz.prog (Instr.alloc 187 true (.tuple #[])) h1 fun a4 h2=>
 aa Tryz.prog (Instr.storeAt 187 a4 x3) h2 fun _ h3=>
 aD (σ:=Unit) (fun _ h7=>
 ∃x11:Int,cellOf h7 a4=some (.int .i64 x11)∧
 au Tryz.prog (Instr.buildSlice 22 1 #[(0,x11)]) aT h7 fun v12 h8=>
 au Tryz.prog (Builtin.append_ #[22,22] 22 #[s1.1,v12]) aT h8 fun v13 h9=>
 K1 ((⟨v13.ptr,v13.len,v13.cap⟩:Sl),IntKind.wrap .i64 (s1.2+1)) h9)
 (fun K2=>
 aD (σ:=Int) (fun s9 h6=>
 Br (s9 !=0)
 (R s9 h6)
 (K2 () h6))
 (fun K3=>
 ∃x5:Int,cellOf h3 a4=some (.int .i64 x5)∧
 ∃x6:Sl,cellOf h3 (a4.add 1)=some (.slice x6.ptr x6.len x6.cap)∧
 pd C at_0.1 (at_0.2.1.toList++[(.int .i64 x5)]++at_0.2.2.toList) xf h3 fun r7 h4=>
 (ar.ok [(a4.add 1,x6)] h4)∧
 ah Tryz.prog 133 #[r7,x6] cU h4 fun r8 h5=>
 (ar.ok [] h5)∧
 K3 r8 h5)))
 (ah Tryz.prog 134 #[(.func (.func at_0.1) at_0.2.1 at_0.2.2),s1.1] cU h1 fun r14 h10=>
 R r14 h10)) ((⟨none,0,0⟩:Sl),(0:Int)) h
theorem sO (at_0:FuncId×Array Value×Array Value) (l_1:Sl) (hm: @pY R h at_0 l_1):ae Tryz.prog 75 #[(.func (.func at_0.1) at_0.2.1 at_0.2.2),l_1] h R:=az ag Tryz.func75 (.two .n (.two .n (.two (.two .n (.inn (.loop [(5,fw),(11,bk)] [(4,6),(7,9),(11,31)] (.two .n (.two .n (.two (.inn (.two .n (.two (.join [] [(4,5),(8,9),(15,25)] (.two (.join [(8,bk)] [(8,9),(15,22)] .n) .n)) .n))) .n)))))) .n))) hm
abbrev bS:FuncId:=76
noncomputable def gg (s_0:Option Addr) (slot_1:Int):Prop:=
 aD (σ:=Unit) (fun _ h1=>
 ∃a2:Addr,(s_0=some a2)∧
 (0≤slot_1∧slot_1<((64:Nat):Int))∧
 ∃x3:Option Addr,cellOf h1 ((a2.add 10).add (slot_1.toNat*1))=some (.pointer x3)∧
 R x3 h1)
 (fun K1=>
 Br (Option.isNone s_0) (R (.pointer none) h) (Br (decide (slot_1<0)) (R (.pointer none) h) (Br (decide (slot_1≥64))
 (R (.pointer none) h)
 (K1 () h))))
theorem kx (s_0:Option Addr) (slot_1:Int) (hm: @gg R h s_0 slot_1):ae Tryz.prog 76 #[s_0,slot_1] h R:=az ag Tryz.func76 (.two .n (.two (.join [] [(4,15)] .n) .n)) hm
abbrev rI:FuncId:=77
noncomputable def nl (m_0:ic) (slots_1:Sl):Prop:=
 aI Tryz.prog (Instr.box 118 m_0) h fun a1 h1=>
 ∃x2:ic,ai h1 a1 0 x2∧
 ah Tryz.prog 73 #[x2] aT h1 fun r3 h2=>
 aS (σ:=Sl×Int) (fun s4 K1 h3=>
 Br (decide (s4.2<(slots_1.len:Int)))
 (∃a5:Addr,(slots_1.ptr=some a5∧0≤s4.2∧s4.2<(slots_1.len:Int))∧
 ∃x6:Int,cellOf h3 (a5.add (s4.2.toNat*1))=some (.int .i64 x6)∧
 aS (σ:=Sl×Int) (fun s7 K2 h4=>
 Br (decide (s7.2<(r3.len:Int)))
 (∃a8:Addr,(r3.ptr=some a8∧0≤s7.2∧s7.2<(r3.len:Int))∧
 ∃x9:Sl,cellOf h4 (a8.add (s7.2.toNat*1))=some (.slice x9.ptr x9.len x9.cap)∧
 au Tryz.prog (Instr.buildSlice 127 1 #[(0,(.agg #[x6,x9]))]) aT h4 fun v10 h5=>
 au Tryz.prog (Builtin.append_ #[127,127] 127 #[s7.1,v10]) aT h5 fun v11 h6=>
 K2 ((⟨v11.ptr,v11.len,v11.cap⟩:Sl),IntKind.wrap .i64 (s7.2+1)) h6)
 (K1 ((⟨s7.1.ptr,s7.1.len,s7.1.cap⟩:Sl),IntKind.wrap .i64 (s4.2+1)) h4)) ((⟨s4.1.ptr,s4.1.len,s4.1.cap⟩:Sl),(0:Int)) h3)
 (R s4.1 h3)) ((⟨none,0,0⟩:Sl),(0:Int)) h2
theorem qx (m_0:ic) (slots_1:Sl) (hm: @nl R h m_0 slots_1):ae Tryz.prog 77 #[m_0,slots_1] h R:=az ag Tryz.func77 (.two .n (.two .n (.two .n (.two (.two .n (.inn (.loop [(6,fw),(15,bk)] [(6,7),(8,9),(10,11),(15,33)] (.two .n (.two .n (.two (.inn (.two .n (.two .n (.inn (.loop [(6,fw),(21,bk)] [(6,7),(10,11),(21,32)] .n))))) .n)))))) .n)))) hm
abbrev lI:FuncId:=83
noncomputable def gS (s_0:Option Addr):Prop:=
 ah Tryz.prog 145 #[s_0] cB h fun r1 h1=>
 Br r1
 (R (.slice none 0 0) h1)
 (∃a2:Addr,(s_0=some a2)∧
 ∃x3:Sl,cellOf h1 (a2.add 7)=some (.slice x3.ptr x3.len x3.cap)∧
 aS (σ:=Sl×Int) (fun s4 K1 h2=>
 Br (decide (s4.2<(x3.len:Int)))
 (∃a5:Addr,(x3.ptr=some a5∧0≤s4.2∧s4.2<(x3.len:Int))∧
 ∃x6:oy,ai h2 (a5.add (s4.2.toNat*4)) 0 x6∧
 aI Tryz.prog (Instr.alloc 157 true (.tuple #[])) h2 fun a7 h3=>
 aa Tryz.prog (Instr.storeAt 157 a7 x6) h3 fun _ h4=>
 ∃x8:ByteArray,cellOf h4 a7=some (.string x8)∧
 ah Tryz.prog 154 #[x8] (.one bo) h4 fun r9 h5=>
 au Tryz.prog (Instr.buildSlice 25 1 #[(0,r9)]) aT h5 fun v10 h6=>
 au Tryz.prog (Builtin.append_ #[25,25] 25 #[s4.1,v10]) aT h6 fun v11 h7=>
 K1 ((⟨v11.ptr,v11.len,v11.cap⟩:Sl),IntKind.wrap .i64 (s4.2+1)) h7)
 (R s4.1 h2)) ((⟨none,0,0⟩:Sl),(0:Int)) h1)
theorem kX (s_0:Option Addr) (hm: @gS R h s_0):ae Tryz.prog 83 #[s_0] h R:=az ag Tryz.func83 (.two .n (.two .n (.two .n (.two (.two .n (.inn (.loop [(3,fw),(14,bk)] [(3,4),(5,6),(14,25)] .n))) .n)))) hm
abbrev lJ:FuncId:=84
noncomputable def gT (s_0:Option Addr):Prop:=
 Br (!(Option.isNone s_0)) (∃a1:Addr,(s_0=some a1)∧
 ∃x2:Option Addr,cellOf h (a1.add 8)=some (.pointer x2)∧
 ah Tryz.prog 108 #[x2] cB h fun r3 h1=>
 (ar.ok [] h1)∧
 Br (!r3) ((ar.ok [] h1)∧
 R true h1) (∃a4:Addr,(s_0=some a4)∧
 ∃x5:Option Addr,cellOf h1 (a4.add 8)=some (.pointer x5)∧
 ∃a6:Addr,(s_0=some a6)∧
 ∃x7:Int,cellOf h1 (a6.add 9)=some (.int .i64 x7)∧
 ah Tryz.prog 72 #[x5] cU h1 fun r8 h2=>
 (ar.ok [(a6.add 9,x7)] h2)∧
 R (.bool (r8 !=x7)) h2)) ((ar.ok [] h)∧
 (ar.ok [] h)∧
 R false h)
theorem kY (s_0:Option Addr) (hm: @gT R h s_0):ae Tryz.prog 84 #[s_0] h R:=az ag Tryz.func84 .n hm
end Go.Qw
