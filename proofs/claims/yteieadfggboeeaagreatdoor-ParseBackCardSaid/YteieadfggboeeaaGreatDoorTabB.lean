/- Part of the proofs that the laws of this seat answer true whatever the input reads, and leave it as it was; no condition. -/
import Derived.Test.YteieadfggboeeaaGreatDoorTabA
set_option linter.unusedVariables false
set_option linter.unusedSimpArgs false
namespace Go.Qw
open Go Go.Vc Go.Proofs
set_option maxRecDepth 1000000
variable {R:Value→Heap→Prop} {h:Heap}
abbrev eD:FuncId:=16
noncomputable def eJ (m_0:bh):Prop:=
 aG Tryz.prog (Instr.box 29 m_0) h fun a1 h1=>
 ∃x2:Int,cellOf h1 a1=some (.int .i64 x2)∧
 Br (x2==1)
 (∃x3:ByteArray,cellOf h1 (a1.add 1)=some (.string x3)∧
 (((fy.size+x3.size:Nat):Int)≤IntKind.max .i64)∧
 ((((fy++x3).size+aB.size:Nat):Int)≤IntKind.max .i64)∧
 ∃x4:Sl,cellOf h1 (a1.add 2)=some (.slice x4.ptr x4.len x4.cap)∧
 ae Tryz.prog 34 #[x4] (.one bw) h1 fun r5 h2=>
 (au.ok [(a1.add 1,x3)] h2)∧
 (((((fy++x3)++aB).size+r5.size:Nat):Int)≤IntKind.max .i64)∧
 R (.string (((fy++x3)++aB)++r5)) h2)
 (Br (x2==2)
 (∃x6:ByteArray,cellOf h1 (a1.add 1)=some (.string x6)∧
 (((kx.size+x6.size:Nat):Int)≤IntKind.max .i64)∧
 R (.string (kx++x6)) h1)
 (Br (x2==3)
 (∃x7:ByteArray,cellOf h1 (a1.add 1)=some (.string x7)∧
 (((ky.size+x7.size:Nat):Int)≤IntKind.max .i64)∧
 R (.string (ky++x7)) h1)
 (Br (x2==4)
 (R na h1)
 (Br (x2==5)
 (∃x8:ByteArray,cellOf h1 (a1.add 1)=some (.string x8)∧
 (((jp.size+x8.size:Nat):Int)≤IntKind.max .i64)∧
 R (.string (jp++x8)) h1)
 (Br (x2==6)
 (∃x9:Int,cellOf h1 (a1.add 3)=some (.int .i64 x9)∧
 ∃x10:Int,cellOf h1 (a1.add 4)=some (.int .i64 x10)∧
 ae Tryz.prog 33 #[x9] (.one bw) h1 fun r11 h3=>
 (au.ok [(a1.add 4,x10)] h3)∧
 (((fz.size+r11.size:Nat):Int)≤IntKind.max .i64)∧
 ((((fz++r11).size+aB.size:Nat):Int)≤IntKind.max .i64)∧
 ae Tryz.prog 33 #[x10] (.one bw) h3 fun r12 h4=>
 (au.ok [] h4)∧
 (((((fz++r11)++aB).size+r12.size:Nat):Int)≤IntKind.max .i64)∧
 R (.string (((fz++r11)++aB)++r12)) h4)
 (Br (x2==7)
 (∃x13:Int,cellOf h1 (a1.add 3)=some (.int .i64 x13)∧
 ae Tryz.prog 33 #[x13] (.one bw) h1 fun r14 h5=>
 (((gE.size+r14.size:Nat):Int)≤IntKind.max .i64)∧
 R (.string (gE++r14)) h5)
 (Br (x2==8)
 (∃x15:Int,cellOf h1 (a1.add 3)=some (.int .i64 x15)∧
 ∃x16:Int,cellOf h1 (a1.add 4)=some (.int .i64 x16)∧
 ae Tryz.prog 33 #[x15] (.one bw) h1 fun r17 h6=>
 (au.ok [(a1.add 4,x16)] h6)∧
 (((dn.size+r17.size:Nat):Int)≤IntKind.max .i64)∧
 ((((dn++r17).size+aB.size:Nat):Int)≤IntKind.max .i64)∧
 ae Tryz.prog 33 #[x16] (.one bw) h6 fun r18 h7=>
 (au.ok [] h7)∧
 (((((dn++r17)++aB).size+r18.size:Nat):Int)≤IntKind.max .i64)∧
 R (.string (((dn++r17)++aB)++r18)) h7)
 (Br (x2==9)
 (∃x19:Int,cellOf h1 (a1.add 3)=some (.int .i64 x19)∧
 ae Tryz.prog 33 #[x19] (.one bw) h1 fun r20 h8=>
 (((jm.size+r20.size:Nat):Int)≤IntKind.max .i64)∧
 R (.string (jm++r20)) h8)
 (Br (x2==10)
 (∃x21:Int,cellOf h1 (a1.add 4)=some (.int .i64 x21)∧
 ∃x22:Int,cellOf h1 (a1.add 5)=some (.int .i64 x22)∧
 ae Tryz.prog 33 #[x21] (.one bw) h1 fun r23 h9=>
 (au.ok [(a1.add 5,x22)] h9)∧
 (((ei.size+r23.size:Nat):Int)≤IntKind.max .i64)∧
 ((((ei++r23).size+aB.size:Nat):Int)≤IntKind.max .i64)∧
 ae Tryz.prog 33 #[x22] (.one bw) h9 fun r24 h10=>
 (au.ok [] h10)∧
 (((((ei++r23)++aB).size+r24.size:Nat):Int)≤IntKind.max .i64)∧
 R (.string (((ei++r23)++aB)++r24)) h10)
 (Br (x2==11)
 (∃x25:Int,cellOf h1 (a1.add 3)=some (.int .i64 x25)∧
 ∃x26:Int,cellOf h1 (a1.add 4)=some (.int .i64 x26)∧
 ∃x27:Int,cellOf h1 (a1.add 5)=some (.int .i64 x27)∧
 ∃x28:Int,cellOf h1 (a1.add 6)=some (.int .u32 x28)∧
 ae Tryz.prog 33 #[x25] (.one bw) h1 fun r29 h11=>
 (au.ok [(a1.add 6,(.int .u32 x28)),(a1.add 5,x27),(a1.add 4,x26)] h11)∧
 (((bS.size+r29.size:Nat):Int)≤IntKind.max .i64)∧
 ((((bS++r29).size+aB.size:Nat):Int)≤IntKind.max .i64)∧
 ae Tryz.prog 33 #[x26] (.one bw) h11 fun r30 h12=>
 (au.ok [(a1.add 6,(.int .u32 x28)),(a1.add 5,x27)] h12)∧
 (((((bS++r29)++aB).size+r30.size:Nat):Int)≤IntKind.max .i64)∧
 ((((((bS++r29)++aB)++r30).size+aB.size:Nat):Int)≤IntKind.max .i64)∧
 ae Tryz.prog 33 #[x27] (.one bw) h12 fun r31 h13=>
 (au.ok [(a1.add 6,(.int .u32 x28))] h13)∧
 (((((((bS++r29)++aB)++r30)++aB).size+r31.size:Nat):Int)≤IntKind.max .i64)∧
 ((((((((bS++r29)++aB)++r30)++aB)++r31).size+aB.size:Nat):Int)≤IntKind.max .i64)∧
 ae Tryz.prog 33 #[(IntKind.wrap .i64 x28)] (.one bw) h13 fun r32 h14=>
 (au.ok [(a1.add 6,(.int .u32 x28))] h14)∧
 (((((((((bS++r29)++aB)++r30)++aB)++r31)++aB).size+r32.size:Nat):Int)≤IntKind.max .i64)∧
 R (.string (((((((bS++r29)++aB)++r30)++aB)++r31)++aB)++r32)) h14)
 (Br (x2==12)
 (∃x33:Int,cellOf h1 (a1.add 4)=some (.int .i64 x33)∧
 ae Tryz.prog 33 #[x33] (.one bw) h1 fun r34 h15=>
 (((kA.size+r34.size:Nat):Int)≤IntKind.max .i64)∧
 R (.string (kA++r34)) h15)
 (∃x35:Int,cellOf h1 (a1.add 4)=some (.int .i64 x35)∧
 ae Tryz.prog 33 #[x35] (.one bw) h1 fun r36 h16=>
 (((jn.size+r36.size:Nat):Int)≤IntKind.max .i64)∧
 ∃x37:Sl,cellOf h16 (a1.add 7)=some (.slice x37.ptr x37.len x37.cap)∧
 aS (σ:=ByteArray×Int) (fun s38 K1 h17=>
 Br (decide (s38.2<(x37.len:Int)))
 ((((s38.1.size+aB.size:Nat):Int)≤IntKind.max .i64)∧
 ∃x39:Sl,cellOf h17 (a1.add 7)=some (.slice x39.ptr x39.len x39.cap)∧
 ∃a40:Addr,(x39.ptr=some a40∧0≤s38.2∧s38.2<(x39.len:Int))∧
 ∃x41:Int,cellOf h17 (a40.add (s38.2.toNat*1))=some (.int .i64 x41)∧
 ∃x42:Sl,cellOf h17 (a1.add 8)=some (.slice x42.ptr x42.len x42.cap)∧
 ∃a43:Addr,(x42.ptr=some a43∧0≤s38.2∧s38.2<(x42.len:Int))∧
 ∃x44:Int,cellOf h17 (a43.add (s38.2.toNat*1))=some (.int .i64 x44)∧
 ae Tryz.prog 33 #[x41] (.one bw) h17 fun r45 h18=>
 (au.ok [(a43.add (s38.2.toNat*1),x44),(a1.add 8,x42),(a1.add 7,x39)] h18)∧
 ((((s38.1++aB).size+r45.size:Nat):Int)≤IntKind.max .i64)∧
 (((((s38.1++aB)++r45).size+aB.size:Nat):Int)≤IntKind.max .i64)∧
 ae Tryz.prog 33 #[x44] (.one bw) h18 fun r46 h19=>
 (au.ok [(a1.add 8,x42),(a1.add 7,x39)] h19)∧
 ((((((s38.1++aB)++r45)++aB).size+r46.size:Nat):Int)≤IntKind.max .i64)∧
 K1 ((((s38.1++aB)++r45)++aB)++r46,IntKind.wrap .i64 (s38.2+1)) h19)
 (R s38.1 h17)) (jn++r36,(0:Int)) h16))))))))))))
theorem il (m_0:bh) (hm: @eJ R h m_0):ag Tryz.prog 16 #[m_0] h R:=ax af Tryz.func16 (.two .n (.two .n (.two .n (.two (.two .n (.inn (.loop [(3,bw),(114,bp)] [(3,5),(114,135)] .n))) .n)))) hm
abbrev pf:FuncId:=20
noncomputable def kZ (l_0:Sl):Prop:=
 aG Tryz.prog (Instr.alloc 29 true (.tuple #[])) h fun a1 h1=>
 Br ((l_0.len:Int) !=3)
 (aa Tryz.prog (Instr.storeAt 29 a1 (.agg #[(.int .i64 (0:Int)),aY,(.slice none 0 0),(.int .i64 (0:Int)),(.int .i64 (0:Int)),(.int .i64 (0:Int)),(.int .u32 (0:Int)),(.slice none 0 0),(.slice none 0 0)])) h1 fun _ h2=>
 ∃res2:bh,ah h2 a1 0 res2∧
 R (.tuple #[res2,false]) h2)
 (∃a3:Addr,(l_0.ptr=some a3∧0≤(2:Int)∧(2:Int)<(l_0.len:Int))∧
 ∃x4:ByteArray,cellOf h1 (a3.add ((2:Int).toNat*1))=some (.string x4)∧
 ae Tryz.prog 42 #[x4] (.many [eY,dM]) h1 fun r5 h3=>
 Br (!r5.2)
 (aa Tryz.prog (Instr.storeAt 29 a1 (.agg #[(.int .i64 (0:Int)),aY,(.slice none 0 0),(.int .i64 (0:Int)),(.int .i64 (0:Int)),(.int .i64 (0:Int)),(.int .u32 (0:Int)),(.slice none 0 0),(.slice none 0 0)])) h3 fun _ h4=>
 ∃res6:bh,ah h4 a1 0 res6∧
 R (.tuple #[res6,false]) h4)
 (∃a7:Addr,(l_0.ptr=some a7∧0≤(1:Int)∧(1:Int)<(l_0.len:Int))∧
 ∃x8:ByteArray,cellOf h3 (a7.add ((1:Int).toNat*1))=some (.string x8)∧
 aa Tryz.prog (Instr.storeAt 29 a1 (.agg #[(.int .i64 (1:Int)),x8,r5.1,(.int .i64 (0:Int)),(.int .i64 (0:Int)),(.int .i64 (0:Int)),(.int .u32 (0:Int)),(.slice none 0 0),(.slice none 0 0)])) h3 fun _ h5=>
 ∃res9:bh,ah h5 a1 0 res9∧
 R (.tuple #[res9,true]) h5))
theorem og (l_0:Sl) (hm: @kZ R h l_0):ag Tryz.prog 20 #[l_0] h R:=ax af Tryz.func20 .n hm
abbrev nz:FuncId:=21
noncomputable def iR (l_0:Sl):Prop:=
 aG Tryz.prog (Instr.alloc 29 true (.tuple #[])) h fun a1 h1=>
 aq Tryz.prog (Instr.makeMap 82 none) (.one (.sc .mp)) h1 fun v2 h2=>
 aa Tryz.prog (Instr.mapUpdate 82 (.map v2) lW (.int .i64 (2:Int))) h2 fun _ h3=>
 aa Tryz.prog (Instr.mapUpdate 82 (.map v2) lX (.int .i64 (3:Int))) h3 fun _ h4=>
 aa Tryz.prog (Instr.mapUpdate 82 (.map v2) kB (.int .i64 (5:Int))) h4 fun _ h5=>
 ∃a3:Addr,(l_0.ptr=some a3∧0≤(0:Int)∧(0:Int)<(l_0.len:Int))∧
 ∃x4:ByteArray,cellOf h5 (a3.add ((0:Int).toNat*1))=some (.string x4)∧
 aq Tryz.prog (Instr.lookup 82 (.map v2) x4 true) (.many [bp,dM]) h5 fun v5 h6=>
 aK (σ:=Unit) (fun _ h9=>
 ∃a9:Addr,(l_0.ptr=some a9∧0≤(1:Int)∧(1:Int)<(l_0.len:Int))∧
 ∃x10:ByteArray,cellOf h9 (a9.add ((1:Int).toNat*1))=some (.string x10)∧
 aa Tryz.prog (Instr.storeAt 29 a1 (.agg #[v5.1,x10,(.slice none 0 0),(.int .i64 (0:Int)),(.int .i64 (0:Int)),(.int .i64 (0:Int)),(.int .u32 (0:Int)),(.slice none 0 0),(.slice none 0 0)])) h9 fun _ h10=>
 ∃res11:bh,ah h10 a1 0 res11∧
 R (.tuple #[res11,true]) h10)
 (fun K1=>
 Br (!v5.2) (aa Tryz.prog (Instr.storeAt 29 a1 (.agg #[(.int .i64 (0:Int)),aY,(.slice none 0 0),(.int .i64 (0:Int)),(.int .i64 (0:Int)),(.int .i64 (0:Int)),(.int .u32 (0:Int)),(.slice none 0 0),(.slice none 0 0)])) h6 fun _ h7=>
 ∃res6:bh,ah h7 a1 0 res6∧
 R (.tuple #[res6,false]) h7) (Br ((l_0.len:Int) !=2)
 (aa Tryz.prog (Instr.storeAt 29 a1 (.agg #[(.int .i64 (0:Int)),aY,(.slice none 0 0),(.int .i64 (0:Int)),(.int .i64 (0:Int)),(.int .i64 (0:Int)),(.int .u32 (0:Int)),(.slice none 0 0),(.slice none 0 0)])) h6 fun _ h8=>
 ∃res7:bh,ah h8 a1 0 res7∧
 R (.tuple #[res7,false]) h8)
 (K1 () h6)))
theorem mQ (l_0:Sl) (hm: @iR R h l_0):ag Tryz.prog 21 #[l_0] h R:=ax af Tryz.func21 (.two .n (.two .n (.two .n (.two (.join [] [(3,4),(17,25)] .n) .n)))) hm
abbrev lY:FuncId:=22
noncomputable def gL (l_0:Sl):Prop:=
 aS (σ:=Sl×Int) (fun s1 K1 h1=>
 Br (decide (s1.2<(l_0.len:Int)))
 (∃a2:Addr,(l_0.ptr=some a2∧0≤s1.2∧s1.2<(l_0.len:Int))∧
 ∃x3:ByteArray,cellOf h1 (a2.add (s1.2.toNat*1))=some (.string x3)∧
 ae Tryz.prog 43 #[x3] (.many [bp,dM]) h1 fun r4 h2=>
 Br (!r4.2)
 (R (.tuple #[(.slice none 0 0),false]) h2)
 (aq Tryz.prog (Instr.buildSlice 22 1 #[(0,r4.1)]) aR h2 fun v5 h3=>
 aq Tryz.prog (Builtin.append_ #[22,22] 22 #[s1.1,v5]) aR h3 fun v6 h4=>
 K1 ((⟨v6.ptr,v6.len,v6.cap⟩:Sl),IntKind.wrap .i64 (s1.2+1)) h4))
 (R (.tuple #[s1.1,true]) h1)) ((⟨none,0,0⟩:Sl),(0:Int)) h
theorem lq (l_0:Sl) (hm: @gL R h l_0):ag Tryz.prog 22 #[l_0] h R:=ax af Tryz.func22 (.two .n (.two .n (.two (.two .n (.inn (.loop [(4,eY),(11,bp)] [(2,5),(6,9),(11,27)] .n))) .n))) hm
abbrev lZ:FuncId:=23
noncomputable def gM (w_0:ByteArray) (l_1:Sl):Prop:=
 aG Tryz.prog (Instr.alloc 29 true (.tuple #[])) h fun a1 h1=>
 aK (σ:=Unit) (fun _ h38=>
 aa Tryz.prog (Instr.storeAt 29 a1 (.agg #[(.int .i64 (0:Int)),aY,(.slice none 0 0),(.int .i64 (0:Int)),(.int .i64 (0:Int)),(.int .i64 (0:Int)),(.int .u32 (0:Int)),(.slice none 0 0),(.slice none 0 0)])) h38 fun _ h39=>
 ∃res67:bh,ah h39 a1 0 res67∧
 R (.tuple #[res67,false]) h39)
 (fun K1=>
 aK (σ:=Bool) (fun s2 h2=>
 Br s2
 (∃a3:Addr,(l_1.ptr=some a3∧0≤(0:Int)∧(0:Int)<(l_1.len:Int))∧
 ∃x4:Int,cellOf h2 (a3.add ((0:Int).toNat*1))=some (.int .i64 x4)∧
 ∃a5:Addr,(l_1.ptr=some a5∧0≤(1:Int)∧(1:Int)<(l_1.len:Int))∧
 ∃x6:Int,cellOf h2 (a5.add ((1:Int).toNat*1))=some (.int .i64 x6)∧
 aa Tryz.prog (Instr.storeAt 29 a1 (.agg #[(.int .i64 (6:Int)),aY,(.slice none 0 0),x4,x6,(.int .i64 (0:Int)),(.int .u32 (0:Int)),(.slice none 0 0),(.slice none 0 0)])) h2 fun _ h3=>
 (au.ok [] h3)∧
 ∃res7:bh,ah h3 a1 0 res7∧
 R (.tuple #[res7,true]) h3)
 (aK (σ:=Bool) (fun s8 h4=>
 Br s8
 (∃a9:Addr,(l_1.ptr=some a9∧0≤(0:Int)∧(0:Int)<(l_1.len:Int))∧
 ∃x10:Int,cellOf h4 (a9.add ((0:Int).toNat*1))=some (.int .i64 x10)∧
 aa Tryz.prog (Instr.storeAt 29 a1 (.agg #[(.int .i64 (7:Int)),aY,(.slice none 0 0),x10,(.int .i64 (0:Int)),(.int .i64 (0:Int)),(.int .u32 (0:Int)),(.slice none 0 0),(.slice none 0 0)])) h4 fun _ h5=>
 ∃res11:bh,ah h5 a1 0 res11∧
 R (.tuple #[res11,true]) h5)
 (aK (σ:=Bool) (fun s12 h6=>
 Br s12
 (∃a13:Addr,(l_1.ptr=some a13∧0≤(0:Int)∧(0:Int)<(l_1.len:Int))∧
 ∃x14:Int,cellOf h6 (a13.add ((0:Int).toNat*1))=some (.int .i64 x14)∧
 ∃a15:Addr,(l_1.ptr=some a15∧0≤(1:Int)∧(1:Int)<(l_1.len:Int))∧
 ∃x16:Int,cellOf h6 (a15.add ((1:Int).toNat*1))=some (.int .i64 x16)∧
 aa Tryz.prog (Instr.storeAt 29 a1 (.agg #[(.int .i64 (8:Int)),aY,(.slice none 0 0),x14,x16,(.int .i64 (0:Int)),(.int .u32 (0:Int)),(.slice none 0 0),(.slice none 0 0)])) h6 fun _ h7=>
 (au.ok [] h7)∧
 ∃res17:bh,ah h7 a1 0 res17∧
 R (.tuple #[res17,true]) h7)
 (aK (σ:=Bool) (fun s18 h8=>
 Br s18
 (∃a19:Addr,(l_1.ptr=some a19∧0≤(0:Int)∧(0:Int)<(l_1.len:Int))∧
 ∃x20:Int,cellOf h8 (a19.add ((0:Int).toNat*1))=some (.int .i64 x20)∧
 aa Tryz.prog (Instr.storeAt 29 a1 (.agg #[(.int .i64 (9:Int)),aY,(.slice none 0 0),x20,(.int .i64 (0:Int)),(.int .i64 (0:Int)),(.int .u32 (0:Int)),(.slice none 0 0),(.slice none 0 0)])) h8 fun _ h9=>
 ∃res21:bh,ah h9 a1 0 res21∧
 R (.tuple #[res21,true]) h9)
 (aK (σ:=Bool) (fun s22 h10=>
 Br s22
 (∃a23:Addr,(l_1.ptr=some a23∧0≤(0:Int)∧(0:Int)<(l_1.len:Int))∧
 ∃x24:Int,cellOf h10 (a23.add ((0:Int).toNat*1))=some (.int .i64 x24)∧
 ∃a25:Addr,(l_1.ptr=some a25∧0≤(1:Int)∧(1:Int)<(l_1.len:Int))∧
 ∃x26:Int,cellOf h10 (a25.add ((1:Int).toNat*1))=some (.int .i64 x26)∧
 aa Tryz.prog (Instr.storeAt 29 a1 (.agg #[(.int .i64 (10:Int)),aY,(.slice none 0 0),(.int .i64 (0:Int)),x24,x26,(.int .u32 (0:Int)),(.slice none 0 0),(.slice none 0 0)])) h10 fun _ h11=>
 (au.ok [] h11)∧
 ∃res27:bh,ah h11 a1 0 res27∧
 R (.tuple #[res27,true]) h11)
 (aK (σ:=Bool) (fun s28 h12=>
 Br s28
 (∃a29:Addr,(l_1.ptr=some a29∧0≤(0:Int)∧(0:Int)<(l_1.len:Int))∧
 ∃x30:Int,cellOf h12 (a29.add ((0:Int).toNat*1))=some (.int .i64 x30)∧
 ∃a31:Addr,(l_1.ptr=some a31∧0≤(1:Int)∧(1:Int)<(l_1.len:Int))∧
 ∃x32:Int,cellOf h12 (a31.add ((1:Int).toNat*1))=some (.int .i64 x32)∧
 ∃a33:Addr,(l_1.ptr=some a33∧0≤(2:Int)∧(2:Int)<(l_1.len:Int))∧
 ∃x34:Int,cellOf h12 (a33.add ((2:Int).toNat*1))=some (.int .i64 x34)∧
 ∃a35:Addr,(l_1.ptr=some a35∧0≤(3:Int)∧(3:Int)<(l_1.len:Int))∧
 ∃x36:Int,cellOf h12 (a35.add ((3:Int).toNat*1))=some (.int .i64 x36)∧
 aa Tryz.prog (Instr.storeAt 29 a1 (.agg #[(.int .i64 (11:Int)),aY,(.slice none 0 0),x30,x32,x34,(.int .u32 (IntKind.wrap .u32 x36)),(.slice none 0 0),(.slice none 0 0)])) h12 fun _ h13=>
 (au.ok [] h13)∧
 ∃res37:bh,ah h13 a1 0 res37∧
 R (.tuple #[res37,true]) h13)
 (aK (σ:=Bool) (fun s38 h14=>
 Br s38
 (∃a39:Addr,(l_1.ptr=some a39∧0≤(0:Int)∧(0:Int)<(l_1.len:Int))∧
 ∃x40:Int,cellOf h14 (a39.add ((0:Int).toNat*1))=some (.int .i64 x40)∧
 aa Tryz.prog (Instr.storeAt 29 a1 (.agg #[(.int .i64 (12:Int)),aY,(.slice none 0 0),(.int .i64 (0:Int)),x40,(.int .i64 (0:Int)),(.int .u32 (0:Int)),(.slice none 0 0),(.slice none 0 0)])) h14 fun _ h15=>
 ∃res41:bh,ah h15 a1 0 res41∧
 R (.tuple #[res41,true]) h15)
 (aK (σ:=Bool) (fun s42 h16=>
 Br s42
 (∃a43:Addr,(l_1.ptr=some a43∧0≤(0:Int)∧(0:Int)<(l_1.len:Int))∧
 ∃x44:Int,cellOf h16 (a43.add ((0:Int).toNat*1))=some (.int .i64 x44)∧
 aG Tryz.prog (Instr.alloc 29 true (.tuple #[])) h16 fun a45 h17=>
 aa Tryz.prog (Instr.storeAt 29 a45 (.agg #[(.int .i64 (13:Int)),aY,(.slice none 0 0),(.int .i64 (0:Int)),x44,(.int .i64 (0:Int)),(.int .u32 (0:Int)),(.slice none 0 0),(.slice none 0 0)])) h17 fun _ h18=>
 aS (σ:=Int) (fun s46 K10 h19=>
 Br (decide (s46<(l_1.len:Int)))
 (∃x47:Sl,cellOf h19 (a45.add 7)=some (.slice x47.ptr x47.len x47.cap)∧
 ∃a48:Addr,(l_1.ptr=some a48∧0≤s46∧s46<(l_1.len:Int))∧
 ∃x49:Int,cellOf h19 (a48.add (s46.toNat*1))=some (.int .i64 x49)∧
 ∃x50:Sl,cellOf h19 (a45.add 8)=some (.slice x50.ptr x50.len x50.cap)∧
 ∃a51:Addr,(l_1.ptr=some a51∧0≤(IntKind.wrap .i64 (s46+1))∧(IntKind.wrap .i64 (s46+1))<(l_1.len:Int))∧
 ∃x52:Int,cellOf h19 (a51.add ((IntKind.wrap .i64 (s46+1)).toNat*1))=some (.int .i64 x52)∧
 (aq Tryz.prog (Instr.buildSlice 22 1 #[(0,x49)]) aR h19 fun v53 h20=>
 (au.ok [(a51.add ((IntKind.wrap .i64 (s46+1)).toNat*1),x52),(a45.add 8,x50),(a45.add 7,x47)] h20)∧
 (aq Tryz.prog (Builtin.append_ #[22,22] 22 #[x47,v53]) aR h20 fun v54 h21=>
 (au.ok [(a51.add ((IntKind.wrap .i64 (s46+1)).toNat*1),x52),(a45.add 8,x50)] h21)∧
 aq Tryz.prog (Instr.buildSlice 22 1 #[(0,x52)]) aR h21 fun v55 h22=>
 (au.ok [(a45.add 8,x50)] h22)∧
 aq Tryz.prog (Builtin.append_ #[22,22] 22 #[x50,v55]) aR h22 fun v56 h23=>
 (au.ok [] h23)∧
 aa Tryz.prog (Instr.storeAt 22 (a45.add 7) v54) h23 fun _ h24=>
 (au.ok [] h24)∧
 aa Tryz.prog (Instr.storeAt 22 (a45.add 8) v56) h24 fun _ h25=>
 (au.ok [] h25)∧
 K10 (IntKind.wrap .i64 (s46+2)) h25)∧(aq Tryz.prog (Instr.buildSlice 22 1 #[(0,x52)]) aR h20 fun v57 h26=>
 (au.ok [(a45.add 8,x50),(a45.add 7,x47)] h26)∧
 aq Tryz.prog (Builtin.append_ #[22,22] 22 #[x47,v53]) aR h26 fun v58 h27=>
 (au.ok [(a45.add 8,x50)] h27)∧
 aq Tryz.prog (Builtin.append_ #[22,22] 22 #[x50,v57]) aR h27 fun v59 h28=>
 (au.ok [] h28)∧
 aa Tryz.prog (Instr.storeAt 22 (a45.add 7) v58) h28 fun _ h29=>
 (au.ok [] h29)∧
 aa Tryz.prog (Instr.storeAt 22 (a45.add 8) v59) h29 fun _ h30=>
 (au.ok [] h30)∧
 K10 (IntKind.wrap .i64 (s46+2)) h30))∧(aq Tryz.prog (Instr.buildSlice 22 1 #[(0,x52)]) aR h19 fun v60 h31=>
 (au.ok [(a45.add 8,x50),(a48.add (s46.toNat*1),x49),(a45.add 7,x47)] h31)∧
 aq Tryz.prog (Instr.buildSlice 22 1 #[(0,x49)]) aR h31 fun v61 h32=>
 (au.ok [(a45.add 8,x50),(a45.add 7,x47)] h32)∧
 aq Tryz.prog (Builtin.append_ #[22,22] 22 #[x47,v61]) aR h32 fun v62 h33=>
 (au.ok [(a45.add 8,x50)] h33)∧
 aq Tryz.prog (Builtin.append_ #[22,22] 22 #[x50,v60]) aR h33 fun v63 h34=>
 (au.ok [] h34)∧
 aa Tryz.prog (Instr.storeAt 22 (a45.add 7) v62) h34 fun _ h35=>
 (au.ok [] h35)∧
 aa Tryz.prog (Instr.storeAt 22 (a45.add 8) v63) h35 fun _ h36=>
 (au.ok [] h36)∧
 K10 (IntKind.wrap .i64 (s46+2)) h36))
 (∃x64:bh,ah h19 a45 0 x64∧
 aa Tryz.prog (Instr.storeAt 29 a1 x64) h19 fun _ h37=>
 ∃res65:bh,ah h37 a1 0 res65∧
 R (.tuple #[res65,true]) h37)) (1:Int) h18)
 (K1 () h16))
 (fun K9=>
 Br (w_0.toList==sL.toList) (((2:Int)≠0)∧
 K9 ((Int.tmod (l_1.len:Int) 2)==1) h14) (K9 false h14))))
 (fun K8=>
 Br (w_0.toList==ul.toList) (K8 ((l_1.len:Int)==1) h12) (K8 false h12))))
 (fun K7=>
 Br (w_0.toList==rD.toList) (K7 ((l_1.len:Int)==4) h10) (K7 false h10))))
 (fun K6=>
 Br (w_0.toList==rC.toList) (K6 ((l_1.len:Int)==2) h8) (K6 false h8))))
 (fun K5=>
 Br (w_0.toList==sK.toList) (K5 ((l_1.len:Int)==1) h6) (K5 false h6))))
 (fun K4=>
 Br (w_0.toList==pd.toList) (K4 ((l_1.len:Int)==2) h4) (K4 false h4))))
 (fun K3=>
 Br (w_0.toList==qq.toList) (K3 ((l_1.len:Int)==1) h2) (K3 false h2))))
 (fun K2=>
 Br (w_0.toList==uk.toList) (K2 ((l_1.len:Int)==2) h1) (K2 false h1)))
theorem lr (w_0:ByteArray) (l_1:Sl) (hm: @gM R h w_0 l_1):ag Tryz.prog 23 #[w_0,l_1] h R:=ax af Tryz.func23 (.two .n (.two (.join [] [(5,150)] (.inn (.two (.join [(8,dM)] [(8,16)] .n) (.two .n (.two (.join [(23,dM)] [(23,31)] .n) (.two .n (.two (.join [(35,dM)] [(35,43)] .n) (.two .n (.two (.join [(50,dM)] [(50,58)] .n) (.two .n (.two (.join [(62,dM)] [(62,70)] .n) (.two .n (.two (.join [(77,dM)] [(77,85)] .n) (.two .n (.two (.join [(99,dM)] [(99,107)] .n) (.two .n (.two (.join [(111,dM)] [(111,120)] .n) (.two (.two .n (.two (.two .n (.inn (.loop [(7,bp)] [(7,8),(124,149)] .n))) .n)) .n)))))))))))))))))) .n)) hm
abbrev gp:FuncId:=27
noncomputable def dP (a_0:Sl) (b_1:Sl):Prop:=
 Br ((a_0.len:Int) !=(b_1.len:Int))
 (R false h)
 (aS (σ:=Int) (fun s1 K1 h1=>
 Br (decide (s1<(a_0.len:Int)))
 (∃a2:Addr,(a_0.ptr=some a2∧0≤s1∧s1<(a_0.len:Int))∧
 ∃x3:Int,cellOf h1 (a2.add (s1.toNat*1))=some (.int .u8 x3)∧
 ∃a4:Addr,(b_1.ptr=some a4∧0≤s1∧s1<(b_1.len:Int))∧
 ∃x5:Int,cellOf h1 (a4.add (s1.toNat*1))=some (.int .u8 x5)∧
 Br (x3 !=x5)
 (R false h1)
 (K1 (IntKind.wrap .i64 (s1+1)) h1))
 (R true h1)) (0:Int) h)
theorem fX (a_0:Sl) (b_1:Sl) (hm: @dP R h a_0 b_1):ag Tryz.prog 27 #[a_0,b_1] h R:=ax af Tryz.func27 (.two .n (.two .n (.two (.two .n (.inn (.loop [(13,bp)] [(4,6),(13,26)] .n))) .n))) hm
abbrev gF:FuncId:=28
noncomputable def dX (a_0:Sl) (b_1:Sl):Prop:=
 Br ((a_0.len:Int) !=(b_1.len:Int))
 (R false h)
 (aS (σ:=Int) (fun s1 K1 h1=>
 Br (decide (s1<(a_0.len:Int)))
 (∃a2:Addr,(a_0.ptr=some a2∧0≤s1∧s1<(a_0.len:Int))∧
 ∃x3:Int,cellOf h1 (a2.add (s1.toNat*1))=some (.int .i64 x3)∧
 ∃a4:Addr,(b_1.ptr=some a4∧0≤s1∧s1<(b_1.len:Int))∧
 ∃x5:Int,cellOf h1 (a4.add (s1.toNat*1))=some (.int .i64 x5)∧
 Br (x3 !=x5)
 (R false h1)
 (K1 (IntKind.wrap .i64 (s1+1)) h1))
 (R true h1)) (0:Int) h)
theorem gq (a_0:Sl) (b_1:Sl) (hm: @dX R h a_0 b_1):ag Tryz.prog 28 #[a_0,b_1] h R:=ax af Tryz.func28 (.two .n (.two .n (.two (.two .n (.inn (.loop [(13,bp)] [(4,6),(13,26)] .n))) .n))) hm
abbrev bU:FuncId:=31
noncomputable def de (b_0:Option Addr) (s_1:ByteArray):Prop:=
 ae Tryz.prog 48 #[b_0] yx h fun _ h1=>
 ∃a2:Addr,(b_0=some a2)∧
 ∃x3:Sl,cellOf h1 (a2.add 1)=some (.slice x3.ptr x3.len x3.cap)∧
 aq Tryz.prog (Builtin.append_ #[26,9] 26 #[x3,s_1]) aR h1 fun v4 h2=>
 ∃a5:Addr,(b_0=some a5)∧
 aa Tryz.prog (Instr.storeAt 26 (a5.add 1) v4) h2 fun _ h3=>
 R (.tuple #[(.int .i64 (s_1.size:Int)),.nilIface]) h3
theorem fi (b_0:Option Addr) (s_1:ByteArray) (hm: @de R h b_0 s_1):ag Tryz.prog 31 #[b_0,s_1] h R:=ax af Tryz.func31 .n hm
abbrev js:FuncId:=33
noncomputable def fb (n_0:Int):Prop:=
 aK (σ:=Int) (fun s1 h1=>
 aS (σ:=ByteArray×Int) (fun s2 K2 h2=>
 Br (decide (s2.2>9))
 (((10:Int)≠0)∧
 ((10:Int)≠0)∧
 (0≤(Int.tmod s2.2 10)∧(Int.tmod s2.2 10)≤(IntKind.wrap .u64 ((Int.tmod s2.2 10)+1))∧(IntKind.wrap .u64 ((Int.tmod s2.2 10)+1))≤(ar.size:Int))∧
 ((((ar.extract (Int.tmod s2.2 10).toNat ((IntKind.wrap .u64 ((Int.tmod s2.2 10)+1)).toNat)).size+s2.1.size:Nat):Int)≤IntKind.max .i64)∧
 ((10:Int)≠0)∧
 K2 ((ar.extract (Int.tmod s2.2 10).toNat ((IntKind.wrap .u64 ((Int.tmod s2.2 10)+1)).toNat))++s2.1,IntKind.wrap .u64 (Int.tdiv s2.2 10)) h2)
 ((0≤s2.2∧s2.2≤(IntKind.wrap .u64 (s2.2+1))∧(IntKind.wrap .u64 (s2.2+1))≤(ar.size:Int))∧
 ((((ar.extract s2.2.toNat ((IntKind.wrap .u64 (s2.2+1)).toNat)).size+s2.1.size:Nat):Int)≤IntKind.max .i64)∧
 Br (decide (n_0<0))
 ((((mK.size+((ar.extract s2.2.toNat ((IntKind.wrap .u64 (s2.2+1)).toNat))++s2.1).size:Nat):Int)≤IntKind.max .i64)∧
 R (.string (mK++((ar.extract s2.2.toNat ((IntKind.wrap .u64 (s2.2+1)).toNat))++s2.1))) h2)
 (R (.string ((ar.extract s2.2.toNat ((IntKind.wrap .u64 (s2.2+1)).toNat))++s2.1)) h2))) (aY,s1) h1)
 (fun K1=>
 Br (decide (n_0<0))
 (K1 (IntKind.wrap .u64 ((IntKind.wrap .u64 (IntKind.wrap .i64 (0-(IntKind.wrap .i64 (n_0+1)))))+1)) h)
 (K1 (IntKind.wrap .u64 n_0) h))
theorem iD (n_0:Int) (hm: @fb R h n_0):ag Tryz.prog 33 #[n_0] h R:=ax af Tryz.func33 (.two .n (.two .n (.two (.join [(4,(.sc (.int .u64)))] [(4,5),(7,14)] .n) (.two (.inn (.loop [(3,bw),(4,(.sc (.int .u64)))] [(3,5),(14,26)] .n)) .n)))) hm
abbrev jt:FuncId:=34
noncomputable def fc (b_0:Sl):Prop:=
 Br ((b_0.len:Int)==0)
 (R mK h)
 (aS (σ:=ByteArray×Int) (fun s1 K1 h1=>
 Br (decide (s1.2<(b_0.len:Int)))
 (∃a2:Addr,(b_0.ptr=some a2∧0≤s1.2∧s1.2<(b_0.len:Int))∧
 ∃x3:Int,cellOf h1 (a2.add (s1.2.toNat*1))=some (.int .u8 x3)∧
 ((16:Int)≠0)∧
 ((16:Int)≠0)∧
 (0≤(IntKind.wrap .u8 (Int.tdiv x3 16))∧(IntKind.wrap .u8 (Int.tdiv x3 16))≤(IntKind.wrap .u8 ((IntKind.wrap .u8 (Int.tdiv x3 16))+1))∧(IntKind.wrap .u8 ((IntKind.wrap .u8 (Int.tdiv x3 16))+1))≤(ar.size:Int))∧
 (((s1.1.size+(ar.extract (IntKind.wrap .u8 (Int.tdiv x3 16)).toNat ((IntKind.wrap .u8 ((IntKind.wrap .u8 (Int.tdiv x3 16))+1)).toNat)).size:Nat):Int)≤IntKind.max .i64)∧
 ((16:Int)≠0)∧
 ((16:Int)≠0)∧
 (0≤(Int.tmod x3 16)∧(Int.tmod x3 16)≤(IntKind.wrap .u8 ((Int.tmod x3 16)+1))∧(IntKind.wrap .u8 ((Int.tmod x3 16)+1))≤(ar.size:Int))∧
 ((((s1.1++(ar.extract (IntKind.wrap .u8 (Int.tdiv x3 16)).toNat ((IntKind.wrap .u8 ((IntKind.wrap .u8 (Int.tdiv x3 16))+1)).toNat))).size+(ar.extract (Int.tmod x3 16).toNat ((IntKind.wrap .u8 ((Int.tmod x3 16)+1)).toNat)).size:Nat):Int)≤IntKind.max .i64)∧
 K1 ((s1.1++(ar.extract (IntKind.wrap .u8 (Int.tdiv x3 16)).toNat ((IntKind.wrap .u8 ((IntKind.wrap .u8 (Int.tdiv x3 16))+1)).toNat)))++(ar.extract (Int.tmod x3 16).toNat ((IntKind.wrap .u8 ((Int.tmod x3 16)+1)).toNat)),IntKind.wrap .i64 (s1.2+1)) h1)
 (R s1.1 h1)) (aY,(0:Int)) h)
theorem iE (b_0:Sl) (hm: @fc R h b_0):ag Tryz.prog 34 #[b_0] h R:=ax af Tryz.func34 (.two .n (.two .n (.two .n (.two (.two .n (.inn (.loop [(3,bw),(11,bp)] [(3,4),(5,6),(11,31)] .n))) .n)))) hm
abbrev ju:FuncId:=35
noncomputable def fd (n_0:Int):Prop:=
 aq Tryz.prog (Instr.buildSlice 25 5 #[(0,wB),(1,wC),(2,sJ),(3,wD),(4,lp)]) aR h fun v1 h1=>
 ae Tryz.prog 11 #[n_0,(.int .i64 (5:Int))] bB h1 fun r2 h2=>
 ∃a3:Addr,(v1.ptr=some a3∧0≤r2∧r2<(v1.len:Int))∧
 ∃x4:ByteArray,cellOf h2 (a3.add (r2.toNat*1))=some (.string x4)∧
 R x4 h2
theorem iF (n_0:Int) (hm: @fd R h n_0):ag Tryz.prog 35 #[n_0] h R:=ax af Tryz.func35 .n hm
abbrev jv:FuncId:=36
noncomputable def fe (n_0:Int) (x_1:Int):Prop:=
 aS (σ:=Sl×Int) (fun s1 K1 h1=>
 Br (decide (s1.2<n_0))
 (((7:Int)≠0)∧
 (0≤(Int.tmod s1.2 7))∧
 aq Tryz.prog (Instr.buildSlice 26 1 #[(0,(.int .u8 (IntKind.wrap .u8 (IntKind.wrap .i64 ((Int.fdiv x_1 (2^min (Int.tmod s1.2 7).toNat (IntKind.bits .i64)))+(IntKind.wrap .i64 (s1.2*(IntKind.wrap .i64 ((BitVec.ofInt (IntKind.bits .i64) x_1|||(BitVec.ofInt (IntKind.bits .i64) (1:Int))).toNat:Nat)))))))))]) aR h1 fun v2 h2=>
 aq Tryz.prog (Builtin.append_ #[26,26] 26 #[s1.1,v2]) aR h2 fun v3 h3=>
 K1 ((⟨v3.ptr,v3.len,v3.cap⟩:Sl),IntKind.wrap .i64 (s1.2+1)) h3)
 (R s1.1 h1)) ((⟨none,0,0⟩:Sl),(0:Int)) h
theorem iG (n_0:Int) (x_1:Int) (hm: @fe R h n_0 x_1):ag Tryz.prog 36 #[n_0,x_1] h R:=ax af Tryz.func36 (.two .n (.two .n (.two (.two .n (.inn (.loop [(5,eY),(6,bp)] [(5,25)] .n))) .n))) hm
abbrev jO:FuncId:=37
noncomputable def ld (p_0:fw) (extra_1:Int) (cells_2:Sl):Prop:=
 aG Tryz.prog (Instr.box 44 p_0) h fun a1 h1=>
 ae Tryz.prog 49 #[] xl h1 fun r2 h2=>
 ∃x3:fw,ah h2 a1 0 x3∧
 ae Tryz.prog 50 #[x3,extra_1,r2,cells_2] (.many [zL,bp]) h2 fun r4 h3=>
 Br (r4.2 !=0)
 (R (.tuple #[(.pointer none),r4.2]) h3)
 (∃v5:Value,(am Tryz.prog (Instr.build 98 #[(0,r2),(1,r4.1)]) v5)∧
 aG Tryz.prog (Instr.box 98 v5) h3 fun a6 h4=>
 R (.tuple #[a6,(.int .i64 (0:Int))]) h4)
theorem oh (p_0:fw) (extra_1:Int) (cells_2:Sl) (hm: @ld R h p_0 extra_1 cells_2):ag Tryz.prog 37 #[p_0,extra_1,cells_2] h R:=ax af Tryz.func37 .n hm
abbrev im:FuncId:=38
noncomputable def iS (s_0:ByteArray):Prop:=
 aG Tryz.prog (Instr.box 9 s_0) h fun a1 h1=>
 R (.func (.func 51) #[] #[a1]) h1
theorem mR (s_0:ByteArray) (hm: @iS R h s_0):ag Tryz.prog 38 #[s_0] h R:=ax af Tryz.func38 .n hm
abbrev ff:FuncId:=39
abbrev fg:FuncId:=40
noncomputable def fB (a_0:Option Addr) (m_1:bh):Prop:=
 aG Tryz.prog (Instr.box 29 m_1) h fun a1 h1=>
 aG Tryz.prog (Instr.alloc 38 true (.tuple #[])) h1 fun a2 h2=>
 Br (Option.isNone a_0)
 (aa Tryz.prog (Instr.storeAt 38 a2 (.agg #[(.int .i64 (14:Int)),(.slice none 0 0),(.slice none 0 0),(.int .i64 (0:Int)),(.int .i64 (0:Int)),(.int .i64 (0:Int)),(.slice none 0 0),(.int .i64 (0:Int))])) h2 fun _ h3=>
 ∃res3:pR,ah h3 a2 0 res3∧
 R res3 h3)
 (aK (σ:=Unit) (fun _ h24=>
 ∃x41:pR,ah h24 a2 0 x41∧
 aa Tryz.prog (Instr.storeAt 38 a2 x41) h24 fun _ h25=>
 ∃res42:pR,ah h25 a2 0 res42∧
 R res42 h25)
 (fun K1=>
 ∃x4:Int,cellOf h2 a1=some (.int .i64 x4)∧
 aK (σ:=Bool) (fun s5 h4=>
 Br s5
 (∃x6:bh,ah h4 a1 0 x6∧
 ae Tryz.prog 54 #[a_0,x6] (.one (.agg [(.int .i64),.slc,.slc,(.int .i64),(.int .i64),(.int .i64),.slc,(.int .i64)])) h4 fun r7 h5=>
 aa Tryz.prog (Instr.storeAt 38 a2 r7) h5 fun _ h6=>
 ∃res8:pR,ah h6 a2 0 res8∧
 R res8 h6)
 (Br (x4==6)
 (∃a9:Addr,(a_0=some a9)∧
 ∃x10:Option Addr,cellOf h4 (a9.add 1)=some (.pointer x10)∧
 ∃x11:Int,cellOf h4 (a1.add 3)=some (.int .i64 x11)∧
 ∃x12:Int,cellOf h4 (a1.add 4)=some (.int .i64 x12)∧
 ae Tryz.prog 55 #[x10,x11,x12] bB h4 fun r13 h7=>
 (au.ok [] h7)∧
 aa Tryz.prog (Instr.storeAt 34 a2 r13) h7 fun _ h8=>
 (au.ok [] h8)∧
 K1 () h8)
 (Br (x4==7)
 (∃a14:Addr,(a_0=some a14)∧
 ∃x15:Option Addr,cellOf h4 (a14.add 1)=some (.pointer x15)∧
 ∃x16:Int,cellOf h4 (a1.add 3)=some (.int .i64 x16)∧
 ae Tryz.prog 56 #[x15,x16] bB h4 fun r17 h9=>
 (au.ok [] h9)∧
 aa Tryz.prog (Instr.storeAt 34 a2 r17) h9 fun _ h10=>
 (au.ok [] h10)∧
 K1 () h10)
 (Br (x4==8)
 (∃a18:Addr,(a_0=some a18)∧
 ∃x19:Option Addr,cellOf h4 (a18.add 1)=some (.pointer x19)∧
 ∃x20:Int,cellOf h4 (a1.add 3)=some (.int .i64 x20)∧
 ∃x21:Int,cellOf h4 (a1.add 4)=some (.int .i64 x21)∧
 ae Tryz.prog 57 #[x19,x20,x21] bB h4 fun r22 h11=>
 (au.ok [] h11)∧
 aa Tryz.prog (Instr.storeAt 34 a2 r22) h11 fun _ h12=>
 (au.ok [] h12)∧
 K1 () h12)
 (Br (x4==9)
 (∃a23:Addr,(a_0=some a23)∧
 ∃x24:Option Addr,cellOf h4 (a23.add 1)=some (.pointer x24)∧
 ∃x25:Int,cellOf h4 (a1.add 3)=some (.int .i64 x25)∧
 ae Tryz.prog 58 #[x24,x25] bB h4 fun r26 h13=>
 (au.ok [] h13)∧
 aa Tryz.prog (Instr.storeAt 34 a2 r26) h13 fun _ h14=>
 (au.ok [] h14)∧
 K1 () h14)
 (Br (x4==10)
 (∃a27:Addr,(a_0=some a27)∧
 ∃x28:Option Addr,cellOf h4 (a27.add 1)=some (.pointer x28)∧
 ∃x29:Int,cellOf h4 (a1.add 4)=some (.int .i64 x29)∧
 ∃x30:Int,cellOf h4 (a1.add 5)=some (.int .i64 x30)∧
 ae Tryz.prog 59 #[x28,x29,x30] (.many [bp,bp]) h4 fun r31 h15=>
 (au.ok [] h15)∧
 aa Tryz.prog (Instr.storeAt 3 (a2.add 7) r31.1) h15 fun _ h16=>
 (au.ok [] h16)∧
 aa Tryz.prog (Instr.storeAt 34 a2 r31.2) h16 fun _ h17=>
 (au.ok [] h17)∧
 K1 () h17)
 (Br (x4==11)
 (∃x32:bh,ah h4 a1 0 x32∧
 ae Tryz.prog 60 #[a_0,x32] bB h4 fun r33 h18=>
 aa Tryz.prog (Instr.storeAt 34 a2 r33) h18 fun _ h19=>
 K1 () h19)
 (Br (x4==12)
 (∃a34:Addr,(a_0=some a34)∧
 ∃x35:Option Addr,cellOf h4 a34=some (.pointer x35)∧
 ∃x36:Int,cellOf h4 (a1.add 4)=some (.int .i64 x36)∧
 ae Tryz.prog 61 #[x35,x36] yx h4 fun _ h20=>
 (au.ok [] h20)∧
 K1 () h20)
 (Br (x4==13)
 (∃x38:bh,ah h4 a1 0 x38∧
 ae Tryz.prog 62 #[a_0,x38] bB h4 fun r39 h21=>
 aa Tryz.prog (Instr.storeAt 34 a2 r39) h21 fun _ h22=>
 K1 () h22)
 (aa Tryz.prog (Instr.storeAt 34 a2 (.int .i64 (1:Int))) h4 fun _ h23=>
 K1 () h23))))))))))
 (fun K2=>
 Br (x4==1)
 (K2 (x4==1) h2)
 (Br (x4==2)
 (K2 (x4==2) h2)
 (Br (x4==3)
 (K2 (x4==3) h2)
 (Br (x4==4)
 (K2 (x4==4) h2)
 (K2 (x4==5) h2)))))))
theorem jw (a_0:Option Addr) (m_1:bh) (hm: @fB R h a_0 m_1):ag Tryz.prog 40 #[a_0,m_1] h R:=ax af Tryz.func40 (.two .n (.two .n (.two (.join [] [(8,101)] (.two .n (.inn (.two (.join [(11,dM)] [(11,17)] .n) .n)))) .n))) hm
abbrev ol:FuncId:=42
noncomputable def jP (w_0:ByteArray):Prop:=
 Br (w_0.toList==mK.toList)
 (R (.tuple #[(.slice none 0 0),true]) h)
 (aK (σ:=Unit) (fun _ h2=>
 aS (σ:=Sl×Int) (fun s3 K2 h3=>
 Br (decide (s3.2<(w_0.size:Int)))
 (aK (σ:=Int×Int) (fun s8 h6=>
 aq Tryz.prog (Instr.buildSlice 26 1 #[(0,(.int .u8 (IntKind.wrap .u8 (IntKind.wrap .i64 ((IntKind.wrap .i64 (s8.1*16))+s8.2)))))]) aR h6 fun v9 h7=>
 aq Tryz.prog (Builtin.append_ #[26,26] 26 #[s3.1,v9]) aR h7 fun v10 h8=>
 K2 ((⟨v10.ptr,v10.len,v10.cap⟩:Sl),IntKind.wrap .i64 (s3.2+2)) h8)
 (fun K3=>
 ∃c4:UInt8,(0≤s3.2∧w_0.data[s3.2.toNat]?=some c4)∧
 ∃c5:UInt8,(0≤(IntKind.wrap .i64 (s3.2+1))∧w_0.data[(IntKind.wrap .i64 (s3.2+1)).toNat]?=some c5)∧
 ae Tryz.prog 52 #[ar,(.int .u8 (c4.toNat:Int))] bB h3 fun r6 h4=>
 (au.ok [] h4)∧
 ae Tryz.prog 52 #[ar,(.int .u8 (c5.toNat:Int))] bB h4 fun r7 h5=>
 (au.ok [] h5)∧
 K3 (r6,r7) h5))
 (R (.tuple #[s3.1,true]) h3)) ((⟨none,0,0⟩:Sl),(0:Int)) h2)
 (fun K1=>
 ((2:Int)≠0)∧
 Br ((Int.tmod (w_0.size:Int) 2)==1) (R (.tuple #[(.slice none 0 0),false]) h) (ae Tryz.prog 66 #[w_0,ar] (.one bw) h fun r1 h1=>
 Br (decide ((r1.size:Int)>0))
 (R (.tuple #[(.slice none 0 0),false]) h1)
 (K1 () h1))))
theorem nA (w_0:ByteArray) (hm: @jP R h w_0):ag Tryz.prog 42 #[w_0] h R:=ax af Tryz.func42 (.two .n (.two .n (.two (.join [] [(2,4),(10,20)] .n) (.two .n (.two (.two .n (.inn (.loop [(4,eY),(5,bp)] [(4,8),(20,43)] (.two .n (.two (.inn (.two (.join [(6,bp),(7,bp)] [(6,8),(26,35)] .n) .n)) .n))))) .n))))) hm
abbrev mS:FuncId:=43
noncomputable def io (w_0:ByteArray):Prop:=
 aK (σ:=Unit) (fun _ h3=>
 ae Tryz.prog 67 #[w_0] (.many [bp,(.sc .any)]) h3 fun r5 h4=>
 ∃b6:Bool,(fk Tryz.prog .eql 68 (.tmp 37) (.const .nilIface) r5.2 .nilIface (.bool b6))∧
 R (.tuple #[r5.1,b6]) h4)
 (fun K1=>
 Br (decide ((w_0.size:Int)<1)) (R (.tuple #[(.int .i64 (0:Int)),false]) h) (Br (decide ((w_0.size:Int)>9)) (R (.tuple #[(.int .i64 (0:Int)),false]) h) (∃c1:UInt8,(0≤(0:Int)∧w_0.data[(0:Int).toNat]?=some c1)∧
 Br ((c1.toNat:Int)==48) (Br (decide ((w_0.size:Int)>1)) (R (.tuple #[(.int .i64 (0:Int)),false]) h) ((0≤(10:Int)∧(10:Int)≤(ar.size:Int))∧
 ae Tryz.prog 66 #[w_0,(.string (ar.extract 0 ((10:Int).toNat)))] (.one bw) h fun r2 h1=>
 Br (decide ((r2.size:Int)>0))
 (R (.tuple #[(.int .i64 (0:Int)),false]) h1)
 (K1 () h1))) ((0≤(10:Int)∧(10:Int)≤(ar.size:Int))∧
 ae Tryz.prog 66 #[w_0,(.string (ar.extract 0 ((10:Int).toNat)))] (.one bw) h fun r3 h2=>
 Br (decide ((r3.size:Int)>0))
 (R (.tuple #[(.int .i64 (0:Int)),false]) h2)
 (K1 () h2)))))
theorem ma (w_0:ByteArray) (hm: @io R h w_0):ag Tryz.prog 43 #[w_0] h R:=ax af Tryz.func43 (.two .n (.two (.join [] [(2,4),(6,31)] .n) .n)) hm
abbrev rE:FuncId:=49
noncomputable def nb:Prop:=
 aG Tryz.prog (Instr.box 113 (.agg #[false,false,(.int .i64 (0:Int)),(.int .i64 (0:Int))])) h fun a1 h1=>
 R a1 h1
theorem qu (hm: @nb R h):ag Tryz.prog 49 #[] h R:=ax af Tryz.func49 .n hm
abbrev om:FuncId:=50
noncomputable def jQ (p_0:fw) (extra_1:Int) (pw_2:Option Addr) (cells_3:Sl):Prop:=
 aG Tryz.prog (Instr.box 44 p_0) h fun a1 h1=>
 ae Tryz.prog 70 #[cells_3] (.many [eY,dM]) h1 fun r2 h2=>
 aK (σ:=Unit) (fun _ h4=>
 aK (σ:=Option Addr) (fun s10 h7=>
 aS (σ:=Int) (fun s11 K3 h8=>
 Br (decide (s11<(r2.1.len:Int)))
 (∃a12:Addr,(r2.1.ptr=some a12∧0≤s11∧s11<(r2.1.len:Int))∧
 ∃x13:Int,cellOf h8 (a12.add (s11.toNat*1))=some (.int .i64 x13)∧
 ∃a14:Addr,(cells_3.ptr=some a14∧0≤x13∧x13<(cells_3.len:Int))∧
 ∃x15:Int,cellOf h8 (a14.add (x13.toNat*1))=some (.int .i64 x15)∧
 ∃a16:Addr,(s10=some a16)∧
 ∃x17:gK,ah h8 a16 0 x17∧
 ae Tryz.prog 73 #[x17] aR h8 fun r18 h9=>
 (au.ok [(a14.add (x13.toNat*1),x15)] h9)∧
 Br (decide (x15<(r18.len:Int)))
 (R (.tuple #[(.pointer none),(.int .i64 (7:Int))]) h9)
 (K3 (IntKind.wrap .i64 (s11+1)) h9))
 (aS (σ:=Int) (fun s19 K4 h10=>
 Br (decide (s19<(r2.1.len:Int)))
 (∃a20:Addr,(r2.1.ptr=some a20∧0≤s19∧s19<(r2.1.len:Int))∧
 ∃x21:Int,cellOf h10 (a20.add (s19.toNat*1))=some (.int .i64 x21)∧
 ∃a22:Addr,(cells_3.ptr=some a22∧0≤x21∧x21<(cells_3.len:Int))∧
 ∃x23:Int,cellOf h10 (a22.add (x21.toNat*1))=some (.int .i64 x23)∧
 ∃a24:Addr,(s10=some a24)∧
 ae Tryz.prog 74 #[x23,pw_2] xl h10 fun r25 h11=>
 (au.ok [] h11)∧
 (0≤x21∧x21<((64:Nat):Int))∧
 aa Tryz.prog (Instr.storeAt 95 ((a24.add 10).add (x21.toNat*1)) r25) h11 fun _ h12=>
 (au.ok [] h12)∧
 K4 (IntKind.wrap .i64 (s19+1)) h12)
 (∃a26:Addr,(s10=some a26)∧
 ∃x27:gK,ah h10 a26 0 x27∧
 ae Tryz.prog 77 #[x27,r2.1] aR h10 fun r28 h13=>
 ae Tryz.prog 75 #[(.func (.func 76) #[s10] #[]),r28] bB h13 fun r29 h14=>
 Br (r29 !=0)
 (R (.tuple #[(.pointer none),r29]) h14)
 (R (.tuple #[s10,(.int .i64 (0:Int))]) h14))) (0:Int) h8)) (0:Int) h7)
 (fun K2=>
 ∃x6:fw,ah h4 a1 0 x6∧
 ae Tryz.prog 72 #[pw_2] bB h4 fun r7 h5=>
 (au.ok [(a1,x6.1),(a1.add 1,x6.2.1),(a1.add 2,x6.2.2)] h5)∧
 ∃v8:Value,(am Tryz.prog (Instr.build 121 #[(0,(.agg #[(.int .i64 (1:Int)),(.int .i64 (0:Int)),x6.1,x6.2.1,x6.2.2,extra_1,r2.1,(.slice none 0 0)])),(1,pw_2),(2,r7)]) v8)∧
 aG Tryz.prog (Instr.box 121 v8) h5 fun a9 h6=>
 (au.ok [(a1,x6.1),(a1.add 1,x6.2.1),(a1.add 2,x6.2.2)] h6)∧
 K2 (some a9) h6))
 (fun K1=>
 Br (!r2.2) (R (.tuple #[(.pointer none),(.int .i64 (1:Int))]) h2) (∃x3:fw,ah h2 a1 0 x3∧
 ae Tryz.prog 71 #[x3] cr h2 fun r4 h3=>
 Br (!r4) (R (.tuple #[(.pointer none),(.int .i64 (1:Int))]) h3) (Br (decide (extra_1<0)) (R (.tuple #[(.pointer none),(.int .i64 (1:Int))]) h3) (Br (decide (extra_1>16)) (R (.tuple #[(.pointer none),(.int .i64 (1:Int))]) h3) (Br (Option.isNone pw_2)
 (R (.tuple #[(.pointer none),(.int .i64 (1:Int))]) h3)
 (K1 () h3))))))
theorem nB (p_0:fw) (extra_1:Int) (pw_2:Option Addr) (cells_3:Sl) (hm: @jQ R h p_0 extra_1 pw_2 cells_3):ag Tryz.prog 50 #[p_0,extra_1,pw_2,cells_3] h R:=ax af Tryz.func50 (.two .n (.two .n (.two (.join [] [(8,10),(23,42)] .n) (.two (.join [(12,zL)] [(12,13),(42,51)] .n) (.two (.two .n (.inn (.loop [(53,bp)] [(8,10),(14,15),(53,69)] .n))) (.two (.two .n (.inn (.loop [(71,bp)] [(16,17),(71,87)] .n))) .n)))))) hm
abbrev aZ:FuncId:=51
abbrev fC:FuncId:=52
abbrev iH:FuncId:=54
noncomputable def eK (a_0:Option Addr) (m_1:bh):Prop:=
 aG Tryz.prog (Instr.box 29 m_1) h fun a1 h1=>
 aG Tryz.prog (Instr.alloc 38 true (.tuple #[])) h1 fun a2 h2=>
 aK (σ:=Unit) (fun _ h18=>
 ∃x30:pR,ah h18 a2 0 x30∧
 aa Tryz.prog (Instr.storeAt 38 a2 x30) h18 fun _ h19=>
 ∃res31:pR,ah h19 a2 0 res31∧
 R res31 h19)
 (fun K1=>
 ∃x3:Int,cellOf h2 a1=some (.int .i64 x3)∧
 Br (x3==1)
 (∃a4:Addr,(a_0=some a4)∧
 ∃x5:Option Addr,cellOf h2 (a4.add 1)=some (.pointer x5)∧
 ∃x6:ByteArray,cellOf h2 (a1.add 1)=some (.string x6)∧
 ∃x7:Sl,cellOf h2 (a1.add 2)=some (.slice x7.ptr x7.len x7.cap)∧
 ae Tryz.prog 80 #[x5,x6,x7] bB h2 fun r8 h3=>
 (au.ok [] h3)∧
 aa Tryz.prog (Instr.storeAt 34 a2 r8) h3 fun _ h4=>
 (au.ok [] h4)∧
 K1 () h4)
 (Br (x3==2)
 (∃a9:Addr,(a_0=some a9)∧
 ∃x10:Option Addr,cellOf h2 (a9.add 1)=some (.pointer x10)∧
 ∃x11:ByteArray,cellOf h2 (a1.add 1)=some (.string x11)∧
 ae Tryz.prog 81 #[x10,x11] (.many [eY,bp]) h2 fun r12 h5=>
 (au.ok [] h5)∧
 aa Tryz.prog (Instr.storeAt 26 (a2.add 1) r12.1) h5 fun _ h6=>
 (au.ok [] h6)∧
 aa Tryz.prog (Instr.storeAt 34 a2 r12.2) h6 fun _ h7=>
 (au.ok [] h7)∧
 K1 () h7)
 (Br (x3==3)
 (∃a13:Addr,(a_0=some a13)∧
 ∃x14:Option Addr,cellOf h2 (a13.add 1)=some (.pointer x14)∧
 ∃x15:ByteArray,cellOf h2 (a1.add 1)=some (.string x15)∧
 ae Tryz.prog 82 #[x14,x15] bB h2 fun r16 h8=>
 (au.ok [] h8)∧
 aa Tryz.prog (Instr.storeAt 34 a2 r16) h8 fun _ h9=>
 (au.ok [] h9)∧
 K1 () h9)
 (Br (x3==4)
 (∃a17:Addr,(a_0=some a17)∧
 ∃x18:Option Addr,cellOf h2 (a17.add 1)=some (.pointer x18)∧
 ae Tryz.prog 83 #[x18] aR h2 fun r19 h10=>
 aa Tryz.prog (Instr.storeAt 25 (a2.add 2) r19) h10 fun _ h11=>
 ∃a20:Addr,(a_0=some a20)∧
 ∃x21:Option Addr,cellOf h11 (a20.add 1)=some (.pointer x21)∧
 Br (Option.isNone x21) (aa Tryz.prog (Instr.storeAt 34 a2 (.int .i64 (14:Int))) h11 fun _ h12=>
 K1 () h12) (∃a22:Addr,(a_0=some a22)∧
 ∃x23:Option Addr,cellOf h11 (a22.add 1)=some (.pointer x23)∧
 ae Tryz.prog 84 #[x23] cr h11 fun r24 h13=>
 Br r24
 (aa Tryz.prog (Instr.storeAt 34 a2 (.int .i64 (14:Int))) h13 fun _ h14=>
 K1 () h14)
 (K1 () h13)))
 (Br (x3==5)
 (∃a25:Addr,(a_0=some a25)∧
 ∃x26:Option Addr,cellOf h2 (a25.add 1)=some (.pointer x26)∧
 ∃x27:ByteArray,cellOf h2 (a1.add 1)=some (.string x27)∧
 ae Tryz.prog 85 #[x26,x27] (.many [(.agg [(.int .i64),(.int .i64),(.int .i64),.slc]),bp]) h2 fun r28 h15=>
 (au.ok [] h15)∧
 aa Tryz.prog (Instr.storeAt 36 (a2.add 3) r28.1) h15 fun _ h16=>
 (au.ok [] h16)∧
 aa Tryz.prog (Instr.storeAt 34 a2 r28.2) h16 fun _ h17=>
 (au.ok [] h17)∧
 K1 () h17)
 (K1 () h2))))))
theorem ip (a_0:Option Addr) (m_1:bh) (hm: @eK R h a_0 m_1):ag Tryz.prog 54 #[a_0,m_1] h R:=ax af Tryz.func54 (.two .n (.two (.join [] [(5,78)] .n) .n)) hm
abbrev iT:FuncId:=66
noncomputable def jR (s_0:ByteArray) (cutset_1:ByteArray):Prop:=
 aK (σ:=Unit) (fun _ h1=>
 aK (σ:=Unit) (fun _ h4=>
 ae Tryz.prog 120 #[cutset_1] (.many [(.arr .bool),dM]) h4 fun r8 h5=>
 aG Tryz.prog (Instr.alloc 170 true (.tuple #[])) h5 fun a9 h6=>
 aa Tryz.prog (Instr.storeAt 170 a9 (.agg (r8.1.map (Sc.enc .bool)).toArray)) h6 fun _ h7=>
 Br r8.2
 (ae Tryz.prog 122 #[s_0,a9] (.one bw) h7 fun r10 h8=>
 ae Tryz.prog 121 #[r10,a9] (.one bw) h8 fun r11 h9=>
 R r11 h9)
 (ae Tryz.prog 124 #[s_0,cutset_1] (.one bw) h7 fun r12 h10=>
 ae Tryz.prog 123 #[r12,cutset_1] (.one bw) h10 fun r13 h11=>
 R r13 h11))
 (fun K2=>
 Br ((cutset_1.size:Int)==1) (∃c2:UInt8,(0≤(0:Int)∧cutset_1.data[(0:Int).toNat]?=some c2)∧
 Br (decide ((c2.toNat:Int)<128))
 (∃c3:UInt8,(0≤(0:Int)∧cutset_1.data[(0:Int).toNat]?=some c3)∧
 ∃c4:UInt8,(0≤(0:Int)∧cutset_1.data[(0:Int).toNat]?=some c4)∧
 ae Tryz.prog 119 #[s_0,(.int .u8 (c3.toNat:Int))] (.one bw) h1 fun r5 h2=>
 (au.ok [] h2)∧
 ae Tryz.prog 118 #[r5,(.int .u8 (c4.toNat:Int))] (.one bw) h2 fun r6 h3=>
 (au.ok [] h3)∧
 R r6 h3)
 (K2 () h1)) (K2 () h1)))
 (fun K1=>
 Br (s_0.toList==aY.toList) (R s_0 h) (Br (cutset_1.toList==aY.toList)
 (R s_0 h)
 (K1 () h)))
theorem nC (s_0:ByteArray) (cutset_1:ByteArray) (hm: @jR R h s_0 cutset_1):ag Tryz.prog 66 #[s_0,cutset_1] h R:=ax af Tryz.func66 (.two .n (.two (.join [] [(4,5),(7,14)] .n) (.two (.join [] [(4,5),(14,29)] .n) .n))) hm
abbrev oo:FuncId:=70
noncomputable def jS (cells_0:Sl):Prop:=
 aS (σ:=Sl×Int) (fun s1 K1 h1=>
 Br (decide (s1.2<(cells_0.len:Int)))
 (∃a2:Addr,(cells_0.ptr=some a2∧0≤s1.2∧s1.2<(cells_0.len:Int))∧
 ∃x3:Int,cellOf h1 (a2.add (s1.2.toNat*1))=some (.int .i64 x3)∧
 aK (σ:=Unit) (fun _ h2=>
 Br (decide (x3>0))
 (aq Tryz.prog (Instr.buildSlice 22 1 #[(0,s1.2)]) aR h2 fun v5 h3=>
 aq Tryz.prog (Builtin.append_ #[22,22] 22 #[s1.1,v5]) aR h3 fun v6 h4=>
 K1 ((⟨v6.ptr,v6.len,v6.cap⟩:Sl),IntKind.wrap .i64 (s1.2+1)) h4)
 (K1 ((⟨s1.1.ptr,s1.1.len,s1.1.cap⟩:Sl),IntKind.wrap .i64 (s1.2+1)) h2))
 (fun K2=>
 Br (decide (x3<0)) (R (.tuple #[(.slice none 0 0),false]) h1) (Br (decide (x3>512))
 (R (.tuple #[(.slice none 0 0),false]) h1)
 (K2 () h1))))
 (Br (decide ((cells_0.len:Int)≤64)) (R (.tuple #[s1.1,(decide ((s1.1.len:Int)>0))]) h1) (R (.tuple #[s1.1,false]) h1))) ((⟨none,0,0⟩:Sl),(0:Int)) h
theorem nD (cells_0:Sl) (hm: @jS R h cells_0):ag Tryz.prog 70 #[cells_0] h R:=ax af Tryz.func70 (.two .n (.two .n (.two (.two .n (.inn (.loop [(4,eY),(9,bp)] [(2,7),(9,27)] (.two .n (.two .n (.two (.inn (.two .n (.two (.join [] [(2,4),(14,20)] .n) .n))) .n)))))) .n))) hm
abbrev uo:FuncId:=71
noncomputable def pS (p_0:fw):Prop:=
 aG Tryz.prog (Instr.box 44 p_0) h fun a1 h1=>
 ∃x2:Int,cellOf h1 a1=some (.int .i64 x2)∧
 Br (decide (x2≥1)) (∃x3:Int,cellOf h1 a1=some (.int .i64 x3)∧
 Br (decide (x3≤16)) (∃x4:Int,cellOf h1 (a1.add 1)=some (.int .i64 x4)∧
 Br (decide (x4≥1)) (∃x5:Int,cellOf h1 (a1.add 1)=some (.int .i64 x5)∧
 Br (decide (x5≤4)) (∃x6:Int,cellOf h1 (a1.add 2)=some (.int .i64 x6)∧
 Br (decide (x6≥1)) (∃x7:Int,cellOf h1 (a1.add 2)=some (.int .i64 x7)∧
 R (decide (x7≤24)) h1) (R false h1)) (R false h1)) (R false h1)) (R false h1)) (R false h1)
theorem sO (p_0:fw) (hm: @pS R h p_0):ag Tryz.prog 71 #[p_0] h R:=ax af Tryz.func71 .n hm
abbrev lu:FuncId:=72
noncomputable def gr (p_0:Option Addr):Prop:=
 Br (Option.isNone p_0)
 (R (.int .i64 (0:Int)) h)
 (∃a1:Addr,(p_0=some a1)∧
 ∃x2:Int,cellOf h (a1.add 3)=some (.int .i64 x2)∧
 R x2 h)
theorem kC (p_0:Option Addr) (hm: @gr R h p_0):ag Tryz.prog 72 #[p_0] h R:=ax af Tryz.func72 .n hm
abbrev qv:FuncId:=73
noncomputable def mb (m_0:gK):Prop:=
 aG Tryz.prog (Instr.box 118 m_0) h fun a1 h1=>
 ∃x2:gK,ah h1 a1 0 x2∧
 ae Tryz.prog 131 #[x2] aR h1 fun r3 h2=>
 ((48:Int)≠0)∧
 aS (σ:=Sl×Int) (fun s4 K1 h3=>
 Br (decide (s4.2<(IntKind.wrap .i64 (Int.tdiv (IntKind.wrap .i64 ((IntKind.wrap .i64 ((r3.len:Int)+48))-1)) 48))))
 (∃x5:Int,cellOf h3 a1=some (.int .i64 x5)∧
 (0≤(IntKind.wrap .i64 (s4.2*48))∧(IntKind.wrap .i64 (s4.2*48))≤(if(IntKind.wrap .i64 ((IntKind.wrap .i64 (s4.2+1))*48))<(r3.len:Int)then IntKind.wrap .i64 ((IntKind.wrap .i64 (s4.2+1))*48)else(r3.len:Int))∧(if(IntKind.wrap .i64 ((IntKind.wrap .i64 (s4.2+1))*48))<(r3.len:Int)then IntKind.wrap .i64 ((IntKind.wrap .i64 (s4.2+1))*48)else(r3.len:Int))≤(r3.cap:Int))∧
 ae Tryz.prog 132 #[x5,s4.2,(IntKind.wrap .i64 (Int.tdiv (IntKind.wrap .i64 ((IntKind.wrap .i64 ((r3.len:Int)+48))-1)) 48)),(.slice (if r3.cap=(IntKind.wrap .i64 (s4.2*48)).toNat then r3.ptr else r3.ptr.map (·.add ((IntKind.wrap .i64 (s4.2*48)).toNat*1))) ((if(IntKind.wrap .i64 ((IntKind.wrap .i64 (s4.2+1))*48))<(r3.len:Int)then IntKind.wrap .i64 ((IntKind.wrap .i64 (s4.2+1))*48)else(r3.len:Int)).toNat-(IntKind.wrap .i64 (s4.2*48)).toNat) (r3.cap-(IntKind.wrap .i64 (s4.2*48)).toNat))] aR h3 fun r6 h4=>
 (au.ok [] h4)∧
 aq Tryz.prog (Instr.buildSlice 122 1 #[(0,r6)]) aR h4 fun v7 h5=>
 (au.ok [] h5)∧
 aq Tryz.prog (Builtin.append_ #[122,122] 122 #[s4.1,v7]) aR h5 fun v8 h6=>
 (au.ok [] h6)∧
 K1 ((⟨v8.ptr,v8.len,v8.cap⟩:Sl),IntKind.wrap .i64 (s4.2+1)) h6)
 (R s4.1 h3)) ((⟨none,0,0⟩:Sl),(0:Int)) h2
theorem ph (m_0:gK) (hm: @mb R h m_0):ag Tryz.prog 73 #[m_0] h R:=ax af Tryz.func73 (.two .n (.two .n (.two .n (.two .n (.two (.two .n (.inn (.loop [(5,eY),(16,bp)] [(5,8),(16,39)] .n))) .n))))) hm
abbrev rF:FuncId:=74
noncomputable def nc (cells_0:Int) (p_1:Option Addr):Prop:=
 aK (σ:=Unit) (fun _ h1=>
 aG Tryz.prog (Instr.box 184 (.agg #[p_1,cells_0,(.slice none 0 0),(.int .i64 (0:Int)),(.slice none 0 0),false,false])) h1 fun a2 h2=>
 R a2 h2)
 (fun K1=>
 Br (decide (cells_0<1)) (R (.pointer none) h) (Br (decide (cells_0>512)) (R (.pointer none) h) (Br (Option.isNone p_1)
 (R (.pointer none) h)
 (K1 () h))))
theorem qw (cells_0:Int) (p_1:Option Addr) (hm: @nc R h cells_0 p_1):ag Tryz.prog 74 #[cells_0,p_1] h R:=ax af Tryz.func74 (.two .n (.two (.join [] [(4,15)] .n) .n)) hm
abbrev uq:FuncId:=75
noncomputable def pT (at_0:FuncId×Array Value×Array Value) (l_1:Sl):Prop:=
 aS (σ:=Sl×Int) (fun s1 K1 h1=>
 Br (decide (s1.2<(l_1.len:Int)))
 (∃a2:Addr,(l_1.ptr=some a2∧0≤s1.2∧s1.2<(l_1.len:Int))∧
 ∃x3:Int×Sl,ah h1 (a2.add (s1.2.toNat*2)) 0 x3∧
 aG Tryz.prog (Instr.alloc 187 true (.tuple #[])) h1 fun a4 h2=>
 aa Tryz.prog (Instr.storeAt 187 a4 x3) h2 fun _ h3=>
 aK (σ:=Unit) (fun _ h7=>
 ∃x11:Int,cellOf h7 a4=some (.int .i64 x11)∧
 aq Tryz.prog (Instr.buildSlice 22 1 #[(0,x11)]) aR h7 fun v12 h8=>
 aq Tryz.prog (Builtin.append_ #[22,22] 22 #[s1.1,v12]) aR h8 fun v13 h9=>
 K1 ((⟨v13.ptr,v13.len,v13.cap⟩:Sl),IntKind.wrap .i64 (s1.2+1)) h9)
 (fun K2=>
 aK (σ:=Int) (fun s9 h6=>
 Br (s9 !=0)
 (R s9 h6)
 (K2 () h6))
 (fun K3=>
 ∃x5:Int,cellOf h3 a4=some (.int .i64 x5)∧
 ∃x6:Sl,cellOf h3 (a4.add 1)=some (.slice x6.ptr x6.len x6.cap)∧
 oU C at_0.1 (at_0.2.1.toList++[(.int .i64 x5)]++at_0.2.2.toList) xl h3 fun r7 h4=>
 (au.ok [(a4.add 1,x6)] h4)∧
 ae Tryz.prog 133 #[r7,x6] bB h4 fun r8 h5=>
 (au.ok [] h5)∧
 K3 r8 h5)))
 (ae Tryz.prog 134 #[(.func (.func at_0.1) at_0.2.1 at_0.2.2),s1.1] bB h1 fun r14 h10=>
 R r14 h10)) ((⟨none,0,0⟩:Sl),(0:Int)) h
theorem sP (at_0:FuncId×Array Value×Array Value) (l_1:Sl) (hm: @pT R h at_0 l_1):ag Tryz.prog 75 #[(.func (.func at_0.1) at_0.2.1 at_0.2.2),l_1] h R:=ax af Tryz.func75 (.two .n (.two .n (.two (.two .n (.inn (.loop [(5,eY),(11,bp)] [(4,6),(7,9),(11,31)] (.two .n (.two .n (.two (.inn (.two .n (.two (.join [] [(4,5),(8,9),(15,25)] (.two (.join [(8,bp)] [(8,9),(15,22)] .n) .n)) .n))) .n)))))) .n))) hm
abbrev bV:FuncId:=76
noncomputable def fM (s_0:Option Addr) (slot_1:Int):Prop:=
 aK (σ:=Unit) (fun _ h1=>
 ∃a2:Addr,(s_0=some a2)∧
 (0≤slot_1∧slot_1<((64:Nat):Int))∧
 ∃x3:Option Addr,cellOf h1 ((a2.add 10).add (slot_1.toNat*1))=some (.pointer x3)∧
 R x3 h1)
 (fun K1=>
 Br (Option.isNone s_0) (R (.pointer none) h) (Br (decide (slot_1<0)) (R (.pointer none) h) (Br (decide (slot_1≥64))
 (R (.pointer none) h)
 (K1 () h))))
theorem jT (s_0:Option Addr) (slot_1:Int) (hm: @fM R h s_0 slot_1):ag Tryz.prog 76 #[s_0,slot_1] h R:=ax af Tryz.func76 (.two .n (.two (.join [] [(4,15)] .n) .n)) hm
abbrev rG:FuncId:=77
noncomputable def nd (m_0:gK) (slots_1:Sl):Prop:=
 aG Tryz.prog (Instr.box 118 m_0) h fun a1 h1=>
 ∃x2:gK,ah h1 a1 0 x2∧
 ae Tryz.prog 73 #[x2] aR h1 fun r3 h2=>
 aS (σ:=Sl×Int) (fun s4 K1 h3=>
 Br (decide (s4.2<(slots_1.len:Int)))
 (∃a5:Addr,(slots_1.ptr=some a5∧0≤s4.2∧s4.2<(slots_1.len:Int))∧
 ∃x6:Int,cellOf h3 (a5.add (s4.2.toNat*1))=some (.int .i64 x6)∧
 aS (σ:=Sl×Int) (fun s7 K2 h4=>
 Br (decide (s7.2<(r3.len:Int)))
 (∃a8:Addr,(r3.ptr=some a8∧0≤s7.2∧s7.2<(r3.len:Int))∧
 ∃x9:Sl,cellOf h4 (a8.add (s7.2.toNat*1))=some (.slice x9.ptr x9.len x9.cap)∧
 aq Tryz.prog (Instr.buildSlice 127 1 #[(0,(.agg #[x6,x9]))]) aR h4 fun v10 h5=>
 aq Tryz.prog (Builtin.append_ #[127,127] 127 #[s7.1,v10]) aR h5 fun v11 h6=>
 K2 ((⟨v11.ptr,v11.len,v11.cap⟩:Sl),IntKind.wrap .i64 (s7.2+1)) h6)
 (K1 ((⟨s7.1.ptr,s7.1.len,s7.1.cap⟩:Sl),IntKind.wrap .i64 (s4.2+1)) h4)) ((⟨s4.1.ptr,s4.1.len,s4.1.cap⟩:Sl),(0:Int)) h3)
 (R s4.1 h3)) ((⟨none,0,0⟩:Sl),(0:Int)) h2
theorem qx (m_0:gK) (slots_1:Sl) (hm: @nd R h m_0 slots_1):ag Tryz.prog 77 #[m_0,slots_1] h R:=ax af Tryz.func77 (.two .n (.two .n (.two .n (.two (.two .n (.inn (.loop [(6,eY),(15,bp)] [(6,7),(8,9),(10,11),(15,33)] (.two .n (.two .n (.two (.inn (.two .n (.two .n (.inn (.loop [(6,eY),(21,bp)] [(6,7),(10,11),(21,32)] .n))))) .n)))))) .n)))) hm
abbrev lv:FuncId:=83
noncomputable def gu (s_0:Option Addr):Prop:=
 ae Tryz.prog 145 #[s_0] cr h fun r1 h1=>
 Br r1
 (R (.slice none 0 0) h1)
 (∃a2:Addr,(s_0=some a2)∧
 ∃x3:Sl,cellOf h1 (a2.add 7)=some (.slice x3.ptr x3.len x3.cap)∧
 aS (σ:=Sl×Int) (fun s4 K1 h2=>
 Br (decide (s4.2<(x3.len:Int)))
 (∃a5:Addr,(x3.ptr=some a5∧0≤s4.2∧s4.2<(x3.len:Int))∧
 ∃x6:of,ah h2 (a5.add (s4.2.toNat*4)) 0 x6∧
 aG Tryz.prog (Instr.alloc 157 true (.tuple #[])) h2 fun a7 h3=>
 aa Tryz.prog (Instr.storeAt 157 a7 x6) h3 fun _ h4=>
 ∃x8:ByteArray,cellOf h4 a7=some (.string x8)∧
 ae Tryz.prog 154 #[x8] (.one bw) h4 fun r9 h5=>
 aq Tryz.prog (Instr.buildSlice 25 1 #[(0,r9)]) aR h5 fun v10 h6=>
 aq Tryz.prog (Builtin.append_ #[25,25] 25 #[s4.1,v10]) aR h6 fun v11 h7=>
 K1 ((⟨v11.ptr,v11.len,v11.cap⟩:Sl),IntKind.wrap .i64 (s4.2+1)) h7)
 (R s4.1 h2)) ((⟨none,0,0⟩:Sl),(0:Int)) h1)
theorem kD (s_0:Option Addr) (hm: @gu R h s_0):ag Tryz.prog 83 #[s_0] h R:=ax af Tryz.func83 (.two .n (.two .n (.two .n (.two (.two .n (.inn (.loop [(3,eY),(14,bp)] [(3,4),(5,6),(14,25)] .n))) .n)))) hm
abbrev lx:FuncId:=84
noncomputable def gv (s_0:Option Addr):Prop:=
 Br (!(Option.isNone s_0)) (∃a1:Addr,(s_0=some a1)∧
 ∃x2:Option Addr,cellOf h (a1.add 8)=some (.pointer x2)∧
 ae Tryz.prog 108 #[x2] cr h fun r3 h1=>
 (au.ok [] h1)∧
 Br (!r3) ((au.ok [] h1)∧
 R true h1) (∃a4:Addr,(s_0=some a4)∧
 ∃x5:Option Addr,cellOf h1 (a4.add 8)=some (.pointer x5)∧
 ∃a6:Addr,(s_0=some a6)∧
 ∃x7:Int,cellOf h1 (a6.add 9)=some (.int .i64 x7)∧
 ae Tryz.prog 72 #[x5] bB h1 fun r8 h2=>
 (au.ok [(a6.add 9,x7)] h2)∧
 R (.bool (r8 !=x7)) h2)) ((au.ok [] h)∧
 (au.ok [] h)∧
 R false h)
theorem kE (s_0:Option Addr) (hm: @gv R h s_0):ag Tryz.prog 84 #[s_0] h R:=ax af Tryz.func84 .n hm
end Go.Qw
