/- Part of the proofs that the laws of this seat answer true whatever the input reads, and leave it as it was; no condition. -/
import Derived.Test.YteieadfggboeeaaGreatDoorTabA
set_option linter.unusedVariables false
set_option linter.unusedSimpArgs false
namespace Go.Qw
open Go Go.Vc Go.Proofs
set_option maxRecDepth 1000000
variable {R:Value→Heap→Prop} {h:Heap}
abbrev kc:FuncId:=92
abbrev mZ:FuncId:=108
noncomputable def iW (p_0:Option Addr):Prop:=
 Br (!(Option.isNone p_0)) (∃a1:Addr,(p_0=some a1)∧
 ∃x2:Bool,cellOf h a1=some (.bool x2)∧
 R (.bool (!x2)) h) (R false h)
theorem mr (p_0:Option Addr) (hm: @iW R h p_0):ae Tryz.prog 108 #[p_0] h R:=az ag Tryz.func108 .n hm
abbrev js:FuncId:=120
noncomputable def eZ (chars_0:ByteArray):Prop:=
 aI Tryz.prog (Instr.alloc 170 true (.tuple #[])) h fun a1 h1=>
 aS (σ:=Int) (fun s2 K1 h2=>
 Br (decide (s2<(chars_0.size:Int)))
 (∃c3:UInt8,(0≤s2∧chars_0.data[s2.toNat]?=some c3)∧
 Br (decide ((c3.toNat:Int)≥128))
 (∃x4:List (Bool),(x4.length=256∧ai h2 a1 0 (x4.map (Sc.enc .bool)))∧
 aa Tryz.prog (Instr.storeAt 170 a1 (.agg (x4.map (Sc.enc .bool)).toArray)) h2 fun _ h3=>
 ∃res5:List (Bool),(res5.length=256∧ai h3 a1 0 (res5.map (Sc.enc .bool)))∧
 R (.tuple #[(.agg (res5.map (Sc.enc .bool)).toArray),false]) h3)
 ((0≤(c3.toNat:Int)∧(c3.toNat:Int)<((256:Nat):Int))∧
 aa Tryz.prog (Instr.storeAt 4 (a1.add ((c3.toNat:Int).toNat*1)) true) h2 fun _ h4=>
 K1 (IntKind.wrap .i64 (s2+1)) h4))
 (∃x6:List (Bool),(x6.length=256∧ai h2 a1 0 (x6.map (Sc.enc .bool)))∧
 aa Tryz.prog (Instr.storeAt 170 a1 (.agg (x6.map (Sc.enc .bool)).toArray)) h2 fun _ h5=>
 ∃res7:List (Bool),(res7.length=256∧ai h5 a1 0 (res7.map (Sc.enc .bool)))∧
 R (.tuple #[(.agg (res7.map (Sc.enc .bool)).toArray),true]) h5)) (0:Int) h1
theorem iX (chars_0:ByteArray) (hm: @eZ R h chars_0):ae Tryz.prog 120 #[chars_0] h R:=az ag Tryz.func120 (.two .n (.two (.two .n (.inn (.loop [(4,bk)] [(3,20)] .n))) .n)) hm
abbrev iY:FuncId:=121
noncomputable def eQ (s_0:ByteArray) (as_1:Option Addr):Prop:=
 aD (σ:=ByteArray) (fun s4 h3=>
 R s4 h3)
 (fun K1=>
 aS (σ:=ByteArray) (fun s1 K2 h1=>
 Br (decide ((s1.size:Int)>0))
 (∃c2:UInt8,(0≤(0:Int)∧s1.data[(0:Int).toNat]?=some c2)∧
 ah Tryz.prog 190 #[as_1,(.int .u8 (c2.toNat:Int))] cB h1 fun r3 h2=>
 Br (!r3)
 (K1 s1 h2)
 ((0≤(1:Int)∧(1:Int)≤(s1.size:Int))∧
 K2 (s1.extract (1:Int).toNat s1.size) h2))
 (K1 s1 h1)) s_0 h)
theorem iv (s_0:ByteArray) (as_1:Option Addr) (hm: @eQ R h s_0 as_1):ae Tryz.prog 121 #[s_0,as_1] h R:=az ag Tryz.func121 (.two .n (.two (.join [(0,bo)] [(0,1),(5,15)] (.inn (.loop [(0,bo)] [(0,1),(5,15)] .n))) .n)) hm
abbrev iw:FuncId:=122
noncomputable def eA (s_0:ByteArray) (as_1:Option Addr):Prop:=
 aD (σ:=ByteArray) (fun s4 h3=>
 R s4 h3)
 (fun K1=>
 aS (σ:=ByteArray) (fun s1 K2 h1=>
 Br (decide ((s1.size:Int)>0))
 (∃c2:UInt8,(0≤(IntKind.wrap .i64 ((s1.size:Int)-1))∧s1.data[(IntKind.wrap .i64 ((s1.size:Int)-1)).toNat]?=some c2)∧
 ah Tryz.prog 190 #[as_1,(.int .u8 (c2.toNat:Int))] cB h1 fun r3 h2=>
 Br (!r3)
 (K1 s1 h2)
 ((0≤(IntKind.wrap .i64 ((s1.size:Int)-1))∧(IntKind.wrap .i64 ((s1.size:Int)-1))≤(s1.size:Int))∧
 K2 (s1.extract 0 ((IntKind.wrap .i64 ((s1.size:Int)-1)).toNat)) h2))
 (K1 s1 h1)) s_0 h)
theorem hJ (s_0:ByteArray) (as_1:Option Addr) (hm: @eA R h s_0 as_1):ae Tryz.prog 122 #[s_0,as_1] h R:=az ag Tryz.func122 (.two .n (.two (.join [(0,bo)] [(0,1),(5,21)] (.inn (.loop [(0,bo)] [(0,1),(5,21)] .n))) .n)) hm
abbrev iy:FuncId:=127
noncomputable def eB (i_0:Int):Prop:=
 Br (decide (i_0<10))
 ((0≤i_0∧i_0≤(IntKind.wrap .i64 (i_0+1))∧(IntKind.wrap .i64 (i_0+1))≤(bM.size:Int))∧
 R (.string (bM.extract i_0.toNat ((IntKind.wrap .i64 (i_0+1)).toNat))) h)
 ((0≤(IntKind.wrap .i64 (i_0*2))∧(IntKind.wrap .i64 (i_0*2))≤(IntKind.wrap .i64 ((IntKind.wrap .i64 (i_0*2))+2))∧(IntKind.wrap .i64 ((IntKind.wrap .i64 (i_0*2))+2))≤(al.size:Int))∧
 R (.string (al.extract (IntKind.wrap .i64 (i_0*2)).toNat ((IntKind.wrap .i64 ((IntKind.wrap .i64 (i_0*2))+2)).toNat))) h)
theorem hO (i_0:Int) (hm: @eB R h i_0):ae Tryz.prog 127 #[i_0] h R:=az ag Tryz.func127 .n hm
abbrev fo:FuncId:=129
noncomputable def cN (a_0:Sl) (u_1:Int):Prop:=
 aS (σ:=Int×Int) (fun s1 K1 h1=>
 Br (decide (s1.2≥8))
 (((100000000:Int)≠0)∧
 ((100000000:Int)≠0)∧
 ((10000:Int)≠0)∧
 ((10000:Int)≠0)∧
 ((100:Int)≠0)∧
 ((100:Int)≠0)∧
 ((100:Int)≠0)∧
 ((100:Int)≠0)∧
 aD (σ:=Unit) (fun _ h4=>
 aD (σ:=Unit) (fun _ h7=>
 aD (σ:=Unit) (fun _ h10=>
 ∃c17:UInt8,(0≤(IntKind.wrap .u32 ((IntKind.wrap .u32 ((IntKind.wrap .u32 (Int.tdiv (IntKind.wrap .u32 (Int.tdiv (IntKind.wrap .u32 (Int.tmod s1.1 100000000)) 10000)) 100))*2))+1))∧al.data[(IntKind.wrap .u32 ((IntKind.wrap .u32 ((IntKind.wrap .u32 (Int.tdiv (IntKind.wrap .u32 (Int.tdiv (IntKind.wrap .u32 (Int.tmod s1.1 100000000)) 10000)) 100))*2))+1)).toNat]?=some c17)∧
 ∃c18:UInt8,(0≤(IntKind.wrap .u32 ((IntKind.wrap .u32 (Int.tdiv (IntKind.wrap .u32 (Int.tdiv (IntKind.wrap .u32 (Int.tmod s1.1 100000000)) 10000)) 100))*2))∧al.data[(IntKind.wrap .u32 ((IntKind.wrap .u32 (Int.tdiv (IntKind.wrap .u32 (Int.tdiv (IntKind.wrap .u32 (Int.tmod s1.1 100000000)) 10000)) 100))*2)).toNat]?=some c18)∧
 ∃a19:Addr,(a_0.ptr=some a19∧0≤(IntKind.wrap .i64 (s1.2-7))∧(IntKind.wrap .i64 (s1.2-7))<(a_0.len:Int))∧
 aa Tryz.prog (Instr.storeAt 5 (a19.add ((IntKind.wrap .i64 (s1.2-7)).toNat*1)) (.int .u8 (c17.toNat:Int))) h10 fun _ h11=>
 (ar.ok [] h11)∧
 ∃a20:Addr,(a_0.ptr=some a20∧0≤(IntKind.wrap .i64 (s1.2-8))∧(IntKind.wrap .i64 (s1.2-8))<(a_0.len:Int))∧
 aa Tryz.prog (Instr.storeAt 5 (a20.add ((IntKind.wrap .i64 (s1.2-8)).toNat*1)) (.int .u8 (c18.toNat:Int))) h11 fun _ h12=>
 (ar.ok [] h12)∧
 K1 (IntKind.wrap .u64 (Int.tdiv s1.1 100000000),IntKind.wrap .i64 (s1.2-8)) h12)
 (fun K4=>
 ∃c12:UInt8,(0≤(IntKind.wrap .u32 ((IntKind.wrap .u32 ((Int.tmod (IntKind.wrap .u32 (Int.tdiv (IntKind.wrap .u32 (Int.tmod s1.1 100000000)) 10000)) 100)*2))+1))∧al.data[(IntKind.wrap .u32 ((IntKind.wrap .u32 ((Int.tmod (IntKind.wrap .u32 (Int.tdiv (IntKind.wrap .u32 (Int.tmod s1.1 100000000)) 10000)) 100)*2))+1)).toNat]?=some c12)∧
 ∃c13:UInt8,(0≤(IntKind.wrap .u32 ((Int.tmod (IntKind.wrap .u32 (Int.tdiv (IntKind.wrap .u32 (Int.tmod s1.1 100000000)) 10000)) 100)*2))∧al.data[(IntKind.wrap .u32 ((Int.tmod (IntKind.wrap .u32 (Int.tdiv (IntKind.wrap .u32 (Int.tmod s1.1 100000000)) 10000)) 100)*2)).toNat]?=some c13)∧
 ∃a14:Addr,(a_0.ptr=some a14∧0≤(IntKind.wrap .i64 (s1.2-5))∧(IntKind.wrap .i64 (s1.2-5))<(a_0.len:Int))∧
 aa Tryz.prog (Instr.storeAt 5 (a14.add ((IntKind.wrap .i64 (s1.2-5)).toNat*1)) (.int .u8 (c12.toNat:Int))) h7 fun _ h8=>
 (ar.ok [] h8)∧
 ∃a15:Addr,(a_0.ptr=some a15∧0≤(IntKind.wrap .i64 (s1.2-6))∧(IntKind.wrap .i64 (s1.2-6))<(a_0.len:Int))∧
 aa Tryz.prog (Instr.storeAt 5 (a15.add ((IntKind.wrap .i64 (s1.2-6)).toNat*1)) (.int .u8 (c13.toNat:Int))) h8 fun _ h9=>
 (ar.ok [] h9)∧
 K4 () h9))
 (fun K3=>
 ∃c7:UInt8,(0≤(IntKind.wrap .u32 ((IntKind.wrap .u32 ((IntKind.wrap .u32 (Int.tdiv (Int.tmod (IntKind.wrap .u32 (Int.tmod s1.1 100000000)) 10000) 100))*2))+1))∧al.data[(IntKind.wrap .u32 ((IntKind.wrap .u32 ((IntKind.wrap .u32 (Int.tdiv (Int.tmod (IntKind.wrap .u32 (Int.tmod s1.1 100000000)) 10000) 100))*2))+1)).toNat]?=some c7)∧
 ∃c8:UInt8,(0≤(IntKind.wrap .u32 ((IntKind.wrap .u32 (Int.tdiv (Int.tmod (IntKind.wrap .u32 (Int.tmod s1.1 100000000)) 10000) 100))*2))∧al.data[(IntKind.wrap .u32 ((IntKind.wrap .u32 (Int.tdiv (Int.tmod (IntKind.wrap .u32 (Int.tmod s1.1 100000000)) 10000) 100))*2)).toNat]?=some c8)∧
 ∃a9:Addr,(a_0.ptr=some a9∧0≤(IntKind.wrap .i64 (s1.2-3))∧(IntKind.wrap .i64 (s1.2-3))<(a_0.len:Int))∧
 aa Tryz.prog (Instr.storeAt 5 (a9.add ((IntKind.wrap .i64 (s1.2-3)).toNat*1)) (.int .u8 (c7.toNat:Int))) h4 fun _ h5=>
 (ar.ok [] h5)∧
 ∃a10:Addr,(a_0.ptr=some a10∧0≤(IntKind.wrap .i64 (s1.2-4))∧(IntKind.wrap .i64 (s1.2-4))<(a_0.len:Int))∧
 aa Tryz.prog (Instr.storeAt 5 (a10.add ((IntKind.wrap .i64 (s1.2-4)).toNat*1)) (.int .u8 (c8.toNat:Int))) h5 fun _ h6=>
 (ar.ok [] h6)∧
 K3 () h6))
 (fun K2=>
 ∃c2:UInt8,(0≤(IntKind.wrap .u32 ((IntKind.wrap .u32 ((Int.tmod (Int.tmod (IntKind.wrap .u32 (Int.tmod s1.1 100000000)) 10000) 100)*2))+1))∧al.data[(IntKind.wrap .u32 ((IntKind.wrap .u32 ((Int.tmod (Int.tmod (IntKind.wrap .u32 (Int.tmod s1.1 100000000)) 10000) 100)*2))+1)).toNat]?=some c2)∧
 ∃c3:UInt8,(0≤(IntKind.wrap .u32 ((Int.tmod (Int.tmod (IntKind.wrap .u32 (Int.tmod s1.1 100000000)) 10000) 100)*2))∧al.data[(IntKind.wrap .u32 ((Int.tmod (Int.tmod (IntKind.wrap .u32 (Int.tmod s1.1 100000000)) 10000) 100)*2)).toNat]?=some c3)∧
 ∃a4:Addr,(a_0.ptr=some a4∧0≤(IntKind.wrap .i64 (s1.2-1))∧(IntKind.wrap .i64 (s1.2-1))<(a_0.len:Int))∧
 aa Tryz.prog (Instr.storeAt 5 (a4.add ((IntKind.wrap .i64 (s1.2-1)).toNat*1)) (.int .u8 (c2.toNat:Int))) h1 fun _ h2=>
 (ar.ok [] h2)∧
 ∃a5:Addr,(a_0.ptr=some a5∧0≤(IntKind.wrap .i64 (s1.2-2))∧(IntKind.wrap .i64 (s1.2-2))<(a_0.len:Int))∧
 aa Tryz.prog (Instr.storeAt 5 (a5.add ((IntKind.wrap .i64 (s1.2-2)).toNat*1)) (.int .u8 (c3.toNat:Int))) h2 fun _ h3=>
 (ar.ok [] h3)∧
 K2 () h3))
 (aD (σ:=Int×Int) (fun s30 h18=>
 aD (σ:=Int×Int) (fun s35 h21=>
 Br (decide (s35.1>0))
 (∃a36:Addr,(a_0.ptr=some a36∧0≤(0:Int)∧(0:Int)<(a_0.len:Int))∧
 aa Tryz.prog (Instr.storeAt 5 (a36.add ((0:Int).toNat*1)) (.int .u8 (IntKind.wrap .u8 (IntKind.wrap .u32 (48+s35.2))))) h21 fun _ h22=>
 R (.tuple #[]) h22)
 (R (.tuple #[]) h21))
 (fun K7=>
 Br (decide (s30.1≥2))
 (((100:Int)≠0)∧
 ((100:Int)≠0)∧
 ∃c31:UInt8,(0≤(IntKind.wrap .u32 ((IntKind.wrap .u32 ((Int.tmod s30.2 100)*2))+1))∧al.data[(IntKind.wrap .u32 ((IntKind.wrap .u32 ((Int.tmod s30.2 100)*2))+1)).toNat]?=some c31)∧
 ∃c32:UInt8,(0≤(IntKind.wrap .u32 ((Int.tmod s30.2 100)*2))∧al.data[(IntKind.wrap .u32 ((Int.tmod s30.2 100)*2)).toNat]?=some c32)∧
 ∃a33:Addr,(a_0.ptr=some a33∧0≤(IntKind.wrap .i64 (s30.1-1))∧(IntKind.wrap .i64 (s30.1-1))<(a_0.len:Int))∧
 aa Tryz.prog (Instr.storeAt 5 (a33.add ((IntKind.wrap .i64 (s30.1-1)).toNat*1)) (.int .u8 (c31.toNat:Int))) h18 fun _ h19=>
 (ar.ok [] h19)∧
 ∃a34:Addr,(a_0.ptr=some a34∧0≤(IntKind.wrap .i64 (s30.1-2))∧(IntKind.wrap .i64 (s30.1-2))<(a_0.len:Int))∧
 aa Tryz.prog (Instr.storeAt 5 (a34.add ((IntKind.wrap .i64 (s30.1-2)).toNat*1)) (.int .u8 (c32.toNat:Int))) h19 fun _ h20=>
 (ar.ok [] h20)∧
 K7 (IntKind.wrap .i64 (s30.1-2),IntKind.wrap .u32 (Int.tdiv s30.2 100)) h20)
 (K7 (s30.1,s30.2) h18)))
 (fun K5=>
 Br (decide (s1.2≥4))
 (((10000:Int)≠0)∧
 ((10000:Int)≠0)∧
 ((100:Int)≠0)∧
 ((100:Int)≠0)∧
 aD (σ:=Unit) (fun _ h15=>
 ∃c26:UInt8,(0≤(IntKind.wrap .u32 ((IntKind.wrap .u32 ((IntKind.wrap .u32 (Int.tdiv (Int.tmod (IntKind.wrap .u32 s1.1) 10000) 100))*2))+1))∧al.data[(IntKind.wrap .u32 ((IntKind.wrap .u32 ((IntKind.wrap .u32 (Int.tdiv (Int.tmod (IntKind.wrap .u32 s1.1) 10000) 100))*2))+1)).toNat]?=some c26)∧
 ∃c27:UInt8,(0≤(IntKind.wrap .u32 ((IntKind.wrap .u32 (Int.tdiv (Int.tmod (IntKind.wrap .u32 s1.1) 10000) 100))*2))∧al.data[(IntKind.wrap .u32 ((IntKind.wrap .u32 (Int.tdiv (Int.tmod (IntKind.wrap .u32 s1.1) 10000) 100))*2)).toNat]?=some c27)∧
 ∃a28:Addr,(a_0.ptr=some a28∧0≤(IntKind.wrap .i64 (s1.2-3))∧(IntKind.wrap .i64 (s1.2-3))<(a_0.len:Int))∧
 aa Tryz.prog (Instr.storeAt 5 (a28.add ((IntKind.wrap .i64 (s1.2-3)).toNat*1)) (.int .u8 (c26.toNat:Int))) h15 fun _ h16=>
 (ar.ok [] h16)∧
 ∃a29:Addr,(a_0.ptr=some a29∧0≤(IntKind.wrap .i64 (s1.2-4))∧(IntKind.wrap .i64 (s1.2-4))<(a_0.len:Int))∧
 aa Tryz.prog (Instr.storeAt 5 (a29.add ((IntKind.wrap .i64 (s1.2-4)).toNat*1)) (.int .u8 (c27.toNat:Int))) h16 fun _ h17=>
 (ar.ok [] h17)∧
 K5 (IntKind.wrap .i64 (s1.2-4),IntKind.wrap .u32 (Int.tdiv (IntKind.wrap .u32 s1.1) 10000)) h17)
 (fun K6=>
 ∃c21:UInt8,(0≤(IntKind.wrap .u32 ((IntKind.wrap .u32 ((Int.tmod (Int.tmod (IntKind.wrap .u32 s1.1) 10000) 100)*2))+1))∧al.data[(IntKind.wrap .u32 ((IntKind.wrap .u32 ((Int.tmod (Int.tmod (IntKind.wrap .u32 s1.1) 10000) 100)*2))+1)).toNat]?=some c21)∧
 ∃c22:UInt8,(0≤(IntKind.wrap .u32 ((Int.tmod (Int.tmod (IntKind.wrap .u32 s1.1) 10000) 100)*2))∧al.data[(IntKind.wrap .u32 ((Int.tmod (Int.tmod (IntKind.wrap .u32 s1.1) 10000) 100)*2)).toNat]?=some c22)∧
 ∃a23:Addr,(a_0.ptr=some a23∧0≤(IntKind.wrap .i64 (s1.2-1))∧(IntKind.wrap .i64 (s1.2-1))<(a_0.len:Int))∧
 aa Tryz.prog (Instr.storeAt 5 (a23.add ((IntKind.wrap .i64 (s1.2-1)).toNat*1)) (.int .u8 (c21.toNat:Int))) h1 fun _ h13=>
 (ar.ok [] h13)∧
 ∃a24:Addr,(a_0.ptr=some a24∧0≤(IntKind.wrap .i64 (s1.2-2))∧(IntKind.wrap .i64 (s1.2-2))<(a_0.len:Int))∧
 aa Tryz.prog (Instr.storeAt 5 (a24.add ((IntKind.wrap .i64 (s1.2-2)).toNat*1)) (.int .u8 (c22.toNat:Int))) h13 fun _ h14=>
 (ar.ok [] h14)∧
 K6 () h14))
 (K5 (s1.2,IntKind.wrap .u32 s1.1) h1)))) (u_1,(a_0.len:Int)) h
theorem fc (a_0:Sl) (u_1:Int) (hm: @cN R h a_0 u_1):ae Tryz.prog 129 #[a_0,(.int .u64 u_1)] h R:=az ag Tryz.func129 (.two .n (.two (.inn (.loop [(1,(.sc (.int .u64))),(4,bk)] [(1,2),(4,12),(19,96)] (.two .n (.inn (.two .n (.two .n (.two .n (.two .n (.two .n (.two (.join [] [(42,55)] .n) (.two (.join [] [(55,68)] .n) (.two (.join [] [(68,81)] .n) .n)))))))))))) (.two .n (.two (.join [(4,bk),(12,(.sc (.int .u32)))] [(4,5),(12,16),(98,138)] (.two .n (.two (.two .n (.two .n (.two .n (.two (.join [] [(110,123)] .n) .n)))) .n))) (.two (.join [(4,bk),(12,(.sc (.int .u32)))] [(4,5),(12,13),(16,17),(138,160)] .n) .n))))) hm
abbrev rJ:FuncId:=131
noncomputable def np (m_0:ic):Prop:=
 aI Tryz.prog (Instr.box 118 m_0) h fun a1 h1=>
 ∃x2:ic,ai h1 a1 0 x2∧
 ah Tryz.prog 160 #[x2] cB h1 fun r3 h2=>
 Br (!r3)
 (R (.slice none 0 0) h2)
 (aD (σ:=Sl) (fun s8 h5=>
 ∃x9:Int,cellOf h5 (a1.add 2)=some (.int .i64 x9)∧
 ∃x10:Int,cellOf h5 ((a1.add 2).add 1)=some (.int .i64 x10)∧
 ∃x11:Int,cellOf h5 ((a1.add 2).add 2)=some (.int .i64 x11)∧
 ∃x12:Int,cellOf h5 (a1.add 5)=some (.int .i64 x12)∧
 ∃x13:Sl,cellOf h5 (a1.add 6)=some (.slice x13.ptr x13.len x13.cap)∧
 au Tryz.prog (Instr.buildSlice 26 5 #[(0,(.int .u8 (IntKind.wrap .u8 x9))),(1,(.int .u8 (IntKind.wrap .u8 x10))),(2,(.int .u8 (IntKind.wrap .u8 x11))),(3,(.int .u8 (IntKind.wrap .u8 x12))),(4,(.int .u8 (IntKind.wrap .u8 (x13.len:Int))))]) aT h5 fun v14 h6=>
 au Tryz.prog (Builtin.append_ #[26,26] 26 #[s8,v14]) aT h6 fun v15 h7=>
 ∃x16:Sl,cellOf h7 (a1.add 6)=some (.slice x16.ptr x16.len x16.cap)∧
 aS (σ:=Sl×Int) (fun s17 K2 h8=>
 Br (decide (s17.2<(x16.len:Int)))
 (∃a18:Addr,(x16.ptr=some a18∧0≤s17.2∧s17.2<(x16.len:Int))∧
 ∃x19:Int,cellOf h8 (a18.add (s17.2.toNat*1))=some (.int .i64 x19)∧
 au Tryz.prog (Instr.buildSlice 26 1 #[(0,(.int .u8 (IntKind.wrap .u8 x19)))]) aT h8 fun v20 h9=>
 au Tryz.prog (Builtin.append_ #[26,26] 26 #[s17.1,v20]) aT h9 fun v21 h10=>
 K2 ((⟨v21.ptr,v21.len,v21.cap⟩:Sl),IntKind.wrap .i64 (s17.2+1)) h10)
 (∃x22:Sl,cellOf h8 (a1.add 7)=some (.slice x22.ptr x22.len x22.cap)∧
 au Tryz.prog (Instr.buildSlice 26 1 #[(0,(.int .u8 (IntKind.wrap .u8 (x22.len:Int))))]) aT h8 fun v23 h11=>
 au Tryz.prog (Builtin.append_ #[26,26] 26 #[s17.1,v23]) aT h11 fun v24 h12=>
 ∃x25:Sl,cellOf h12 (a1.add 7)=some (.slice x25.ptr x25.len x25.cap)∧
 aS (σ:=Sl×Int) (fun s26 K3 h13=>
 Br (decide (s26.2<(x25.len:Int)))
 (∃a27:Addr,(x25.ptr=some a27∧0≤s26.2∧s26.2<(x25.len:Int))∧
 ∃x28:oy,ai h13 (a27.add (s26.2.toNat*4)) 0 x28∧
 aI Tryz.prog (Instr.alloc 157 true (.tuple #[])) h13 fun a29 h14=>
 aa Tryz.prog (Instr.storeAt 157 a29 x28) h14 fun _ h15=>
 aD (σ:=Sl) (fun s35 h19=>
 aD (σ:=Sl) (fun s40 h22=>
 ∃x41:Sl,cellOf h22 (a29.add 3)=some (.slice x41.ptr x41.len x41.cap)∧
 aS (σ:=Sl×Int) (fun s42 K6 h23=>
 Br (decide (s42.2<(x41.len:Int)))
 (∃a43:Addr,(x41.ptr=some a43∧0≤s42.2∧s42.2<(x41.len:Int))∧
 ∃x44:Int,cellOf h23 (a43.add (s42.2.toNat*1))=some (.int .i64 x44)∧
 au Tryz.prog (Instr.buildSlice 26 1 #[(0,(.int .u8 (IntKind.wrap .u8 x44)))]) aT h23 fun v45 h24=>
 au Tryz.prog (Builtin.append_ #[26,26] 26 #[s42.1,v45]) aT h24 fun v46 h25=>
 K6 ((⟨v46.ptr,v46.len,v46.cap⟩:Sl),IntKind.wrap .i64 (s42.2+1)) h25)
 (K3 ((⟨s42.1.ptr,s42.1.len,s42.1.cap⟩:Sl),IntKind.wrap .i64 (s26.2+1)) h23)) ((⟨s40.ptr,s40.len,s40.cap⟩:Sl),(0:Int)) h22)
 (fun K5=>
 ∃x36:Int,cellOf h19 (a29.add 1)=some (.int .i64 x36)∧
 ∃x37:Int,cellOf h19 (a29.add 2)=some (.int .i64 x37)∧
 ah Tryz.prog 203 #[s35,x36,(.int .i64 (3:Int))] aT h19 fun r38 h20=>
 (ar.ok [(a29.add 2,x37)] h20)∧
 ah Tryz.prog 203 #[r38,x37,(.int .i64 (2:Int))] aT h20 fun r39 h21=>
 (ar.ok [] h21)∧
 K5 (⟨r39.ptr,r39.len,r39.cap⟩:Sl) h21))
 (fun K4=>
 ∃x30:ByteArray,cellOf h15 a29=some (.string x30)∧
 ∃x31:ByteArray,cellOf h15 a29=some (.string x31)∧
 au Tryz.prog (Instr.buildSlice 26 1 #[(0,(.int .u8 (IntKind.wrap .u8 (x30.size:Int))))]) aT h15 fun v32 h16=>
 (ar.ok [(a29,x31),(a29,x30)] h16)∧
 au Tryz.prog (Builtin.append_ #[26,26] 26 #[s26.1,v32]) aT h16 fun v33 h17=>
 (ar.ok [(a29,x31),(a29,x30)] h17)∧
 au Tryz.prog (Builtin.append_ #[26,9] 26 #[v33,x31]) aT h17 fun v34 h18=>
 (ar.ok [(a29,x30)] h18)∧
 K4 (⟨v34.ptr,v34.len,v34.cap⟩:Sl) h18))
 (R s26.1 h13)) ((⟨v24.ptr,v24.len,v24.cap⟩:Sl),(0:Int)) h12)) ((⟨v15.ptr,v15.len,v15.cap⟩:Sl),(0:Int)) h7)
 (fun K1=>
 ∃x4:Int,cellOf h2 a1=some (.int .i64 x4)∧
 ∃x5:Int,cellOf h2 (a1.add 1)=some (.int .i64 x5)∧
 ah Tryz.prog 203 #[(.slice none 0 0),x4,(.int .i64 (4:Int))] aT h2 fun r6 h3=>
 (ar.ok [(a1.add 1,x5)] h3)∧
 ah Tryz.prog 203 #[r6,x5,(.int .i64 (4:Int))] aT h3 fun r7 h4=>
 (ar.ok [] h4)∧
 K1 (⟨r7.ptr,r7.len,r7.cap⟩:Sl) h4))
theorem qy (m_0:ic) (hm: @np R h m_0):ae Tryz.prog 131 #[m_0] h R:=az ag Tryz.func131 (.two .n (.two .n (.two (.join [(3,fw)] [(3,4),(13,19)] .n) (.two .n (.two (.two .n (.inn (.loop [(3,fw),(44,bk)] [(3,4),(5,6),(44,54)] .n))) (.two .n (.two (.two .n (.inn (.loop [(3,fw),(64,bk)] [(3,4),(7,8),(9,10),(64,99)] (.two .n (.two .n (.two (.inn (.two .n (.two (.join [(3,fw)] [(3,4),(68,78)] .n) (.two (.join [(3,fw)] [(3,4),(78,85)] .n) (.two .n (.inn (.loop [(3,fw),(88,bk)] [(3,4),(9,10),(88,98)] .n))))))) .n)))))) .n))))))) hm
abbrev sP:FuncId:=132
noncomputable def oG (seq_0:Int) (number_1:Int) (many_2:Int) (b_3:Sl):Prop:=
 (0≤(24:Int))∧
 (0≤(16:Int))∧
 (0≤(8:Int))∧
 au Tryz.prog (Instr.buildSlice 26 7 #[(0,(.int .u8 (IntKind.wrap .u8 (Int.fdiv seq_0 (2^min (24:Int).toNat (IntKind.bits .i64)))))),(1,(.int .u8 (IntKind.wrap .u8 (Int.fdiv seq_0 (2^min (16:Int).toNat (IntKind.bits .i64)))))),(2,(.int .u8 (IntKind.wrap .u8 (Int.fdiv seq_0 (2^min (8:Int).toNat (IntKind.bits .i64)))))),(3,(.int .u8 (IntKind.wrap .u8 seq_0))),(4,(.int .u8 (IntKind.wrap .u8 number_1))),(5,(.int .u8 (IntKind.wrap .u8 many_2))),(6,(.int .u8 (IntKind.wrap .u8 (b_3.len:Int))))]) aT h fun v1 h1=>
 au Tryz.prog (Builtin.append_ #[26,26] 26 #[v1,b_3]) aT h1 fun v2 h2=>
 ah Tryz.prog 182 #[(.int .i64 (2:Int)),v2] aT h2 fun r3 h3=>
 R r3 h3
theorem rK (seq_0:Int) (number_1:Int) (many_2:Int) (b_3:Sl) (hm: @oG R h seq_0 number_1 many_2 b_3):ae Tryz.prog 132 #[seq_0,number_1,many_2,b_3] h R:=az ag Tryz.func132 .n hm
abbrev fC:FuncId:=133
noncomputable def dG (d_0:Option Addr) (b_1:Sl):Prop:=
 aD (σ:=Unit) (fun _ h3=>
 aD (σ:=Unit) (fun _ h8=>
 ∃a19:Addr,(d_0=some a19)∧
 ∃x20:Int,cellOf h8 (a19.add 3)=some (.int .i64 x20)∧
 ∃a21:Addr,(d_0=some a21)∧
 aa Tryz.prog (Instr.storeAt 3 (a21.add 3) (IntKind.wrap .i64 (x20+1))) h8 fun _ h9=>
 ∃a22:Addr,(d_0=some a22)∧
 ∃x23:Option Addr,cellOf h9 a22=some (.pointer x23)∧
 ah Tryz.prog 204 #[x23] cB h9 fun r24 h10=>
 Br (!r24)
 (R (.int .i64 (14:Int)) h10)
 (ah Tryz.prog 205 #[d_0] cU h10 fun r25 h11=>
 R r25 h11))
 (fun K3=>
 ∃a12:Addr,(d_0=some a12)∧
 ∃x13:Sl,cellOf h3 (a12.add 2)=some (.slice x13.ptr x13.len x13.cap)∧
 ah Tryz.prog 181 #[b_1] aT h3 fun r14 h4=>
 (ar.ok [(a12.add 2,x13)] h4)∧
 au Tryz.prog (Instr.buildSlice 122 1 #[(0,r14)]) aT h4 fun v15 h5=>
 (ar.ok [(a12.add 2,x13)] h5)∧
 au Tryz.prog (Builtin.append_ #[122,122] 122 #[x13,v15]) aT h5 fun v16 h6=>
 (ar.ok [] h6)∧
 ∃a17:Addr,(d_0=some a17)∧
 aa Tryz.prog (Instr.storeAt 122 (a17.add 2) v16) h6 fun _ h7=>
 (ar.ok [] h7)∧
 K3 () h7))
 (fun K1=>
 Br ((b_1.len:Int) !=64)
 (R (.int .i64 (1:Int)) h)
 (aD (σ:=Bool) (fun s3 h1=>
 Br s3
 (R (.int .i64 (5:Int)) h1)
 (∃a4:Addr,(d_0=some a4)∧
 ∃x5:Sl,cellOf h1 (a4.add 2)=some (.slice x5.ptr x5.len x5.cap)∧
 ∃a6:Addr,(d_0=some a6)∧
 ∃x7:Int,cellOf h1 (a6.add 1)=some (.int .i64 x7)∧
 Br (decide ((x5.len:Int)≥x7))
 (R (.int .i64 (7:Int)) h1)
 (∃a8:Addr,(d_0=some a8)∧
 ∃x9:Option Addr,cellOf h1 a8=some (.pointer x9)∧
 ah Tryz.prog 108 #[x9] cB h1 fun r10 h2=>
 Br (!r10)
 (R (.int .i64 (14:Int)) h2)
 (K1 () h2))))
 (fun K2=>
 Br (Option.isNone d_0) (K2 true h) (∃a1:Addr,(d_0=some a1)∧
 ∃x2:Bool,cellOf h (a1.add 6)=some (.bool x2)∧
 K2 x2 h))))
theorem fd (d_0:Option Addr) (b_1:Sl) (hm: @dG R h d_0 b_1):ae Tryz.prog 133 #[d_0,b_1] h R:=az ag Tryz.func133 (.two .n (.two (.join [] [(4,36)] (.inn (.two .n (.two .n (.two (.join [(9,eW)] [(9,18)] .n) .n))))) (.two (.join [] [(36,47)] .n) .n))) hm
abbrev sQ:FuncId:=134
noncomputable def oH (at_0:FuncId×Array Value×Array Value) (slots_1:Sl):Prop:=
 ah Tryz.prog 155 #[slots_1] aT h fun r1 h1=>
 ah Tryz.prog 92 #[r1] vr h1 fun _ h2=>
 ah Tryz.prog 206 #[r1] aT h2 fun r3 h3=>
 aS (σ:=Int) (fun s4 K1 h4=>
 Br (decide (s4<(r3.len:Int)))
 (∃a5:Addr,(r3.ptr=some a5∧0≤s4∧s4<(r3.len:Int))∧
 ∃x6:Int,cellOf h4 (a5.add (s4.toNat*1))=some (.int .i64 x6)∧
 pd C at_0.1 (at_0.2.1.toList++[(.int .i64 x6)]++at_0.2.2.toList) xf h4 fun r7 h5=>
 ah Tryz.prog 207 #[r7] cU h5 fun r8 h6=>
 Br (r8 !=0)
 (R r8 h6)
 (K1 (IntKind.wrap .i64 (s4+1)) h6))
 (R (.int .i64 (0:Int)) h4)) (0:Int) h3
theorem rL (at_0:FuncId×Array Value×Array Value) (slots_1:Sl) (hm: @oH R h at_0 slots_1):ae Tryz.prog 134 #[(.func (.func at_0.1) at_0.2.1 at_0.2.2),slots_1] h R:=az ag Tryz.func134 (.two .n (.two .n (.two .n (.two (.two .n (.inn (.loop [(15,bk)] [(4,5),(6,8),(15,27)] .n))) .n)))) hm
abbrev pr:FuncId:=138
noncomputable def lA (p_0:gQ) (n_1:Int):Prop:=
 aI Tryz.prog (Instr.box 44 p_0) h fun a1 h1=>
 aD (σ:=Unit) (fun _ h3=>
 ∃x5:gQ,ai h3 a1 0 x5∧
 ah Tryz.prog 210 #[x5] cU h3 fun r6 h4=>
 (r6≠0)∧
 R (IntKind.wrap .i64 ((IntKind.wrap .i64 (Int.tdiv (IntKind.wrap .i64 (n_1-1)) r6))+1)) h4)
 (fun K1=>
 ∃x2:gQ,ai h1 a1 0 x2∧
 ah Tryz.prog 71 #[x2] cB h1 fun r3 h2=>
 Br (!r3) (R (.int .i64 (0:Int)) h2) (Br (decide (n_1≤0))
 (R (.int .i64 (0:Int)) h2)
 (K1 () h2)))
theorem oI (p_0:gQ) (n_1:Int) (hm: @lA R h p_0 n_1):ae Tryz.prog 138 #[p_0,n_1] h R:=az ag Tryz.func138 (.two .n (.two (.join [] [(4,12)] .n) .n)) hm
noncomputable def ij (s_0:Option Addr):Prop:=
 Br (Option.isNone s_0) (R true h) (ah Tryz.prog 84 #[s_0] cB h fun r1 h1=>
 R r1 h1)
theorem lK (s_0:Option Addr) (hm: @ij R h s_0):ae Tryz.prog 145 #[s_0] h R:=az ag Tryz.func145 .n hm
abbrev jt:FuncId:=155
noncomputable def fe (s_0:Sl):Prop:=
 Br (Option.isNone s_0.ptr)
 (R (.slice none 0 0) h)
 (au Tryz.prog (Instr.buildSlice 22 0 #[]) aT h fun v1 h1=>
 au Tryz.prog (Builtin.append_ #[22,22] 22 #[v1,s_0]) aT h1 fun v2 h2=>
 R v2 h2)
theorem iZ (s_0:Sl) (hm: @fe R h s_0):ae Tryz.prog 155 #[s_0] h R:=az ag Tryz.func155 .n hm
abbrev sR:FuncId:=160
noncomputable def oJ (m_0:ic):Prop:=
 aI Tryz.prog (Instr.box 118 m_0) h fun a1 h1=>
 aD (σ:=Unit) (fun _ h6=>
 aD (σ:=Unit) (fun _ h8=>
 ∃x15:Sl,cellOf h8 (a1.add 7)=some (.slice x15.ptr x15.len x15.cap)∧
 aS (σ:=Int) (fun s16 K3 h9=>
 Br (decide (s16<(x15.len:Int)))
 (∃a17:Addr,(x15.ptr=some a17∧0≤s16∧s16<(x15.len:Int))∧
 ∃x18:oy,ai h9 (a17.add (s16.toNat*4)) 0 x18∧
 aI Tryz.prog (Instr.alloc 157 true (.tuple #[])) h9 fun a19 h10=>
 aa Tryz.prog (Instr.storeAt 157 a19 x18) h10 fun _ h11=>
 aD (σ:=Unit) (fun _ h13=>
 ∃x28:Sl,cellOf h13 (a1.add 7)=some (.slice x28.ptr x28.len x28.cap)∧
 (0≤s16∧s16≤(x28.cap:Int))∧
 ah Tryz.prog 253 #[(.slice x28.ptr s16.toNat x28.cap),(.func (.func 254) #[] #[a19])] cB h13 fun r29 h14=>
 Br r29
 (R false h14)
 (K3 (IntKind.wrap .i64 (s16+1)) h14))
 (fun K4=>
 ∃x20:ic,ai h11 a1 0 x20∧
 ∃x21:oy,ai h11 a19 0 x21∧
 ah Tryz.prog 252 #[x20,x21] cB h11 fun r22 h12=>
 (ar.ok [] h12)∧
 Br (!r22) (R false h12) (Br (decide (s16>0)) (∃x23:Sl,cellOf h12 (a1.add 7)=some (.slice x23.ptr x23.len x23.cap)∧
 ∃a24:Addr,(x23.ptr=some a24∧0≤(IntKind.wrap .i64 (s16-1))∧(IntKind.wrap .i64 (s16-1))<(x23.len:Int))∧
 ∃x25:ByteArray,cellOf h12 (a24.add ((IntKind.wrap .i64 (s16-1)).toNat*4))=some (.string x25)∧
 ∃x26:ByteArray,cellOf h12 a19=some (.string x26)∧
 Br (!(Op.bytesLess x25.toList x26.toList))
 (R false h12)
 (K4 () h12)) (K4 () h12))))
 (R true h9)) (0:Int) h8)
 (fun K2=>
 ∃x11:Sl,cellOf h6 (a1.add 6)=some (.slice x11.ptr x11.len x11.cap)∧
 ah Tryz.prog 251 #[x11,(.int .i64 (63:Int))] cB h6 fun r12 h7=>
 Br (!r12) (R false h7) (∃x13:Sl,cellOf h7 (a1.add 7)=some (.slice x13.ptr x13.len x13.cap)∧
 Br (decide ((x13.len:Int)>12))
 (R false h7)
 (K2 () h7))))
 (fun K1=>
 ∃x2:Int,cellOf h1 a1=some (.int .i64 x2)∧
 ah Tryz.prog 250 #[x2,(.int .i64 (1:Int)),(.int .i64 (2147483647:Int))] cB h1 fun r3 h2=>
 Br (!r3) (R false h2) (∃x4:Int,cellOf h2 (a1.add 1)=some (.int .i64 x4)∧
 ah Tryz.prog 250 #[x4,(.int .i64 (0:Int)),(.int .i64 (16777216:Int))] cB h2 fun r5 h3=>
 Br (!r5) (R false h3) (∃x6:gQ,ai h3 (a1.add 2) 0 x6∧
 ah Tryz.prog 71 #[x6] cB h3 fun r7 h4=>
 Br (!r7) (R false h4) (∃x8:Int,cellOf h4 (a1.add 5)=some (.int .i64 x8)∧
 ah Tryz.prog 250 #[x8,(.int .i64 (0:Int)),(.int .i64 (16:Int))] cB h4 fun r9 h5=>
 Br (!r9)
 (R false h5)
 (K1 () h5)))))
theorem rM (m_0:ic) (hm: @oJ R h m_0):ae Tryz.prog 160 #[m_0] h R:=az ag Tryz.func160 (.two .n (.two (.join [] [(2,3),(5,27)] .n) (.two (.join [] [(2,3),(27,37)] .n) (.two (.two .n (.inn (.loop [(40,bk)] [(2,5),(40,72)] (.two .n (.two .n (.two (.inn (.two .n (.two (.join [] [(2,3),(45,65)] .n) .n))) .n)))))) .n)))) hm
noncomputable def dU (s_0:Sl) (f_1:FuncId×Array Value×Array Value):Prop:=
 aS (σ:=Int) (fun s1 K1 h1=>
 Br (decide (s1<(s_0.len:Int)))
 (∃a2:Addr,(s_0.ptr=some a2∧0≤s1∧s1<(s_0.len:Int))∧
 ∃x3:Int,cellOf h1 (a2.add (s1.toNat*1))=some (.int .i64 x3)∧
 pd C f_1.1 (f_1.2.1.toList++[(.int .i64 x3)]++f_1.2.2.toList) cB h1 fun r4 h2=>
 Br r4
 (R s1 h2)
 (K1 (IntKind.wrap .i64 (s1+1)) h2))
 (R (.int .i64 (-1:Int)) h1)) (0:Int) h
theorem gx (s_0:Sl) (f_1:FuncId×Array Value×Array Value) (hm: @dU R h s_0 f_1):ae Tryz.prog 163 #[s_0,(.func (.func f_1.1) f_1.2.1 f_1.2.2)] h R:=az ag Tryz.func163 (.two .n (.two (.two .n (.inn (.loop [(8,bk)] [(4,6),(8,19)] .n))) .n)) hm
abbrev fR:FuncId:=164
noncomputable def dh (s_0:Sl) (f_1:FuncId×Array Value×Array Value):Prop:=
 ah Tryz.prog 163 #[s_0,(.func (.func f_1.1) f_1.2.1 f_1.2.2)] cU h fun r1 h1=>
 R (decide (r1≥0)) h1
theorem fE (s_0:Sl) (f_1:FuncId×Array Value×Array Value) (hm: @dh R h s_0 f_1):ae Tryz.prog 164 #[s_0,(.func (.func f_1.1) f_1.2.1 f_1.2.2)] h R:=az ag Tryz.func164 .n hm
end Go.Qw
