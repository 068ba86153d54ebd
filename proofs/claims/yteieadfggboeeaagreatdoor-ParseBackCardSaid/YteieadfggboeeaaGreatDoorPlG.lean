/- Part of the proofs that the laws of this seat answer true whatever the input reads, and leave it as it was; no condition. -/
import Derived.Test.YteieadfggboeeaaGreatDoorPlC
import Derived.Calls
set_option linter.unusedVariables false
set_option linter.unusedSimpArgs false
namespace Wl
structure Pow where
 off:Bool
 fuse:Option Nat
 offs:Int
def Pow.new:Pow:=⟨false,none,0⟩
def Pow.step (w:Pow):Bool×Pow:=
 if w.off then(false,w)else match w.fuse with
 |none=>(true,w)
 |some 0=>(false,⟨true,some 0,Go.IntKind.wrap .i64 (w.offs+1)⟩)
 |some (k+1)=>(true,⟨false,some k,w.offs⟩)
structure bv where
 room:Nat
 l:List (List UInt8)
 wait:Nat
 laid:List (List UInt8)
 has:Bool
 lost:Bool
def bv.new (room:Nat):bv:=⟨room,[],0,[],false,false⟩
def bv.append (w:Pow) (d:bv) (b:List UInt8):Int×Pow×bv:=
 if b.length≠64 then(1,w,d)
 else if d.lost then(5,w,d)
 else if d.room≤d.l.length then(7,w,d)
 else if w.off then(14,w,d)
 else if w.step.1 then(0,w.step.2,{d with l:=d.l++[b],wait:=d.wait+1,laid:=[],has:=false})
 else(14,w.step.2,{d with l:=d.l++[b],wait:=d.wait+1})
def bv.sync (w:Pow) (d:bv):Int×Pow×bv:=
 if d.lost then(5,w,d)
 else if w.step.1 then(0,w.step.2,{d with wait:=0,laid:=[],has:=false})
 else(14,w.step.2,d)
abbrev bi:=List (Option bv)
def tv (ds:bi) (slot:Int):Option bv:=if 0≤slot∧slot<64 then(ds[slot.toNat]?).join else none
def ub (ds:bi) (slot:Int) (d:bv):bi:=ds.set slot.toNat (some d)
def ee (w:Pow) (ds:bi) (slot:Int) (b:List UInt8):Int×Pow×bi:=
 match tv ds slot with
 |none=>(if b.length≠64 then 1 else 5,w,ds)
 |some d=>((d.append w b).1,(d.append w b).2.1,ub ds slot (d.append w b).2.2)
def ft (w:Pow) (ds:bi) (slot:Int):Int×Pow×bi:=
 match tv ds slot with
 |none=>(5,w,ds)
 |some d=>((d.sync w).1,(d.sync w).2.1,ub ds slot (d.sync w).2.2)
def hO:List (Int×List UInt8)→Pow→bi→Int×Pow×bi
 |[],w,ds=>(0,w,ds)
 |x::l,w,ds=>let r:=ee w ds x.1 x.2;if r.1=0 then hO l r.2.1 r.2.2 else r
def eP:List Int→Pow→bi→Int×Pow×bi
 |[],w,ds=>(0,w,ds)
 |x::l,w,ds=>let r:=ft w ds x;if r.1=0 then eP l r.2.1 r.2.2 else r
theorem uc (x:Int) (l:List Int) (w:Pow) (ds:bi):eP (x::l) w ds=if(ft w ds x).1=0 then eP l (ft w ds x).2.1 (ft w ds x).2.2 else ft w ds x:=rfl
theorem rq (x:Int×List UInt8) (l:List (Int×List UInt8)) (w:Pow) (ds:bi):hO (x::l) w ds=if(ee w ds x.1 x.2).1=0 then hO l (ee w ds x.1 x.2).2.1 (ee w ds x.1 x.2).2.2 else ee w ds x.1 x.2:=rfl
def cJ (l:List Int):List Int:=((List.range 64).map fun i:Nat=>(i:Int)).filter fun i=>decide (i∈l)
def layAll (l:List (Int×List UInt8)) (w:Pow) (ds:bi):Int×Pow×bi:=
 let r:=hO l w ds
 if r.1=0 then eP (cJ (l.map Prod.fst)) r.2.1 r.2.2 else r
end Wl
