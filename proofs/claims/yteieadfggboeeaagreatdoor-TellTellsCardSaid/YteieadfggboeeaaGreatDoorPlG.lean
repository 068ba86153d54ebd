/- Part of the proofs that the laws of this seat answer true whatever the input reads, and leave it as it was; no condition. -/
import Derived.Test.YteieadfggboeeaaGreatDoorPlC
import Derived.Calls
set_option linter.unusedVariables false
set_option linter.unusedSimpArgs false
namespace Wl
structure Pow where
 off:Bool
 fuse:Option Nat
 offs:Int
def Pow.new:Pow:=⟨false,none,0⟩
def Pow.step (w:Pow):Bool×Pow:=
 if w.off then(false,w)else match w.fuse with
 |none=>(true,w)
 |some 0=>(false,⟨true,some 0,Go.IntKind.wrap .i64 (w.offs+1)⟩)
 |some (k+1)=>(true,⟨false,some k,w.offs⟩)
structure bt where
 room:Nat
 l:List (List UInt8)
 wait:Nat
 laid:List (List UInt8)
 has:Bool
 lost:Bool
def bt.new (room:Nat):bt:=⟨room,[],0,[],false,false⟩
def bt.append (w:Pow) (d:bt) (b:List UInt8):Int×Pow×bt:=
 if b.length≠64 then(1,w,d)
 else if d.lost then(5,w,d)
 else if d.room≤d.l.length then(7,w,d)
 else if w.off then(14,w,d)
 else if w.step.1 then(0,w.step.2,{d with l:=d.l++[b],wait:=d.wait+1,laid:=[],has:=false})
 else(14,w.step.2,{d with l:=d.l++[b],wait:=d.wait+1})
def bt.sync (w:Pow) (d:bt):Int×Pow×bt:=
 if d.lost then(5,w,d)
 else if w.step.1 then(0,w.step.2,{d with wait:=0,laid:=[],has:=false})
 else(14,w.step.2,d)
abbrev be:=List (Option bt)
def tA (ds:be) (slot:Int):Option bt:=if 0≤slot∧slot<64 then(ds[slot.toNat]?).join else none
def ud (ds:be) (slot:Int) (d:bt):be:=ds.set slot.toNat (some d)
def eh (w:Pow) (ds:be) (slot:Int) (b:List UInt8):Int×Pow×be:=
 match tA ds slot with
 |none=>(if b.length≠64 then 1 else 5,w,ds)
 |some d=>((d.append w b).1,(d.append w b).2.1,ud ds slot (d.append w b).2.2)
def fJ (w:Pow) (ds:be) (slot:Int):Int×Pow×be:=
 match tA ds slot with
 |none=>(5,w,ds)
 |some d=>((d.sync w).1,(d.sync w).2.1,ud ds slot (d.sync w).2.2)
def iE:List (Int×List UInt8)→Pow→be→Int×Pow×be
 |[],w,ds=>(0,w,ds)
 |x::l,w,ds=>let r:=eh w ds x.1 x.2;if r.1=0 then iE l r.2.1 r.2.2 else r
def fj:List Int→Pow→be→Int×Pow×be
 |[],w,ds=>(0,w,ds)
 |x::l,w,ds=>let r:=fJ w ds x;if r.1=0 then fj l r.2.1 r.2.2 else r
theorem ue (x:Int) (l:List Int) (w:Pow) (ds:be):fj (x::l) w ds=if(fJ w ds x).1=0 then fj l (fJ w ds x).2.1 (fJ w ds x).2.2 else fJ w ds x:=rfl
theorem ru (x:Int×List UInt8) (l:List (Int×List UInt8)) (w:Pow) (ds:be):iE (x::l) w ds=if(eh w ds x.1 x.2).1=0 then iE l (eh w ds x.1 x.2).2.1 (eh w ds x.1 x.2).2.2 else eh w ds x.1 x.2:=rfl
def cI (l:List Int):List Int:=((List.range 64).map fun i:Nat=>(i:Int)).filter fun i=>decide (i∈l)
def layAll (l:List (Int×List UInt8)) (w:Pow) (ds:be):Int×Pow×be:=
 let r:=iE l w ds
 if r.1=0 then fj (cI (l.map Prod.fst)) r.2.1 r.2.2 else r
end Wl
