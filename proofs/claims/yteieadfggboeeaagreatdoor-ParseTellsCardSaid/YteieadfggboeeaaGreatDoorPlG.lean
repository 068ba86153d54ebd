/- Part of the proofs that the laws of this seat answer true whatever the input reads, and leave it as it was; no condition. -/
import Derived.Test.YteieadfggboeeaaGreatDoorPlC
import Derived.Calls
set_option linter.unusedVariables false
set_option linter.unusedSimpArgs false
namespace Wl
structure Pow where
 off:Bool
 fuse:Option Nat
 offs:Int
def Pow.new:Pow:=⟨false,none,0⟩
def Pow.step (w:Pow):Bool×Pow:=
 if w.off then(false,w)else match w.fuse with
 |none=>(true,w)
 |some 0=>(false,⟨true,some 0,Go.IntKind.wrap .i64 (w.offs+1)⟩)
 |some (k+1)=>(true,⟨false,some k,w.offs⟩)
structure bz where
 room:Nat
 l:List (List UInt8)
 wait:Nat
 laid:List (List UInt8)
 has:Bool
 lost:Bool
def bz.new (room:Nat):bz:=⟨room,[],0,[],false,false⟩
def bz.append (w:Pow) (d:bz) (b:List UInt8):Int×Pow×bz:=
 if b.length≠64 then(1,w,d)
 else if d.lost then(5,w,d)
 else if d.room≤d.l.length then(7,w,d)
 else if w.off then(14,w,d)
 else if w.step.1 then(0,w.step.2,{d with l:=d.l++[b],wait:=d.wait+1,laid:=[],has:=false})
 else(14,w.step.2,{d with l:=d.l++[b],wait:=d.wait+1})
def bz.sync (w:Pow) (d:bz):Int×Pow×bz:=
 if d.lost then(5,w,d)
 else if w.step.1 then(0,w.step.2,{d with wait:=0,laid:=[],has:=false})
 else(14,w.step.2,d)
abbrev bo:=List (Option bz)
def tU (ds:bo) (slot:Int):Option bz:=if 0≤slot∧slot<64 then(ds[slot.toNat]?).join else none
def uq (ds:bo) (slot:Int) (d:bz):bo:=ds.set slot.toNat (some d)
def ek (w:Pow) (ds:bo) (slot:Int) (b:List UInt8):Int×Pow×bo:=
 match tU ds slot with
 |none=>(if b.length≠64 then 1 else 5,w,ds)
 |some d=>((d.append w b).1,(d.append w b).2.1,uq ds slot (d.append w b).2.2)
def fE (w:Pow) (ds:bo) (slot:Int):Int×Pow×bo:=
 match tU ds slot with
 |none=>(5,w,ds)
 |some d=>((d.sync w).1,(d.sync w).2.1,uq ds slot (d.sync w).2.2)
def iz:List (Int×List UInt8)→Pow→bo→Int×Pow×bo
 |[],w,ds=>(0,w,ds)
 |x::l,w,ds=>let r:=ek w ds x.1 x.2;if r.1=0 then iz l r.2.1 r.2.2 else r
def fb:List Int→Pow→bo→Int×Pow×bo
 |[],w,ds=>(0,w,ds)
 |x::l,w,ds=>let r:=fE w ds x;if r.1=0 then fb l r.2.1 r.2.2 else r
theorem ur (x:Int) (l:List Int) (w:Pow) (ds:bo):fb (x::l) w ds=if(fE w ds x).1=0 then fb l (fE w ds x).2.1 (fE w ds x).2.2 else fE w ds x:=rfl
theorem rV (x:Int×List UInt8) (l:List (Int×List UInt8)) (w:Pow) (ds:bo):iz (x::l) w ds=if(ek w ds x.1 x.2).1=0 then iz l (ek w ds x.1 x.2).2.1 (ek w ds x.1 x.2).2.2 else ek w ds x.1 x.2:=rfl
def cR (l:List Int):List Int:=((List.range 64).map fun i:Nat=>(i:Int)).filter fun i=>decide (i∈l)
def layAll (l:List (Int×List UInt8)) (w:Pow) (ds:bo):Int×Pow×bo:=
 let r:=iz l w ds
 if r.1=0 then fb (cR (l.map Prod.fst)) r.2.1 r.2.2 else r
end Wl
