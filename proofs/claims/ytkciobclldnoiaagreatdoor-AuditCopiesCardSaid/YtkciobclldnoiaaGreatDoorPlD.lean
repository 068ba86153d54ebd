/- Part of the proofs that the laws of this seat answer true whatever the input reads, and leave it as it was; no condition. -/
import Derived.Test.YtkciobclldnoiaaGreatDoorPlA
import Derived.Calls
set_option linter.unusedVariables false
set_option linter.unusedSimpArgs false
namespace Wl
structure Pow where
 off:Bool
 fuse:Option Nat
 offs:Int
def Pow.new:Pow:=⟨false,none,0⟩
def Pow.step (w:Pow):Bool×Pow:=
 if w.off then(false,w)else match w.fuse with
 |none=>(true,w)
 |some 0=>(false,⟨true,some 0,Go.IntKind.wrap .i64 (w.offs+1)⟩)
 |some (k+1)=>(true,⟨false,some k,w.offs⟩)
structure bf where
 room:Nat
 l:List (List UInt8)
 wait:Nat
 laid:List (List UInt8)
 has:Bool
 lost:Bool
def bf.new (room:Nat):bf:=⟨room,[],0,[],false,false⟩
def bf.append (w:Pow) (d:bf) (b:List UInt8):Int×Pow×bf:=
 if b.length≠64 then(1,w,d)
 else if d.lost then(5,w,d)
 else if d.room≤d.l.length then(7,w,d)
 else if w.off then(14,w,d)
 else if w.step.1 then(0,w.step.2,{d with l:=d.l++[b],wait:=d.wait+1,laid:=[],has:=false})
 else(14,w.step.2,{d with l:=d.l++[b],wait:=d.wait+1})
def bf.sync (w:Pow) (d:bf):Int×Pow×bf:=
 if d.lost then(5,w,d)
 else if w.step.1 then(0,w.step.2,{d with wait:=0,laid:=[],has:=false})
 else(14,w.step.2,d)
def bf.rewrite (w:Pow) (d:bf) (l:List (List UInt8)):Int×Pow×bf:=
 if !l.all (fun b=>decide (b.length=64))then(1,w,d)
 else if d.lost then(5,w,d)
 else if d.room<l.length then(7,w,d)
 else if w.off then(14,w,d)
 else if w.step.1 then(0,w.step.2,{d with l:=l,wait:=0,laid:=[],has:=false})
 else(14,w.step.2,{d with laid:=l,has:=true})
abbrev aQ:=List (Option bf)
def bU (ds:aQ) (slot:Int):Option bf:=if 0≤slot∧slot<64 then(ds[slot.toNat]?).join else none
def fE (ds:aQ) (slot:Int) (d:bf):aQ:=ds.set slot.toNat (some d)
def isLive (ds:aQ) (slot:Int):Bool:=match bU ds slot with|some d=>!d.lost|none=>false
def bp (ds:aQ) (slots:List Int):List Int:=slots.filter (isLive ds)
def cw (w:Pow) (ds:aQ) (slot:Int) (b:List UInt8):Int×Pow×aQ:=
 match bU ds slot with
 |none=>(if b.length≠64 then 1 else 5,w,ds)
 |some d=>((d.append w b).1,(d.append w b).2.1,fE ds slot (d.append w b).2.2)
def dk (w:Pow) (ds:aQ) (slot:Int):Int×Pow×aQ:=
 match bU ds slot with
 |none=>(5,w,ds)
 |some d=>((d.sync w).1,(d.sync w).2.1,fE ds slot (d.sync w).2.2)
def fV:List (Int×List UInt8)→Pow→aQ→Int×Pow×aQ
 |[],w,ds=>(0,w,ds)
 |x::l,w,ds=>let r:=cw w ds x.1 x.2;if r.1=0 then fV l r.2.1 r.2.2 else r
def fO:List Int→Pow→aQ→Int×Pow×aQ
 |[],w,ds=>(0,w,ds)
 |x::l,w,ds=>let r:=dk w ds x;if r.1=0 then fO l r.2.1 r.2.2 else r
theorem om (x:Int) (l:List Int) (w:Pow) (ds:aQ):fO (x::l) w ds=if(dk w ds x).1=0 then fO l (dk w ds x).2.1 (dk w ds x).2.2 else dk w ds x:=rfl
theorem lD (x:Int×List UInt8) (l:List (Int×List UInt8)) (w:Pow) (ds:aQ):fV (x::l) w ds=if(cw w ds x.1 x.2).1=0 then fV l (cw w ds x.1 x.2).2.1 (cw w ds x.1 x.2).2.2 else cw w ds x.1 x.2:=rfl
def db (l:List Int):List Int:=((List.range 64).map fun i:Nat=>(i:Int)).filter fun i=>decide (i∈l)
def layAll (l:List (Int×List UInt8)) (w:Pow) (ds:aQ):Int×Pow×aQ:=
 let r:=fV l w ds
 if r.1=0 then fO (db (l.map Prod.fst)) r.2.1 r.2.2 else r
end Wl
