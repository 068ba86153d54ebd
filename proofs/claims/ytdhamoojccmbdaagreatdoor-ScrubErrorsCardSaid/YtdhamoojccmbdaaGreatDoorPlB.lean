/- Part of the proofs that the laws of this seat answer true whatever the input reads, and leave it as it was; no condition. -/
import Derived.Test.YtdhamoojccmbdaaGreatDoorPlA
import Derived.Calls
set_option linter.unusedVariables false
set_option linter.unusedSimpArgs false
namespace Wl
structure Pow where
 off:Bool
 fuse:Option Nat
 offs:Int
def Pow.new:Pow:=⟨false,none,0⟩
def Pow.step (w:Pow):Bool×Pow:=
 if w.off then(false,w)else match w.fuse with
 |none=>(true,w)
 |some 0=>(false,⟨true,some 0,Go.IntKind.wrap .i64 (w.offs+1)⟩)
 |some (k+1)=>(true,⟨false,some k,w.offs⟩)
def Pow.arm (w:Pow) (n:Int):Pow:=if w.off then w else⟨false,if 0≤n then some n.toNat else none,w.offs⟩
structure aU where
 room:Nat
 l:List (List UInt8)
 wait:Nat
 laid:List (List UInt8)
 has:Bool
 lost:Bool
def aU.new (room:Nat):aU:=⟨room,[],0,[],false,false⟩
def aU.append (w:Pow) (d:aU) (b:List UInt8):Int×Pow×aU:=
 if b.length≠64 then(1,w,d)
 else if d.lost then(5,w,d)
 else if d.room≤d.l.length then(7,w,d)
 else if w.off then(14,w,d)
 else if w.step.1 then(0,w.step.2,{d with l:=d.l++[b],wait:=d.wait+1,laid:=[],has:=false})
 else(14,w.step.2,{d with l:=d.l++[b],wait:=d.wait+1})
def aU.sync (w:Pow) (d:aU):Int×Pow×aU:=
 if d.lost then(5,w,d)
 else if w.step.1 then(0,w.step.2,{d with wait:=0,laid:=[],has:=false})
 else(14,w.step.2,d)
def aU.rewrite (w:Pow) (d:aU) (l:List (List UInt8)):Int×Pow×aU:=
 if !l.all (fun b=>decide (b.length=64))then(1,w,d)
 else if d.lost then(5,w,d)
 else if d.room<l.length then(7,w,d)
 else if w.off then(14,w,d)
 else if w.step.1 then(0,w.step.2,{d with l:=l,wait:=0,laid:=[],has:=false})
 else(14,w.step.2,{d with laid:=l,has:=true})
abbrev aJ:=List (Option aU)
def bI (ds:aJ) (slot:Int):Option aU:=if 0≤slot∧slot<64 then(ds[slot.toNat]?).join else none
def dR (ds:aJ) (slot:Int) (d:aU):aJ:=ds.set slot.toNat (some d)
def isLive (ds:aJ) (slot:Int):Bool:=match bI ds slot with|some d=>!d.lost|none=>false
def cw (ds:aJ) (slots:List Int):List Int:=slots.filter (isLive ds)
def bS (w:Pow) (ds:aJ) (slot:Int) (b:List UInt8):Int×Pow×aJ:=
 match bI ds slot with
 |none=>(if b.length≠64 then 1 else 5,w,ds)
 |some d=>((d.append w b).1,(d.append w b).2.1,dR ds slot (d.append w b).2.2)
def cL (w:Pow) (ds:aJ) (slot:Int):Int×Pow×aJ:=
 match bI ds slot with
 |none=>(5,w,ds)
 |some d=>((d.sync w).1,(d.sync w).2.1,dR ds slot (d.sync w).2.2)
def eS:List (Int×List UInt8)→Pow→aJ→Int×Pow×aJ
 |[],w,ds=>(0,w,ds)
 |x::l,w,ds=>let r:=bS w ds x.1 x.2;if r.1=0 then eS l r.2.1 r.2.2 else r
def eG:List Int→Pow→aJ→Int×Pow×aJ
 |[],w,ds=>(0,w,ds)
 |x::l,w,ds=>let r:=cL w ds x;if r.1=0 then eG l r.2.1 r.2.2 else r
theorem lI (x:Int) (l:List Int) (w:Pow) (ds:aJ):eG (x::l) w ds=if(cL w ds x).1=0 then eG l (cL w ds x).2.1 (cL w ds x).2.2 else cL w ds x:=rfl
theorem jQ (x:Int×List UInt8) (l:List (Int×List UInt8)) (w:Pow) (ds:aJ):eS (x::l) w ds=if(bS w ds x.1 x.2).1=0 then eS l (bS w ds x.1 x.2).2.1 (bS w ds x.1 x.2).2.2 else bS w ds x.1 x.2:=rfl
def cE (l:List Int):List Int:=((List.range 64).map fun i:Nat=>(i:Int)).filter fun i=>decide (i∈l)
def layAll (l:List (Int×List UInt8)) (w:Pow) (ds:aJ):Int×Pow×aJ:=
 let r:=eS l w ds
 if r.1=0 then eG (cE (l.map Prod.fst)) r.2.1 r.2.2 else r
end Wl
