/- Part of the proofs that the laws of this seat answer true whatever the input reads, and leave it as it was; no condition. -/
import Derived.Test.YtdoiokchdaoonaaGreatPlA
import Derived.Calls
set_option linter.unusedVariables false
set_option linter.unusedSimpArgs false
namespace Wl
structure Pow where
 off:Bool
 fuse:Option Nat
 offs:Int
def Pow.new:Pow:=⟨false,none,0⟩
def Pow.step (w:Pow):Bool×Pow:=
 if w.off then(false,w)else match w.fuse with
 |none=>(true,w)
 |some 0=>(false,⟨true,some 0,Go.IntKind.wrap .i64 (w.offs+1)⟩)
 |some (k+1)=>(true,⟨false,some k,w.offs⟩)
structure bo where
 room:Nat
 l:List (List UInt8)
 wait:Nat
 laid:List (List UInt8)
 has:Bool
 lost:Bool
def bo.new (room:Nat):bo:=⟨room,[],0,[],false,false⟩
def bo.append (w:Pow) (d:bo) (b:List UInt8):Int×Pow×bo:=
 if b.length≠64 then(1,w,d)
 else if d.lost then(5,w,d)
 else if d.room≤d.l.length then(7,w,d)
 else if w.off then(14,w,d)
 else if w.step.1 then(0,w.step.2,{d with l:=d.l++[b],wait:=d.wait+1,laid:=[],has:=false})
 else(14,w.step.2,{d with l:=d.l++[b],wait:=d.wait+1})
def bo.sync (w:Pow) (d:bo):Int×Pow×bo:=
 if d.lost then(5,w,d)
 else if w.step.1 then(0,w.step.2,{d with wait:=0,laid:=[],has:=false})
 else(14,w.step.2,d)
def bo.rewrite (w:Pow) (d:bo) (l:List (List UInt8)):Int×Pow×bo:=
 if !l.all (fun b=>decide (b.length=64))then(1,w,d)
 else if d.lost then(5,w,d)
 else if d.room<l.length then(7,w,d)
 else if w.off then(14,w,d)
 else if w.step.1 then(0,w.step.2,{d with l:=l,wait:=0,laid:=[],has:=false})
 else(14,w.step.2,{d with laid:=l,has:=true})
abbrev aX:=List (Option bo)
def bQ (ds:aX) (slot:Int):Option bo:=if 0≤slot∧slot<64 then(ds[slot.toNat]?).join else none
def gx (ds:aX) (slot:Int) (d:bo):aX:=ds.set slot.toNat (some d)
def isLive (ds:aX) (slot:Int):Bool:=match bQ ds slot with|some d=>!d.lost|none=>false
def bU (ds:aX) (slots:List Int):List Int:=slots.filter (isLive ds)
def cR (w:Pow) (ds:aX) (slot:Int) (b:List UInt8):Int×Pow×aX:=
 match bQ ds slot with
 |none=>(if b.length≠64 then 1 else 5,w,ds)
 |some d=>((d.append w b).1,(d.append w b).2.1,gx ds slot (d.append w b).2.2)
def dL (w:Pow) (ds:aX) (slot:Int):Int×Pow×aX:=
 match bQ ds slot with
 |none=>(5,w,ds)
 |some d=>((d.sync w).1,(d.sync w).2.1,gx ds slot (d.sync w).2.2)
def gQ:List (Int×List UInt8)→Pow→aX→Int×Pow×aX
 |[],w,ds=>(0,w,ds)
 |x::l,w,ds=>let r:=cR w ds x.1 x.2;if r.1=0 then gQ l r.2.1 r.2.2 else r
def gJ:List Int→Pow→aX→Int×Pow×aX
 |[],w,ds=>(0,w,ds)
 |x::l,w,ds=>let r:=dL w ds x;if r.1=0 then gJ l r.2.1 r.2.2 else r
theorem qJ (x:Int) (l:List Int) (w:Pow) (ds:aX):gJ (x::l) w ds=if(dL w ds x).1=0 then gJ l (dL w ds x).2.1 (dL w ds x).2.2 else dL w ds x:=rfl
theorem nk (x:Int×List UInt8) (l:List (Int×List UInt8)) (w:Pow) (ds:aX):gQ (x::l) w ds=if(cR w ds x.1 x.2).1=0 then gQ l (cR w ds x.1 x.2).2.1 (cR w ds x.1 x.2).2.2 else cR w ds x.1 x.2:=rfl
def dD (l:List Int):List Int:=((List.range 64).map fun i:Nat=>(i:Int)).filter fun i=>decide (i∈l)
def layAll (l:List (Int×List UInt8)) (w:Pow) (ds:aX):Int×Pow×aX:=
 let r:=gQ l w ds
 if r.1=0 then gJ (dD (l.map Prod.fst)) r.2.1 r.2.2 else r
end Wl
