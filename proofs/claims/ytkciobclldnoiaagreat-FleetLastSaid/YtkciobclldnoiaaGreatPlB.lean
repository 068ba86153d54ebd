/- Part of the proofs that the laws of this seat answer true whatever the input reads, and leave it as it was; no condition. -/
import Derived.Test.YtkciobclldnoiaaGreatPlA
import Derived.Calls
set_option linter.unusedVariables false
set_option linter.unusedSimpArgs false
namespace Wl
structure Pow where
 off:Bool
 fuse:Option Nat
 offs:Int
def Pow.new:Pow:=⟨false,none,0⟩
def Pow.step (w:Pow):Bool×Pow:=
 if w.off then(false,w)else match w.fuse with
 |none=>(true,w)
 |some 0=>(false,⟨true,some 0,Go.IntKind.wrap .i64 (w.offs+1)⟩)
 |some (k+1)=>(true,⟨false,some k,w.offs⟩)
structure bx where
 room:Nat
 l:List (List UInt8)
 wait:Nat
 laid:List (List UInt8)
 has:Bool
 lost:Bool
def bx.new (room:Nat):bx:=⟨room,[],0,[],false,false⟩
def bx.append (w:Pow) (d:bx) (b:List UInt8):Int×Pow×bx:=
 if b.length≠64 then(1,w,d)
 else if d.lost then(5,w,d)
 else if d.room≤d.l.length then(7,w,d)
 else if w.off then(14,w,d)
 else if w.step.1 then(0,w.step.2,{d with l:=d.l++[b],wait:=d.wait+1,laid:=[],has:=false})
 else(14,w.step.2,{d with l:=d.l++[b],wait:=d.wait+1})
def bx.sync (w:Pow) (d:bx):Int×Pow×bx:=
 if d.lost then(5,w,d)
 else if w.step.1 then(0,w.step.2,{d with wait:=0,laid:=[],has:=false})
 else(14,w.step.2,d)
def bx.rewrite (w:Pow) (d:bx) (l:List (List UInt8)):Int×Pow×bx:=
 if !l.all (fun b=>decide (b.length=64))then(1,w,d)
 else if d.lost then(5,w,d)
 else if d.room<l.length then(7,w,d)
 else if w.off then(14,w,d)
 else if w.step.1 then(0,w.step.2,{d with l:=l,wait:=0,laid:=[],has:=false})
 else(14,w.step.2,{d with laid:=l,has:=true})
def bx.q6 (d:bx):bx:={d with lost:=true,l:=[],wait:=0,laid:=[],has:=false}
abbrev aN:=List (Option bx)
def bD (ds:aN) (slot:Int):Option bx:=if 0≤slot∧slot<64 then(ds[slot.toNat]?).join else none
def fC (ds:aN) (slot:Int) (d:bx):aN:=ds.set slot.toNat (some d)
def isLive (ds:aN) (slot:Int):Bool:=match bD ds slot with|some d=>!d.lost|none=>false
def bg (ds:aN) (slots:List Int):List Int:=slots.filter (isLive ds)
def dq (w:Pow) (ds:aN) (slot:Int) (b:List UInt8):Int×Pow×aN:=
 match bD ds slot with
 |none=>(if b.length≠64 then 1 else 5,w,ds)
 |some d=>((d.append w b).1,(d.append w b).2.1,fC ds slot (d.append w b).2.2)
def eN (w:Pow) (ds:aN) (slot:Int):Int×Pow×aN:=
 match bD ds slot with
 |none=>(5,w,ds)
 |some d=>((d.sync w).1,(d.sync w).2.1,fC ds slot (d.sync w).2.2)
def gO:List (Int×List UInt8)→Pow→aN→Int×Pow×aN
 |[],w,ds=>(0,w,ds)
 |x::l,w,ds=>let r:=dq w ds x.1 x.2;if r.1=0 then gO l r.2.1 r.2.2 else r
def iv:List Int→Pow→aN→Int×Pow×aN
 |[],w,ds=>(0,w,ds)
 |x::l,w,ds=>let r:=eN w ds x;if r.1=0 then iv l r.2.1 r.2.2 else r
theorem sW (x:Int) (l:List Int) (w:Pow) (ds:aN):iv (x::l) w ds=if(eN w ds x).1=0 then iv l (eN w ds x).2.1 (eN w ds x).2.2 else eN w ds x:=rfl
theorem pf (x:Int×List UInt8) (l:List (Int×List UInt8)) (w:Pow) (ds:aN):gO (x::l) w ds=if(dq w ds x.1 x.2).1=0 then gO l (dq w ds x.1 x.2).2.1 (dq w ds x.1 x.2).2.2 else dq w ds x.1 x.2:=rfl
def dK (l:List Int):List Int:=((List.range 64).map fun i:Nat=>(i:Int)).filter fun i=>decide (i∈l)
def layAll (l:List (Int×List UInt8)) (w:Pow) (ds:aN):Int×Pow×aN:=
 let r:=gO l w ds
 if r.1=0 then iv (dK (l.map Prod.fst)) r.2.1 r.2.2 else r
end Wl
