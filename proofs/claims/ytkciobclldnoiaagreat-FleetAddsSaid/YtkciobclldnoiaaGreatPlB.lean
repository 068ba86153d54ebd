/- Part of the proofs that the laws of this seat answer true whatever the input reads, and leave it as it was; no condition. -/
import Derived.Test.YtkciobclldnoiaaGreatPlA
import Derived.Calls
set_option linter.unusedVariables false
set_option linter.unusedSimpArgs false
namespace Wl
structure Pow where
 off:Bool
 fuse:Option Nat
 offs:Int
def Pow.new:Pow:=⟨false,none,0⟩
def Pow.step (w:Pow):Bool×Pow:=
 if w.off then(false,w)else match w.fuse with
 |none=>(true,w)
 |some 0=>(false,⟨true,some 0,Go.IntKind.wrap .i64 (w.offs+1)⟩)
 |some (k+1)=>(true,⟨false,some k,w.offs⟩)
structure bn where
 room:Nat
 l:List (List UInt8)
 wait:Nat
 laid:List (List UInt8)
 has:Bool
 lost:Bool
def bn.new (room:Nat):bn:=⟨room,[],0,[],false,false⟩
def bn.append (w:Pow) (d:bn) (b:List UInt8):Int×Pow×bn:=
 if b.length≠64 then(1,w,d)
 else if d.lost then(5,w,d)
 else if d.room≤d.l.length then(7,w,d)
 else if w.off then(14,w,d)
 else if w.step.1 then(0,w.step.2,{d with l:=d.l++[b],wait:=d.wait+1,laid:=[],has:=false})
 else(14,w.step.2,{d with l:=d.l++[b],wait:=d.wait+1})
def bn.sync (w:Pow) (d:bn):Int×Pow×bn:=
 if d.lost then(5,w,d)
 else if w.step.1 then(0,w.step.2,{d with wait:=0,laid:=[],has:=false})
 else(14,w.step.2,d)
def bn.rewrite (w:Pow) (d:bn) (l:List (List UInt8)):Int×Pow×bn:=
 if !l.all (fun b=>decide (b.length=64))then(1,w,d)
 else if d.lost then(5,w,d)
 else if d.room<l.length then(7,w,d)
 else if w.off then(14,w,d)
 else if w.step.1 then(0,w.step.2,{d with l:=l,wait:=0,laid:=[],has:=false})
 else(14,w.step.2,{d with laid:=l,has:=true})
abbrev aR:=List (Option bn)
def bF (ds:aR) (slot:Int):Option bn:=if 0≤slot∧slot<64 then(ds[slot.toNat]?).join else none
def fD (ds:aR) (slot:Int) (d:bn):aR:=ds.set slot.toNat (some d)
def isLive (ds:aR) (slot:Int):Bool:=match bF ds slot with|some d=>!d.lost|none=>false
def bz (ds:aR) (slots:List Int):List Int:=slots.filter (isLive ds)
def cS (w:Pow) (ds:aR) (slot:Int) (b:List UInt8):Int×Pow×aR:=
 match bF ds slot with
 |none=>(if b.length≠64 then 1 else 5,w,ds)
 |some d=>((d.append w b).1,(d.append w b).2.1,fD ds slot (d.append w b).2.2)
def dQ (w:Pow) (ds:aR) (slot:Int):Int×Pow×aR:=
 match bF ds slot with
 |none=>(5,w,ds)
 |some d=>((d.sync w).1,(d.sync w).2.1,fD ds slot (d.sync w).2.2)
def gX:List (Int×List UInt8)→Pow→aR→Int×Pow×aR
 |[],w,ds=>(0,w,ds)
 |x::l,w,ds=>let r:=cS w ds x.1 x.2;if r.1=0 then gX l r.2.1 r.2.2 else r
def gP:List Int→Pow→aR→Int×Pow×aR
 |[],w,ds=>(0,w,ds)
 |x::l,w,ds=>let r:=dQ w ds x;if r.1=0 then gP l r.2.1 r.2.2 else r
theorem q0 (x:Int) (l:List Int) (w:Pow) (ds:aR):gP (x::l) w ds=if(dQ w ds x).1=0 then gP l (dQ w ds x).2.1 (dQ w ds x).2.2 else dQ w ds x:=rfl
theorem nL (x:Int×List UInt8) (l:List (Int×List UInt8)) (w:Pow) (ds:aR):gX (x::l) w ds=if(cS w ds x.1 x.2).1=0 then gX l (cS w ds x.1 x.2).2.1 (cS w ds x.1 x.2).2.2 else cS w ds x.1 x.2:=rfl
def dI (l:List Int):List Int:=((List.range 64).map fun i:Nat=>(i:Int)).filter fun i=>decide (i∈l)
def layAll (l:List (Int×List UInt8)) (w:Pow) (ds:aR):Int×Pow×aR:=
 let r:=gX l w ds
 if r.1=0 then gP (dI (l.map Prod.fst)) r.2.1 r.2.2 else r
end Wl
