/- Part of the proofs that the laws of this seat answer true whatever the input reads, and leave it as it was; no condition. -/
import Derived.Test.YtcamechmadjclaaGreatDoorPlA
import Derived.Calls
set_option linter.unusedVariables false
set_option linter.unusedSimpArgs false
open List renaming range -> zf
open Prod renaming fst -> qL
namespace Wl
structure Pow where
 off:Bool
 fuse:Option Nat
 offs:Int
def Pow.new:Pow:=⟨false,none,0⟩
def Pow.step(w:Pow):Bool×Pow:=
 if w.off then(false,w)else match w.fuse with
 |none=>(true,w)
 |some 0=>(false,⟨true,some 0,Go.IntKind.wrap .i64 (w.offs+1)⟩)
 |some (k+1)=>(true,⟨false,some k,w.offs⟩)
structure aU where
 room:Nat
 l:List (List UInt8)
 wait:Nat
 laid:List (List UInt8)
 has:Bool
 lost:Bool
def aU.new(a:Nat):aU:=⟨a,[],0,[],false,false⟩
def aU.append(w:Pow)(d:aU)(b:List UInt8):Int×Pow×aU:=
 if b.length≠64 then(1,w,d)
 else if d.lost then(5,w,d)
 else if d.room<=d.l.length then(7,w,d)
 else if w.off then(14,w,d)
 else if w.step.1 then(0,w.step.2,{d with l:=d.l++[b],wait:=d.wait+1,laid:=[],has:=false})
 else(14,w.step.2,{d with l:=d.l++[b],wait:=d.wait+1})
def aU.sync(w:Pow)(d:aU):Int×Pow×aU:=
 if d.lost then(5,w,d)
 else if w.step.1 then(0,w.step.2,{d with wait:=0,laid:=[],has:=false})
 else(14,w.step.2,d)
def aU.rewrite(w:Pow)(d:aU)(l:List (List UInt8)):Int×Pow×aU:=
 if !l.all (fun b=>decide (b.length=64))then(1,w,d)
 else if d.lost then(5,w,d)
 else if d.room<l.length then(7,w,d)
 else if w.off then(14,w,d)
 else if w.step.1 then(0,w.step.2,{d with l:=l,wait:=0,laid:=[],has:=false})
 else(14,w.step.2,{d with laid:=l,has:=true})
abbrev aY:=List (Option aU)
def gW(b:aY)(a:Int):Option aU:=if 0<=a/\a<64 then(b[a.toNat]?).join else none
def fG(b:aY)(a:Int)(d:aU):aY:=b.set a.toNat (some d)
def isLive(b:aY)(a:Int):Bool:=match gW b a with|some d=>!d.lost|none=>false
def bR(b:aY)(a:List Int):List Int:=a.filter (isLive b)
def bO(w:Pow)(c:aY)(a:Int)(b:List UInt8):Int×Pow×aY:=
 match gW c a with
 |none=>(if b.length≠64 then 1 else 5,w,c)
 |some d=>((d.append w b).1,(d.append w b).2.1,fG c a (d.append w b).2.2)
def ci(w:Pow)(b:aY)(a:Int):Int×Pow×aY:=
 match gW b a with
 |none=>(5,w,b)
 |some d=>((d.sync w).1,(d.sync w).2.1,fG b a (d.sync w).2.2)
def cN:List (Int×List UInt8)->Pow->aY->Int×Pow×aY
 |[],w,ds=>(0,w,ds)
 |x::l,w,ds=>let r:=bO w ds x.1 x.2;if r.1=0 then cN l r.2.1 r.2.2 else r
def dv:List Int->Pow->aY->Int×Pow×aY
 |[],w,ds=>(0,w,ds)
 |x::l,w,ds=>let r:=ci w ds x;if r.1=0 then dv l r.2.1 r.2.2 else r
theorem kO(x:Int)(l:List Int)(w:Pow)(a:aY):dv (x::l) w a=if(ci w a x).1=0 then dv l (ci w a x).2.1 (ci w a x).2.2 else ci w a x:=rfl
theorem iS(x:Int×List UInt8)(l:List (Int×List UInt8))(w:Pow)(a:aY):cN (x::l) w a=if(bO w a x.1 x.2).1=0 then cN l (bO w a x.1 x.2).2.1 (bO w a x.1 x.2).2.2 else bO w a x.1 x.2:=rfl
def cv(l:List Int):List Int:=((zf 64).map fun i:Nat=>(i:Int)).filter fun i=>decide (i∈l)
def layAll(l:List (Int×List UInt8))(w:Pow)(a:aY):Int×Pow×aY:=
 let r:=cN l w a
 if r.1=0 then dv (cv (l.map qL)) r.2.1 r.2.2 else r
end Wl
