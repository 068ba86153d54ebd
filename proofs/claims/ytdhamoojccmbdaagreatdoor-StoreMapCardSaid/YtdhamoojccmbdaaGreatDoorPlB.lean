/- Part of the proofs that the laws of this seat answer true whatever the input reads, and leave it as it was; no condition. -/
import Derived.Test.YtdhamoojccmbdaaGreatDoorPlA
import Derived.Calls
set_option linter.unusedVariables false
set_option linter.unusedSimpArgs false
open List renaming range -> qC
open Prod renaming fst -> qJ
namespace Wl
structure Pow where
 off:Bool
 fuse:Option Nat
 offs:Int
def Pow.new:Pow:=⟨false,none,0⟩
def Pow.step(w:Pow):Bool×Pow:=
 if w.off then(false,w)else match w.fuse with
 |none=>(true,w)
 |some 0=>(false,⟨true,some 0,Go.IntKind.wrap .i64 (w.offs+1)⟩)
 |some (k+1)=>(true,⟨false,some k,w.offs⟩)
structure bC where
 room:Nat
 l:List (List UInt8)
 wait:Nat
 laid:List (List UInt8)
 has:Bool
 lost:Bool
def bC.new(a:Nat):bC:=⟨a,[],0,[],false,false⟩
def bC.append(w:Pow)(d:bC)(b:List UInt8):Int×Pow×bC:=
 if b.length≠64 then(1,w,d)
 else if d.lost then(5,w,d)
 else if d.room<=d.l.length then(7,w,d)
 else if w.off then(14,w,d)
 else if w.step.1 then(0,w.step.2,{d with l:=d.l++[b],wait:=d.wait+1,laid:=[],has:=false})
 else(14,w.step.2,{d with l:=d.l++[b],wait:=d.wait+1})
def bC.sync(w:Pow)(d:bC):Int×Pow×bC:=
 if d.lost then(5,w,d)
 else if w.step.1 then(0,w.step.2,{d with wait:=0,laid:=[],has:=false})
 else(14,w.step.2,d)
def bC.rewrite(w:Pow)(d:bC)(l:List (List UInt8)):Int×Pow×bC:=
 if !l.all (fun b=>decide (b.length=64))then(1,w,d)
 else if d.lost then(5,w,d)
 else if d.room<l.length then(7,w,d)
 else if w.off then(14,w,d)
 else if w.step.1 then(0,w.step.2,{d with l:=l,wait:=0,laid:=[],has:=false})
 else(14,w.step.2,{d with laid:=l,has:=true})
abbrev aW:=List (Option bC)
def bG(ds:aW)(a:Int):Option bC:=if 0<=a/\a<64 then(ds[a.toNat]?).join else none
def lm(ds:aW)(a:Int)(d:bC):aW:=ds.set a.toNat (some d)
def isLive(ds:aW)(a:Int):Bool:=match bG ds a with|some d=>!d.lost|none=>false
def bg(ds:aW)(a:List Int):List Int:=a.filter (isLive ds)
def fk(w:Pow)(ds:aW)(a:Int)(b:List UInt8):Int×Pow×aW:=
 match bG ds a with
 |none=>(if b.length≠64 then 1 else 5,w,ds)
 |some d=>((d.append w b).1,(d.append w b).2.1,lm ds a (d.append w b).2.2)
def gX(w:Pow)(ds:aW)(a:Int):Int×Pow×aW:=
 match bG ds a with
 |none=>(5,w,ds)
 |some d=>((d.sync w).1,(d.sync w).2.1,lm ds a (d.sync w).2.2)
def kK:List (Int×List UInt8)->Pow->aW->Int×Pow×aW
 |[],w,ds=>(0,w,ds)
 |x::l,w,ds=>let r:=fk w ds x.1 x.2;if r.1=0 then kK l r.2.1 r.2.2 else r
def kC:List Int->Pow->aW->Int×Pow×aW
 |[],w,ds=>(0,w,ds)
 |x::l,w,ds=>let r:=gX w ds x;if r.1=0 then kC l r.2.1 r.2.2 else r
theorem DT(x:Int)(l:List Int)(w:Pow)(ds:aW):kC (x::l) w ds=if(gX w ds x).1=0 then kC l (gX w ds x).2.1 (gX w ds x).2.2 else gX w ds x:=rfl
theorem xz(x:Int×List UInt8)(l:List (Int×List UInt8))(w:Pow)(ds:aW):kK (x::l) w ds=if(fk w ds x.1 x.2).1=0 then kK l (fk w ds x.1 x.2).2.1 (fk w ds x.1 x.2).2.2 else fk w ds x.1 x.2:=rfl
def fK(l:List Int):List Int:=((qC 64).map fun i:Nat=>(i:Int)).filter fun i=>decide (i∈l)
def layAll(l:List (Int×List UInt8))(w:Pow)(ds:aW):Int×Pow×aW:=
 let r:=kK l w ds
 if r.1=0 then kC (fK (l.map qJ)) r.2.1 r.2.2 else r
end Wl
