/- Part of the proofs that the laws of this seat answer true whatever the input reads, and leave it as it was; no condition. -/
import Derived.Test.YtdhamoojccmbdaaGreatDoorPlA
import Derived.Calls
set_option linter.unusedVariables false
set_option linter.unusedSimpArgs false
open List renaming range -> qC
open Prod renaming fst -> qK
namespace Wl
structure Pow where
 off:Bool
 fuse:Option Nat
 offs:Int
def Pow.new:Pow:=⟨false,none,0⟩
def Pow.step(w:Pow):Bool×Pow:=
 if w.off then(false,w)else match w.fuse with
 |none=>(true,w)
 |some 0=>(false,⟨true,some 0,Go.IntKind.wrap .i64 (w.offs+1)⟩)
 |some (k+1)=>(true,⟨false,some k,w.offs⟩)
structure bE where
 room:Nat
 l:List (List UInt8)
 wait:Nat
 laid:List (List UInt8)
 has:Bool
 lost:Bool
def bE.new(a:Nat):bE:=⟨a,[],0,[],false,false⟩
def bE.append(w:Pow)(d:bE)(b:List UInt8):Int×Pow×bE:=
 if b.length≠64 then(1,w,d)
 else if d.lost then(5,w,d)
 else if d.room<=d.l.length then(7,w,d)
 else if w.off then(14,w,d)
 else if w.step.1 then(0,w.step.2,{d with l:=d.l++[b],wait:=d.wait+1,laid:=[],has:=false})
 else(14,w.step.2,{d with l:=d.l++[b],wait:=d.wait+1})
def bE.sync(w:Pow)(d:bE):Int×Pow×bE:=
 if d.lost then(5,w,d)
 else if w.step.1 then(0,w.step.2,{d with wait:=0,laid:=[],has:=false})
 else(14,w.step.2,d)
def bE.rewrite(w:Pow)(d:bE)(l:List (List UInt8)):Int×Pow×bE:=
 if !l.all (fun b=>decide (b.length=64))then(1,w,d)
 else if d.lost then(5,w,d)
 else if d.room<l.length then(7,w,d)
 else if w.off then(14,w,d)
 else if w.step.1 then(0,w.step.2,{d with l:=l,wait:=0,laid:=[],has:=false})
 else(14,w.step.2,{d with laid:=l,has:=true})
abbrev bc:=List (Option bE)
def cb(ds:bc)(a:Int):Option bE:=if 0<=a/\a<64 then(ds[a.toNat]?).join else none
def kO(ds:bc)(a:Int)(d:bE):bc:=ds.set a.toNat (some d)
def isLive(ds:bc)(a:Int):Bool:=match cb ds a with|some d=>!d.lost|none=>false
def bi(ds:bc)(a:List Int):List Int:=a.filter (isLive ds)
def fe(w:Pow)(ds:bc)(a:Int)(b:List UInt8):Int×Pow×bc:=
 match cb ds a with
 |none=>(if b.length≠64 then 1 else 5,w,ds)
 |some d=>((d.append w b).1,(d.append w b).2.1,kO ds a (d.append w b).2.2)
def gP(w:Pow)(ds:bc)(a:Int):Int×Pow×bc:=
 match cb ds a with
 |none=>(5,w,ds)
 |some d=>((d.sync w).1,(d.sync w).2.1,kO ds a (d.sync w).2.2)
def kq:List (Int×List UInt8)->Pow->bc->Int×Pow×bc
 |[],w,ds=>(0,w,ds)
 |x::l,w,ds=>let r:=fe w ds x.1 x.2;if r.1=0 then kq l r.2.1 r.2.2 else r
def kh:List Int->Pow->bc->Int×Pow×bc
 |[],w,ds=>(0,w,ds)
 |x::l,w,ds=>let r:=gP w ds x;if r.1=0 then kh l r.2.1 r.2.2 else r
theorem Dl(x:Int)(l:List Int)(w:Pow)(ds:bc):kh (x::l) w ds=if(gP w ds x).1=0 then kh l (gP w ds x).2.1 (gP w ds x).2.2 else gP w ds x:=rfl
theorem uX(x:Int×List UInt8)(l:List (Int×List UInt8))(w:Pow)(ds:bc):kq (x::l) w ds=if(fe w ds x.1 x.2).1=0 then kq l (fe w ds x.1 x.2).2.1 (fe w ds x.1 x.2).2.2 else fe w ds x.1 x.2:=rfl
def fE(l:List Int):List Int:=((qC 64).map fun i:Nat=>(i:Int)).filter fun i=>decide (i∈l)
def layAll(l:List (Int×List UInt8))(w:Pow)(ds:bc):Int×Pow×bc:=
 let r:=kq l w ds
 if r.1=0 then kh (fE (l.map qK)) r.2.1 r.2.2 else r
end Wl
