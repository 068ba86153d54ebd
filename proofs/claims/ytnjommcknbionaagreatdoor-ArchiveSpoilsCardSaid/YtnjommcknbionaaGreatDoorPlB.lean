/- Lemmas for the proof of the law; no condition. -/
import Derived.Test.YtnjommcknbionaaGreatDoorPlA
set_option linter.unusedVariables false
set_option linter.unusedSimpArgs false
namespace Wl
structure Pow where
 off:Bool
 fuse:Option Nat
 offs:Int
def Pow.new:Pow:=⟨false,none,0⟩
def Pow.step(w:Pow):Bool×Pow:=
 if w.off then(false,w)else match w.fuse with
 |none=>(true,w)
 |some 0=>(false,⟨true,some 0,Go.IntKind.wrap .i64 (w.offs+1)⟩)
 |some (k+1)=>(true,⟨false,some k,w.offs⟩)
structure bj where
 room:Nat
 l:cu
 wait:Nat
 laid:cu
 has:Bool
 lost:Bool
def bj.new(a:Nat):bj:=⟨a,[],0,[],false,false⟩
def bj.append(w:Pow)(d:bj)(b:aQ):Int×Pow×bj:=
 if b.length≠64 then(1,w,d)
 else if d.lost then(5,w,d)
 else if d.room<=d.l.length then(7,w,d)
 else if w.off then(14,w,d)
 else if w.step.1 then(0,w.step.2,{d with l:=d.l++[b],wait:=d.wait+1,laid:=[],has:=false})
 else(14,w.step.2,{d with l:=d.l++[b],wait:=d.wait+1})
def bj.sync(w:Pow)(d:bj):Int×Pow×bj:=
 if d.lost then(5,w,d)
 else if w.step.1 then(0,w.step.2,{d with wait:=0,laid:=[],has:=false})
 else(14,w.step.2,d)
def bj.rewrite(w:Pow)(d:bj)(l:cu):Int×Pow×bj:=
 if !l.all (fun b=>decide (b.length=64))then(1,w,d)
 else if d.lost then(5,w,d)
 else if d.room<l.length then(7,w,d)
 else if w.off then(14,w,d)
 else if w.step.1 then(0,w.step.2,{d with l:=l,wait:=0,laid:=[],has:=false})
 else(14,w.step.2,{d with laid:=l,has:=true})
abbrev aR:=List (Option bj)
def bF(ds:aR)(a:Int):Option bj:=if 0<=a/\a<64 then(ds[a.toNat]?).join else none
def eV(ds:aR)(a:Int)(d:bj):aR:=ds.set a.toNat (some d)
def isLive(ds:aR)(a:Int):Bool:=match bF ds a with|some d=>!d.lost|none=>false
def bB(ds:aR)(a:aB):aB:=a.filter (isLive ds)
def dm(w:Pow)(ds:aR)(a:Int)(b:aQ):Int×Pow×aR:=
 match bF ds a with
 |none=>(if b.length≠64 then 1 else 5,w,ds)
 |some d=>((d.append w b).1,(d.append w b).2.1,eV ds a (d.append w b).2.2)
def eK(w:Pow)(ds:aR)(a:Int):Int×Pow×aR:=
 match bF ds a with
 |none=>(5,w,ds)
 |some d=>((d.sync w).1,(d.sync w).2.1,eV ds a (d.sync w).2.2)
def iw:List (Int×aQ)->Pow->aR->Int×Pow×aR
 |[],w,ds=>(0,w,ds)
 |x::l,w,ds=>let r:=dm w ds x.1 x.2;if r.1=0 then iw l r.2.1 r.2.2 else r
def ip:aB->Pow->aR->Int×Pow×aR
 |[],w,ds=>(0,w,ds)
 |x::l,w,ds=>let r:=eK w ds x;if r.1=0 then ip l r.2.1 r.2.2 else r
theorem td(x:Int)(l:aB)(w:Pow)(ds:aR):ip (x::l) w ds=if(eK w ds x).1=0 then ip l (eK w ds x).2.1 (eK w ds x).2.2 else eK w ds x:=rfl
theorem oK(x:Int×aQ)(l:List (Int×aQ))(w:Pow)(ds:aR):iw (x::l) w ds=if(dm w ds x.1 x.2).1=0 then iw l (dm w ds x.1 x.2).2.1 (dm w ds x.1 x.2).2.2 else dm w ds x.1 x.2:=rfl
def ey(l:aB):aB:=((List.range 64).map fun i:Nat=>(i:Int)).filter fun i=>decide (i∈l)
def layAll(l:List (Int×aQ))(w:Pow)(ds:aR):Int×Pow×aR:=
 let r:=iw l w ds
 if r.1=0 then ip (ey (l.map Prod.fst)) r.2.1 r.2.2 else r
end Wl
