/- Lemmas for the proof of the law; no condition. -/
import Derived.Test.YtcaonbjibhlkcaaGreatDoorPlA
set_option linter.unusedVariables false
set_option linter.unusedSimpArgs false
namespace Wl
structure Pow where
 off:Bool
 fuse:Option Nat
 offs:Int
def Pow.new:Pow:=⟨false,none,0⟩
def Pow.step(w:Pow):Bool×Pow:=
 if w.off then(false,w)else match w.fuse with
 |none=>(true,w)
 |some 0=>(false,⟨true,some 0,Go.IntKind.wrap .i64 (w.offs+1)⟩)
 |some (k+1)=>(true,⟨false,some k,w.offs⟩)
structure bv where
 room:Nat
 l:cv
 wait:Nat
 laid:cv
 has:Bool
 lost:Bool
def bv.new(a:Nat):bv:=⟨a,[],0,[],false,false⟩
def bv.append(w:Pow)(d:bv)(b:aU):Int×Pow×bv:=
 if b.length≠64 then(1,w,d)
 else if d.lost then(5,w,d)
 else if d.room<=d.l.length then(7,w,d)
 else if w.off then(14,w,d)
 else if w.step.1 then(0,w.step.2,{d with l:=d.l++[b],wait:=d.wait+1,laid:=[],has:=false})
 else(14,w.step.2,{d with l:=d.l++[b],wait:=d.wait+1})
def bv.sync(w:Pow)(d:bv):Int×Pow×bv:=
 if d.lost then(5,w,d)
 else if w.step.1 then(0,w.step.2,{d with wait:=0,laid:=[],has:=false})
 else(14,w.step.2,d)
def bv.rewrite(w:Pow)(d:bv)(l:cv):Int×Pow×bv:=
 if !l.all (fun b=>decide (b.length=64))then(1,w,d)
 else if d.lost then(5,w,d)
 else if d.room<l.length then(7,w,d)
 else if w.off then(14,w,d)
 else if w.step.1 then(0,w.step.2,{d with l:=l,wait:=0,laid:=[],has:=false})
 else(14,w.step.2,{d with laid:=l,has:=true})
abbrev aX:=List (Option bv)
def bR(ds:aX)(a:Int):Option bv:=if 0<=a/\a<64 then(ds[a.toNat]?).join else none
def jb(ds:aX)(a:Int)(d:bv):aX:=ds.set a.toNat (some d)
def isLive(ds:aX)(a:Int):Bool:=match bR ds a with|some d=>!d.lost|none=>false
def bg(ds:aX)(a:aB):aB:=a.filter (isLive ds)
def eu(w:Pow)(ds:aX)(a:Int)(b:aU):Int×Pow×aX:=
 match bR ds a with
 |none=>(if b.length≠64 then 1 else 5,w,ds)
 |some d=>((d.append w b).1,(d.append w b).2.1,jb ds a (d.append w b).2.2)
def fU(w:Pow)(ds:aX)(a:Int):Int×Pow×aX:=
 match bR ds a with
 |none=>(5,w,ds)
 |some d=>((d.sync w).1,(d.sync w).2.1,jb ds a (d.sync w).2.2)
def kg:List (Int×aU)->Pow->aX->Int×Pow×aX
 |[],w,ds=>(0,w,ds)
 |x::l,w,ds=>let r:=eu w ds x.1 x.2;if r.1=0 then kg l r.2.1 r.2.2 else r
def jZ:aB->Pow->aX->Int×Pow×aX
 |[],w,ds=>(0,w,ds)
 |x::l,w,ds=>let r:=fU w ds x;if r.1=0 then jZ l r.2.1 r.2.2 else r
theorem CD(x:Int)(l:aB)(w:Pow)(ds:aX):jZ (x::l) w ds=if(fU w ds x).1=0 then jZ l (fU w ds x).2.1 (fU w ds x).2.2 else fU w ds x:=rfl
theorem uE(x:Int×aU)(l:List (Int×aU))(w:Pow)(ds:aX):kg (x::l) w ds=if(eu w ds x.1 x.2).1=0 then kg l (eu w ds x.1 x.2).2.1 (eu w ds x.1 x.2).2.2 else eu w ds x.1 x.2:=rfl
def fJ(l:aB):aB:=((List.range 64).map fun i:Nat=>(i:Int)).filter fun i=>decide (i∈l)
def layAll(l:List (Int×aU))(w:Pow)(ds:aX):Int×Pow×aX:=
 let r:=kg l w ds
 if r.1=0 then jZ (fJ (l.map Prod.fst)) r.2.1 r.2.2 else r
end Wl
