/- Lemmas for the proof of the law; no condition. -/
import Derived.Test.YtbhpnfilcomonaaGreatDoorPlA
set_option linter.unusedVariables false
set_option linter.unusedSimpArgs false
namespace Wl
structure Pow where
 off:Bool
 fuse:Option Nat
 offs:Int
def Pow.new:Pow:=⟨false,none,0⟩
def Pow.step(w:Pow):Bool×Pow:=
 if w.off then(false,w)else match w.fuse with
 |none=>(true,w)
 |some 0=>(false,⟨true,some 0,Go.IntKind.wrap .i64 (w.offs+1)⟩)
 |some (k+1)=>(true,⟨false,some k,w.offs⟩)
structure bf where
 room:Nat
 l:bR
 wait:Nat
 laid:bR
 has:Bool
 lost:Bool
def bf.new(a:Nat):bf:=⟨a,[],0,[],false,false⟩
def bf.append(w:Pow)(d:bf)(b:aL):Int×Pow×bf:=
 if b.length≠64 then(1,w,d)
 else if d.lost then(5,w,d)
 else if d.room<=d.l.length then(7,w,d)
 else if w.off then(14,w,d)
 else if w.step.1 then(0,w.step.2,{d with l:=d.l++[b],wait:=d.wait+1,laid:=[],has:=false})
 else(14,w.step.2,{d with l:=d.l++[b],wait:=d.wait+1})
def bf.sync(w:Pow)(d:bf):Int×Pow×bf:=
 if d.lost then(5,w,d)
 else if w.step.1 then(0,w.step.2,{d with wait:=0,laid:=[],has:=false})
 else(14,w.step.2,d)
def bf.rewrite(w:Pow)(d:bf)(l:bR):Int×Pow×bf:=
 if !l.all (fun b=>decide (b.length=64))then(1,w,d)
 else if d.lost then(5,w,d)
 else if d.room<l.length then(7,w,d)
 else if w.off then(14,w,d)
 else if w.step.1 then(0,w.step.2,{d with l:=l,wait:=0,laid:=[],has:=false})
 else(14,w.step.2,{d with laid:=l,has:=true})
abbrev aS:=List (Option bf)
def bs(ds:aS)(a:Int):Option bf:=if 0<=a/\a<64 then(ds[a.toNat]?).join else none
def fO(ds:aS)(a:Int)(d:bf):aS:=ds.set a.toNat (some d)
def isLive(ds:aS)(a:Int):Bool:=match bs ds a with|some d=>!d.lost|none=>false
def bS(ds:aS)(a:aD):aD:=a.filter (isLive ds)
def du(w:Pow)(ds:aS)(a:Int)(b:aL):Int×Pow×aS:=
 match bs ds a with
 |none=>(if b.length≠64 then 1 else 5,w,ds)
 |some d=>((d.append w b).1,(d.append w b).2.1,fO ds a (d.append w b).2.2)
def fd(w:Pow)(ds:aS)(a:Int):Int×Pow×aS:=
 match bs ds a with
 |none=>(5,w,ds)
 |some d=>((d.sync w).1,(d.sync w).2.1,fO ds a (d.sync w).2.2)
def iV:List (Int×aL)->Pow->aS->Int×Pow×aS
 |[],w,ds=>(0,w,ds)
 |x::l,w,ds=>let r:=du w ds x.1 x.2;if r.1=0 then iV l r.2.1 r.2.2 else r
def iO:aD->Pow->aS->Int×Pow×aS
 |[],w,ds=>(0,w,ds)
 |x::l,w,ds=>let r:=fd w ds x;if r.1=0 then iO l r.2.1 r.2.2 else r
theorem um(x:Int)(l:aD)(w:Pow)(ds:aS):iO (x::l) w ds=if(fd w ds x).1=0 then iO l (fd w ds x).2.1 (fd w ds x).2.2 else fd w ds x:=rfl
theorem pv(x:Int×aL)(l:List (Int×aL))(w:Pow)(ds:aS):iV (x::l) w ds=if(du w ds x.1 x.2).1=0 then iV l (du w ds x.1 x.2).2.1 (du w ds x.1 x.2).2.2 else du w ds x.1 x.2:=rfl
def eX(l:aD):aD:=((List.range 64).map fun i:Nat=>(i:Int)).filter fun i=>decide (i∈l)
def layAll(l:List (Int×aL))(w:Pow)(ds:aS):Int×Pow×aS:=
 let r:=iV l w ds
 if r.1=0 then iO (eX (l.map Prod.fst)) r.2.1 r.2.2 else r
end Wl
