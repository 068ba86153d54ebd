/- Lemmas for the proof of the law; no condition. -/
import Derived.Test.YtdibhfbogjngkaaGreatDoorPlA
set_option linter.unusedVariables false
set_option linter.unusedSimpArgs false
namespace Wl
structure Pow where
 off:Bool
 fuse:Option Nat
 offs:Int
def Pow.new:Pow:=⟨false,none,0⟩
def Pow.step(w:Pow):Bool×Pow:=
 if w.off then(false,w)else match w.fuse with
 |none=>(true,w)
 |some 0=>(false,⟨true,some 0,Go.IntKind.wrap .i64 (w.offs+1)⟩)
 |some (k+1)=>(true,⟨false,some k,w.offs⟩)
structure bw where
 room:Nat
 l:cP
 wait:Nat
 laid:cP
 has:Bool
 lost:Bool
def bw.new(a:Nat):bw:=⟨a,[],0,[],false,false⟩
def bw.append(w:Pow)(d:bw)(b:bc):Int×Pow×bw:=
 if b.length≠64 then(1,w,d)
 else if d.lost then(5,w,d)
 else if d.room<=d.l.length then(7,w,d)
 else if w.off then(14,w,d)
 else if w.step.1 then(0,w.step.2,{d with l:=d.l++[b],wait:=d.wait+1,laid:=[],has:=false})
 else(14,w.step.2,{d with l:=d.l++[b],wait:=d.wait+1})
def bw.sync(w:Pow)(d:bw):Int×Pow×bw:=
 if d.lost then(5,w,d)
 else if w.step.1 then(0,w.step.2,{d with wait:=0,laid:=[],has:=false})
 else(14,w.step.2,d)
def bw.rewrite(w:Pow)(d:bw)(l:cP):Int×Pow×bw:=
 if !l.all (λb=>decide (b.length=64))then(1,w,d)
 else if d.lost then(5,w,d)
 else if d.room<l.length then(7,w,d)
 else if w.off then(14,w,d)
 else if w.step.1 then(0,w.step.2,{d with l:=l,wait:=0,laid:=[],has:=false})
 else(14,w.step.2,{d with laid:=l,has:=true})
def bw.rU(d:bw):bw:={d with lost:=true,l:=[],wait:=0,laid:=[],has:=false}
abbrev aW:=List (Option bw)
def bC(ds:aW)(slot:Int):Option bw:=if 0<=slot/\slot<64 then(ds[slot.toNat]?).join else none
def gh(ds:aW)(slot:Int)(d:bw):aW:=ds.set slot.toNat (some d)
def isLive(ds:aW)(slot:Int):Bool:=match bC ds slot with|some d=>!d.lost|none=>false
def aN(ds:aW)(cj:aF):aF:=cj.filter (isLive ds)
def eO(w:Pow)(ds:aW)(slot:Int)(b:bc):Int×Pow×aW:=
 match bC ds slot with
 |none=>(if b.length≠64 then 1 else 5,w,ds)
 |some d=>((d.append w b).1,(d.append w b).2.1,gh ds slot (d.append w b).2.2)
def gu(w:Pow)(ds:aW)(slot:Int):Int×Pow×aW:=
 match bC ds slot with
 |none=>(5,w,ds)
 |some d=>((d.sync w).1,(d.sync w).2.1,gh ds slot (d.sync w).2.2)
def kY:List (Int×bc)->Pow->aW->Int×Pow×aW
 |[],w,ds=>(0,w,ds)
 |x::l,w,ds=>let r:=eO w ds x.1 x.2;if r.1=0 then kY l r.2.1 r.2.2 else r
def kP:aF->Pow->aW->Int×Pow×aW
 |[],w,ds=>(0,w,ds)
 |x::l,w,ds=>let r:=gu w ds x;if r.1=0 then kP l r.2.1 r.2.2 else r
theorem DX(x:Int)(l:aF)(w:Pow)(ds:aW):kP (x::l) w ds=if(gu w ds x).1=0 then kP l (gu w ds x).2.1 (gu w ds x).2.2 else gu w ds x:=rfl
theorem xW(x:Int×bc)(l:List (Int×bc))(w:Pow)(ds:aW):kY (x::l) w ds=if(eO w ds x.1 x.2).1=0 then kY l (eO w ds x.1 x.2).2.1 (eO w ds x.1 x.2).2.2 else eO w ds x.1 x.2:=rfl
def ge(l:aF):aF:=((List.range 64).map λi:Nat=>(i:Int)).filter λi=>decide (i∈l)
def layAll(l:List (Int×bc))(w:Pow)(ds:aW):Int×Pow×aW:=
 let r:=kY l w ds
 if r.1=0 then kP (ge (l.map Prod.fst)) r.2.1 r.2.2 else r
end Wl
