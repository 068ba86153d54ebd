/- Lemmas. -/
import Derived.Test.YtadfimdanpoafaaGreatDoorPlC
set_option linter.unusedVariables false
namespace Wl
structure Pow where
 off:Bool
 fuse:Option Nat
 offs:Int
def Pow.new:Pow:=⟨false,none,0⟩
def Pow.step(w:Pow):Bool×Pow:=
 if w.off then(false,w)else match w.fuse with
 |none=>(true,w)
 |some 0=>(false,⟨true,some 0,Go.IntKind.wrap .i64 (w.offs+1)⟩)
 |some (k+1)=>(true,⟨false,some k,w.offs⟩)
structure bB where
 room:Nat
 l:cD
 wait:Nat
 laid:cD
 has:Bool
 lost:Bool
def bB.new(a:Nat):bB:=⟨a,[],0,[],false,false⟩
def bB.append(w:Pow)(d:bB)(b:aX):Int×Pow×bB:=
 if b.length≠64 then(1,w,d)
 else if d.lost then(5,w,d)
 else if d.room<=d.l.length then(7,w,d)
 else if w.off then(14,w,d)
 else if w.step.1 then(0,w.step.2,{d with l:=d.l++[b],wait:=d.wait+1,laid:=[],has:=false})
 else(14,w.step.2,{d with l:=d.l++[b],wait:=d.wait+1})
def bB.sync(w:Pow)(d:bB):Int×Pow×bB:=
 if d.lost then(5,w,d)
 else if w.step.1 then(0,w.step.2,{d with wait:=0,laid:=[],has:=false})
 else(14,w.step.2,d)
def bB.rewrite(w:Pow)(d:bB)(l:cD):Int×Pow×bB:=
 if !l.all (fun b=>decide (b.length=64))then(1,w,d)
 else if d.lost then(5,w,d)
 else if d.room<l.length then(7,w,d)
 else if w.off then(14,w,d)
 else if w.step.1 then(0,w.step.2,{d with l:=l,wait:=0,laid:=[],has:=false})
 else(14,w.step.2,{d with laid:=l,has:=true})
abbrev aT:=List (Option bB)
def bp(ds:aT)(a:Int):Option bB:=if 0<=a/\a<64 then(ds[a.toNat]?).join else none
def jE(ds:aT)(a:Int)(d:bB):aT:=ds.set a.toNat (some d)
def isLive(ds:aT)(a:Int):Bool:=match bp ds a with|some d=>!d.lost|none=>false
def bc(ds:aT)(a:aC):aC:=a.filter (isLive ds)
def fu(w:Pow)(ds:aT)(a:Int)(b:aX):Int×Pow×aT:=
 match bp ds a with
 |none=>(if b.length≠64 then 1 else 5,w,ds)
 |some d=>((d.append w b).1,(d.append w b).2.1,jE ds a (d.append w b).2.2)
def hG(w:Pow)(ds:aT)(a:Int):Int×Pow×aT:=
 match bp ds a with
 |none=>(5,w,ds)
 |some d=>((d.sync w).1,(d.sync w).2.1,jE ds a (d.sync w).2.2)
def ky:List (Int×aX)->Pow->aT->Int×Pow×aT
 |[],w,ds=>(0,w,ds)
 |x::l,w,ds=>let r:=fu w ds x.1 x.2;if r.1=0 then ky l r.2.1 r.2.2 else r
def kj:aC->Pow->aT->Int×Pow×aT
 |[],w,ds=>(0,w,ds)
 |x::l,w,ds=>let r:=hG w ds x;if r.1=0 then kj l r.2.1 r.2.2 else r
theorem CS(x:Int)(l:aC)(w:Pow)(ds:aT):kj (x::l) w ds=if(hG w ds x).1=0 then kj l (hG w ds x).2.1 (hG w ds x).2.2 else hG w ds x:=rfl
theorem uS(x:Int×aX)(l:List (Int×aX))(w:Pow)(ds:aT):ky (x::l) w ds=if(fu w ds x.1 x.2).1=0 then ky l (fu w ds x.1 x.2).2.1 (fu w ds x.1 x.2).2.2 else fu w ds x.1 x.2:=rfl
def fN(l:aC):aC:=((List.range 64).map fun i:Nat=>(i:Int)).filter fun i=>decide (i∈l)
def layAll(l:List (Int×aX))(w:Pow)(ds:aT):Int×Pow×aT:=
 let r:=ky l w ds
 if r.1=0 then kj (fN (l.map Prod.fst)) r.2.1 r.2.2 else r
end Wl
