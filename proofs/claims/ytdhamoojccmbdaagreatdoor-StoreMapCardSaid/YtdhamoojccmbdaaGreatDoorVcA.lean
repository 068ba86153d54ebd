/- Part of the proofs that the laws of this seat answer true whatever the input reads, and leave it as it was; no condition. -/
import Derived.Calls
import Derived.Orders
import Derived.Scope
import Derived.KernelRfl
import Derived.Laws.Sem
import Derived.OrdersHeld
set_option linter.unusedVariables false
set_option linter.unusedSimpArgs false
open Nat renaming add_assoc -> yp, beq -> wz, ble -> vV, blt -> vF, eq_of_beq_eq_true -> zF, le_of_ble_eq_true -> zE, le_refl -> ql, le_trans -> q9, mul_one -> wJ
open Bool renaming and_eq_true -> qz, false_eq_true -> ze, not_eq_true' -> wK, not_false -> wY, not_true -> wW, or_eq_false_iff -> yc, or_eq_true -> wc
open List renaming append_assoc -> qp, cons_append -> zx, getElem?_cons_succ -> qy, getElem?_eq_some_iff -> qm, getElem?_map -> qP, getElem?_toArray -> zG, length_cons -> zb, length_map -> qx, map_cons -> zT, mem_append -> qB, mem_append_left -> yE, mem_append_right -> wN, mem_cons -> za, mem_cons_of_mem -> qO, mem_cons_self -> qU, mem_singleton -> qH, range -> qC, range_eq_range' -> yF, size_toArray -> wZ
open Array renaming ext' -> yj, getElem?_eq_some_iff -> y0, getElem?_setIfInBounds -> wb, getElem?_toList -> yY, mapM_eq_mapM_toList -> ve, replicate -> vm, toList_map -> vE
open BitVec renaming ofInt -> qA
open Go.IntKind renaming i64 -> xh
open Go.Instr renaming alloc -> qK, box -> qL, build -> vI, buildSlice -> qq, fill -> wu, loadAt -> vL, lookup -> vM, makeMap -> vG, makeSlice -> qD, mapUpdate -> vk, slice -> vJ, sliceAt -> wE, sliceBound -> va, sliceBounds -> zQ, storeAt -> qf
open Prod renaming fst -> qJ, snd -> zC
open Option renaming map_eq_some_iff -> yU, map_some -> qN, some -> zL
open Go.Builtin renaming append_ -> qt, clear_ -> yt, copy_ -> wX, delete_ -> vl, len_ -> vw
namespace Go.Vc
open Go
abbrev Heap:=Array Obj
def cellOf(h:Heap)(a:Addr):Option Value:=
 match h[a.block]? with
 |some (.cells c _ _)=>if a.spot.isSome then none else c[a.off]?
 |_=>none
def XK(h:Heap)(a:Addr):Bool:=
 match h[a.block]? with
 |some (.cells _ _ (lo,hi))=>lo<=a.off&&a.off<hi
 |_=>false
def XL(h:Heap)(a:Addr)(v:Value):Heap:=
 h.modify a.block fun
  | .cells c elem frozen=>.cells (if a.spot.isSome then c else c.setIfInBounds a.off v) elem frozen
  |o=>o
def shapeOf(h:Heap)(r:Nat):Option (TypeId×Nat):=match h[r]? with|some (.cells c elem _)=>some (elem,c.size)|_=>none
theorem acI(w:World)(r:Nat):w.shape? r=shapeOf w.heap r:=rfl
theorem NQ(w:World)(a:Addr):w.cell? a=cellOf w.heap a:=rfl
theorem afg(w:World)(a:Addr):w.frozen? a=XK w.heap a:=rfl
theorem afh(w:World)(a:Addr)(v:Value):(w.setCell a v).heap=XL w.heap a v:=rfl
structure cQ (w w':World):Prop where
 os:w'.os=w.os
 tape:w'.tape=w.tape
 output:w'.output=w.output
 drawn:w.drawn<=w'.drawn
theorem cQ.refl(w:World):cQ w w:=⟨rfl,rfl,rfl,ql _⟩
theorem cQ.trans{a b c:World}(h:cQ a b)(k:cQ b c):cQ a c:=⟨k.os.trans h.os,k.tape.trans h.tape,k.output.trans h.output,q9 h.drawn k.drawn⟩
def ae(P:Program)(f:FuncId)(args:Array Value)(h:Heap)(R:Value->Heap->Prop):Prop:=
 ∀w,w.heap=h->Calls P f args w fun e w'=>∃v,e=.returned v/\cQ w w'/\R v w'.heap
theorem ae.mono{P:Program}{f:FuncId}{args:Array Value}{h:Heap}{R a:Value->Heap->Prop}(d:ae P f args h R)
  (c:∀v h',R v h'->a v h'):ae P f args h a:=fun w b=>
 (d w b).mono fun _ _ ⟨v,g,e,r⟩=>⟨v,g,e,c _ _ r⟩
def ac{α:Type}(P:Program)(s:Sem α)(h:Heap)(K:α->Heap->Prop):Prop:=
 ∀w,w.heap=h->∃v w',s.run P w=.ok v w'/\cQ w w'/\K v w'.heap
section
variable {α β:Type} {P:Program} {h:Heap}
theorem ac.pure'{K:α->Heap->Prop}{a:α}(c:K a h):ac P (Pure.pure a) h K:=fun w b=>⟨a,w,rfl,cQ.refl w,by rw[b];exact c⟩
theorem ac.bind{s:Sem α}{f:α->Sem β}{K:β->Heap->Prop}(g:ac P s h fun v h'=>ac P (f v) h' K):ac P (s>>=f) h K:=by
 intro w e;obtain⟨v,w',l,k,j⟩:=g w e;obtain⟨i,b,c,d,a⟩:=j w' rfl;exact⟨i,b,by rw[Sem.run_bind,l];exact c,k.trans d,a⟩
theorem ac.mono{s:Sem α}{K d:α->Heap->Prop}(g:ac P s h K)(f:∀v h',K v h'->d v h'):ac P s h d:=fun w e=>
 let⟨v,w',a,b,c⟩:=g w e;⟨v,w',a,b,f _ _ c⟩
theorem ac.acJ{K:Program->Heap->Prop}(b:K P h):ac P program h K:=fun w a=>⟨P,w,rfl,cQ.refl w,by rw[a];exact b⟩
theorem ac.agp{a:Addr}{v v0:Value}{m:Mode}{K:Unit->Heap->Prop}(e:v.oneCell'=true)(f:cellOf h a=some v0)(c:XK h a=false)(d:K () (XL h a v)):
  ac P (store a v m) h K:=fun w b=>
 ⟨(),w.setCell a v,by rw[run_store _ _ _ _ _ e,NQ,b,f];simp[afg,b,c],⟨rfl,rfl,rfl,ql _⟩,by rw[afh,b];exact d⟩
theorem ac.oG{o:Obj}{K:Nat->Heap->Prop}(b:K h.size (h.push o)):ac P (newObj o) h K:=fun w a=>
 ⟨w.heap.size,_,run_newObj P w o,⟨rfl,rfl,rfl,ql _⟩,by simp only[a];exact b⟩
theorem ac.Kd{n:Nat}{K:Unit->Heap->Prop}(b:K () h):ac P (askRoom n) h K:=fun w a=>⟨(),w,run_askRoom P w n,cQ.refl w,by rw[a];exact b⟩
theorem ac.NR{q:Question}{K:Nat->Heap->Prop}(b:(q.forced=true->K 0 h)/\(q.forced=false->∀n,K (q.cut n) h)):ac P (choose q) h K:=by
 intro w a;cases hq:q.forced with
 |true=>exact⟨0,w,by rw[run_choose,hq];rfl,cQ.refl w,by rw[a];exact b.1 hq⟩
 |false=>exact⟨q.cut (w.tape w.drawn q),{w with drawn:=w.drawn+1},by rw[run_choose,hq];rfl,⟨rfl,rfl,rfl,Nat.le_succ _⟩,by show K _ w.heap;rw[a];exact b.2 hq _⟩
theorem ac.IB{r:Nat}{o:Obj}{K:Obj->Heap->Prop}(d:h[r]?=some o)(g:∀c e f,o≠.cells c e f)(b:K o h):ac P (getObj r) h K:=fun w a=>by
 refine⟨o,w,?_,cQ.refl w,by rw[a];exact b⟩;simp only[getObj,Sem.run,a,d]
theorem ac.IC{r:Nat}{o a:Obj}{K:Unit->Heap->Prop}(g:h[r]?=some o)(i:∀c e f,o≠.cells c e f)(d:K () (h.setIfInBounds r a)):ac P (setObj r a) h K:=fun w b=>by
 refine⟨(),{w with heap:=w.heap.setIfInBounds r a},?_,⟨rfl,rfl,rfl,ql _⟩,by show K () (w.heap.setIfInBounds r a);rw[b];exact d⟩;simp only[setObj,Sem.run,b,g]
theorem ac.agq{r:Nat}{K:Option (TypeId×Nat)->Heap->Prop}(b:K (shapeOf h r) h):ac P (shape r) h K:=fun w a=>
 ⟨_,w,run_shape P w r,cQ.refl w,by rw[a,acI,a];exact b⟩
end
def Cy(P:Program)(s:Sem Next)(h:Heap)(K:Value->Heap->Prop):Prop:=
 ac P s h fun a h'=>match a with
  | .value v=>K v h'
  | .skip=>K undef h'
  | .enter f args=>ae P f args h' K
  |_=>False
theorem ahE{P:Program}{o:Oper}{a:Act}{w:World}{K:Value->Heap->Prop}{Q:Exit->Act->World->Prop}
  (i:Cy P (execOp a.eval o) w.heap K) {next:Act->World->Prop}
  (g:∀v w',cQ w w'->K v w'.heap->next (a.put o.dst v) w'):o.wp P a w next Q:=by
 obtain⟨h,w',j,d,b⟩:=i w rfl;unfold Oper.wp;rw[j];cases h<;>simp only at b<;>simp only[Oper.upon]
 case value v=>exact g _ _ d b
 case skip=>exact g _ _ d b
 case enter f args=>
  refine(b w' rfl).mono ?_;rintro e k ⟨v,rfl,c,r⟩;exact g _ _ (d.trans c) r
structure Sl where
 ptr:Option Addr
 len:Nat
 cap:Nat
 deriving Inhabited
inductive Sc where
 |int (k:IntKind)|bool|str|ptr|slc|flt (k:FloatKind)|cpx (k:FloatKind)|mp|fn|any|adr
@[reducible] def Sc.den:Sc->Type
 | .int _=>Int
 | .bool=>Bool
 | .str=>ByteArray
 | .ptr=>Option Addr
 | .slc=>Sl
 | .flt _=>Nat
 | .cpx _=>Nat×Nat
 | .mp=>Option Nat
 | .fn=>FuncId×Array Value×Array Value
 | .any=>Value
 | .adr=>Addr
@[reducible] def Sc.enc:(s:Sc)->s.den->Value
 | .int k,n=>.int k n
 | .bool,x=>.bool x
 | .str,x=>.string x
 | .ptr,a=>.pointer a
 | .slc,x=>.slice x.ptr x.len x.cap
 | .flt k,n=>.float k n
 | .cpx k,x=>.complex k x.1 x.2
 | .mp,r=>.map r
 | .fn,x=>.func (.func x.1) x.2.1 x.2.2
 | .any,v=>v
 | .adr,a=>.pointer (some a)
def Cz:IntKind->IntKind->Bool
 | .i8,.i8| .i16,.i16| .i32,.i32| .i64,.i64| .u8,.u8| .u16,.u16| .u32,.u32| .u64,.u64=>true
 |_,_=>false
theorem Jt:∀{a b:IntKind},Cz a b=true->a=b:=by
 intro a b;cases a<;>cases b<;>simp[Cz]
def Gi:FloatKind->FloatKind->Bool
 | .f32,.f32| .f64,.f64=>true
 |_,_=>false
theorem Gj:∀{a b:FloatKind},Gi a b=true->a=b:=by
 intro a b;cases a<;>cases b<;>simp[Gi]
def Sc.dec:(s:Sc)->Value->Option s.den
 | .int k,.int k' n=>bif Cz k k' then some n else none
 | .bool,.bool x=>some x
 | .str,.string x=>some x
 | .ptr,.pointer a=>some a
 | .slc,.slice a l c=>some ⟨a,l,c⟩
 | .flt k,.float k' n=>bif Gi k k' then some n else none
 | .cpx k,.complex k' a b=>bif Gi k k' then some (a,b)else none
 | .mp,.map r=>some r
 | .fn,.func (.func g) f c=>some (g,f,c)
 | .any,v=>some v
 | .adr,.pointer (some a)=>some a
 |_,_=>none
theorem Sc.rQ{s:Sc}{v:Value}{x:s.den}(h:s.dec v=some x):v=s.enc x:=by
 cases s<;>cases v<;>simp only[Sc.dec]at h<;>try(first|(cases h;done)|(cases h;rfl))
 case int.int k k' n=>
  cases hk:Cz k k'<;>simp[hk]at h;have:=Jt hk;subst this;subst h;rfl
 case flt.float k k' n=>
  cases hk:Gi k k'<;>simp[hk]at h;have:=Gj hk;subst this;subst h;rfl
 case cpx.complex k k' a b=>
  cases hk:Gi k k'<;>simp[hk]at h;have:=Gj hk;subst this;subst h;rfl
 case fn.func g f c=>
  cases g<;>first|(cases h;done)|skip
  obtain⟨l⟩:=f;cases l<;>first|(cases h;done)|(cases h;rfl)
 case adr.pointer a=>
  cases a<;>first|(cases h;done)|(cases h;rfl)
@[reducible] def NS:List Sc->Type
 |[]=>Unit
 |[s]=>s.den
 |s::t::r=>s.den×NS (t::r)
@[reducible] def BE:(l:List Sc)->NS l->List Value
 |[],_=>[]
 |[s],x=>[s.enc x]
 |s::t::r,x=>s.enc x.1::BE (t::r) x.2
def XM:(l:List Sc)->List Value->Option (NS l)
 |[],[]=>some ()
 |[s],[v]=>s.dec v
 |s::t::r,v::vs=>match s.dec v with
  |some x=>match XM (t::r) vs with
   |some y=>some (x,y)
   |none=>none
  |none=>none
 |_,_=>none
theorem aab:∀{l:List Sc} {vs:List Value} {x:NS l},XM l vs=some x->vs=BE l x:=by
 intro l vs
 fun_induction XM l vs with
 |case1=>intro x _;rfl
 |case2 s v=>intro x h;simp only[BE];rw[Sc.rQ h]
 |case3 s t r v vs x hx y hy ih=>intro z h;cases h;simp only[BE];rw[Sc.rQ hx,ih hy]
 |case4=>intro x h;cases h
 |case5=>intro x h;cases h
 |case6=>intro x h;cases h
inductive Ty where
 |sc (s:Sc)
 |agg (l:List Sc)
 |arr (s:Sc)
@[reducible] def Ty.den:Ty->Type
 | .sc s=>s.den
 | .agg l=>NS l
 | .arr s=>List s.den
@[reducible] def Ty.enc:(t:Ty)->t.den->Value
 | .sc s,x=>s.enc x
 | .agg l,x=>.agg (BE l x).toArray
 | .arr s,x=>.agg (x.map s.enc).toArray
def Ty.dec:(t:Ty)->Value->Option t.den
 | .sc s,v=>s.dec v
 | .agg l,.agg ⟨cs⟩=>XM l cs
 |_,_=>none
theorem Ty.rQ{t:Ty}{v:Value}{x:t.den}(h:t.dec v=some x):v=t.enc x:=by
 unfold Ty.dec at h;split at h
 ·exact Sc.rQ h
 ·have:=aab h;subst this;rfl
 ·cases h
@[reducible] def XN:List Ty->Type
 |[]=>Unit
 |[s]=>s.den
 |s::t::r=>s.den×XN (t::r)
@[reducible] def aeI:(l:List Ty)->XN l->List Value
 |[],_=>[]
 |[s],x=>[s.enc x]
 |s::t::r,x=>s.enc x.1::aeI (t::r) x.2
inductive Rt where
 |one (t:Ty)
 |many (l:List Ty)
@[reducible] def Rt.den:Rt->Type
 | .one t=>t.den
 | .many l=>XN l
@[reducible] def Rt.enc:(r:Rt)->r.den->Value
 | .one t,x=>t.enc x
 | .many l,x=>.tuple (aeI l x).toArray
inductive bY where
 |val (t:Nat) (x:Value)
 |kil (lo hi:Nat)
abbrev Env:=List bY
def bY.dW:bY->Nat->Bool
 | .val s _,t=>wz s t
 | .kil lo hi,t=>vV lo t&&vF t hi
def Env.get:Env->Nat->Option Value
 |[],_=>none
 | .val s x::r,t=>bif wz s t then some x else Env.get r t
 | .kil lo hi::r,t=>bif vV lo t&&vF t hi then none else Env.get r t
def Env.dW:Env->Nat->Bool
 |[],_=>false
 |e::r,t=>e.dW t||Env.dW r t
theorem Env.acK(e:bY)(r:Env)(t:Nat)(h:e.dW t=false):Env.get (e::r) t=Env.get r t:=by
 cases e<;>simp only[bY.dW]at h<;>simp[Env.get,h]
theorem Env.get_append{δ ρ:Env}{t:Nat}(h:δ.dW t=false):Env.get (δ++ρ) t=Env.get ρ t:=by
 induction δ with
 |nil=>rfl
 |cons e r ih=>
  simp only[Env.dW,yc]at h;rw[zx,Env.acK _ _ _ h.1,ih h.2]
theorem Env.BF{δ ρ:Env}{t:Nat}:Env.dW (δ++ρ) t=(δ.dW t||ρ.dW t):=by
 induction δ with
 |nil=>simp[Env.dW]
 |cons e r ih=>simp[Env.dW,ih,Bool.or_assoc]
structure Fits (n:Nat) (a:Act) (ρ:Env):Prop where
 size:a.tmps.size=n
 defers:a.defers=[]
 get:∀t x,ρ.get t=some x->a.tmps[t]?=some x
def Ext(ρ c:Env)(a b:Act):Prop:=∃δ:Env,c=δ++ρ/\∀t,δ.dW t=false->b.tmps[t]?=a.tmps[t]?
theorem Ext.refl(ρ:Env)(a:Act):Ext ρ ρ a a:=⟨[],rfl,fun _ _=>rfl⟩
theorem Ext.trans{ρ f c:Env}{a e b:Act}(h:Ext ρ f a e)(k:Ext f c e b):Ext ρ c a b:=by
 obtain⟨δ,rfl,h⟩:=h;obtain⟨g,rfl,k⟩:=k;refine⟨g++δ,by simp,fun t d=>?_⟩;rw[Env.BF,yc]at d;rw[k t d.1,h t d.2]
def Env.eval(ρ:Env):Operand->Option Value
 | .tmp t=>ρ.get t
 | .const v=>some v
 | .global g=>some (.pointer (some ⟨g,0,none⟩))
 | .func f=>some (.func (.func f) #[] #[])
theorem Fits.eval{n:Nat}{a:Act}{ρ:Env}(h:Fits n a ρ){x:Operand}{v:Value}(b:ρ.eval x=some v):a.eval x=v:=by
 cases x<;>simp only[Env.eval]at b<;>simp only[Act.eval]
 case tmp t=>have:=h.get t v b;simp[Array.getD_eq_getD_getElem?,this]
 all_goals (injection b)
theorem Fits.put{n:Nat}{a:Act}{ρ:Env}(h:Fits n a ρ){d:Nat}(f:vF d n=true)(v:Value):Fits n (a.put (some d) v) (.val d v::ρ):=by
 have c:d<n:=zE f;refine⟨by simp[Act.put,h.size],h.defers,fun t x b=>?_⟩;simp only[Env.get]at b;simp only[Act.put,wb];cases hb:wz d t with
 |true=>
  rw[hb]at b;have:d=t:=zF hb;subst this;simp at b;simp[h.size,c,b]
 |false=>
  rw[hb]at b;have:d≠t:=fun e=>by subst e;simp at hb
  simp only[this,if_false];exact h.get t x b
theorem Ext.put{ρ:Env}{a:Act}{d:Nat}(v u:Value):Ext ρ (.val d u::ρ) a (a.put (some d) v):=by
 refine⟨[.val d u],rfl,fun t b=>?_⟩;simp only[Env.dW,bY.dW,Bool.or_false]at b;have:d≠t:=fun e=>by subst e;simp at b
 simp[Act.put,this]
abbrev dC:=List (Nat×Ty)
@[reducible] def dC.den:dC->Type
 |[]=>Unit
 |[s]=>s.2.den
 |s::t::r=>s.2.den×dC.den (t::r)
def dC.vals:(σ:dC)->σ.den->Env->Env
 |[],_,ρ=>ρ
 |[s],x,ρ=>.val s.1 (s.2.enc x)::ρ
 |s::t::r,x,ρ=>.val s.1 (s.2.enc x.1)::dC.vals (t::r) x.2 ρ
def dC.read:(σ:dC)->Env->Option σ.den
 |[],_=>some ()
 |[s],ρ=>match ρ.get s.1 with
  |some v=>s.2.dec v
  |none=>none
 |s::t::r,ρ=>match ρ.get s.1 with
  |some v=>match s.2.dec v with
   |some x=>match dC.read (t::r) ρ with
    |some y=>some (x,y)
    |none=>none
   |none=>none
  |none=>none
def dC.has:dC->Nat->Bool
 |[],_=>false
 |s::r,t=>wz s.1 t||dC.has r t
abbrev cU:=List (Nat×Nat)
def cU.over:cU->Env->Env
 |[],ρ=>ρ
 |(lo,hi)::r,ρ=>.kil lo hi::cU.over r ρ
def cU.has:cU->Nat->Nat->Bool
 |[],_,_=>false
 |(lo,hi)::r,a,b=>(vV lo a&&vV b hi)||cU.has r a b
def within(σ:dC)(κ:cU):Env->Nat->Bool
 |_,0=>true
 |[],_+1=>true
 | .val t _::r,n+1=>(dC.has σ t||cU.has κ t (t+1))&&within σ κ r n
 | .kil lo hi::r,n+1=>cU.has κ lo hi&&within σ κ r n
theorem cU.acL{κ:cU}{a b:Nat}(h:κ.has a b=true){t:Nat}(f:a<=t)(e:t<b)(ρ:Env):∃δ:Env,κ.over ρ=δ++ρ/\δ.dW t=true:=by
 induction κ with
 |nil=>simp[cU.has]at h
 |cons p r ih=>
  obtain⟨d,c⟩:=p;simp only[cU.has,wc,qz]at h;obtain⟨δ,i⟩:∃δ:Env,cU.over r ρ=δ++ρ:=by
   clear ih h
   induction r with
   |nil=>exact⟨[],rfl⟩
   |cons q r ih=>obtain⟨δ,h⟩:=ih;exact⟨.kil q.1 q.2::δ,by show bY.kil q.1 q.2::cU.over r ρ=_;rw[h];rfl⟩
  rcases h with h|h
  ·have l:=zE h.1;have k:=zE h.2;refine⟨.kil d c::δ,by simp[cU.over,i],?_⟩;have j:vV d t=true:=Nat.ble_eq_true_of_le (by omega);have x2:vF t c=true:=by unfold vF;exact Nat.ble_eq_true_of_le (by omega)
   simp[Env.dW,bY.dW,j,x2]
  ·obtain⟨g,f,e⟩:=ih h;exact⟨.kil d c::g,by simp[cU.over,f],by simp[Env.dW,e]⟩
theorem cU.RZ(κ:cU)(ρ:Env):κ.over ρ=κ.over []++ρ:=by
 induction κ with
 |nil=>rfl
 |cons p r ih=>obtain⟨b,a⟩:=p;simp[cU.over,ih]
theorem dC.Ke:∀(σ:dC) (x:σ.den) (ρ:Env),σ.vals x ρ=σ.vals x []++ρ
 |[],_,ρ=>rfl
 |[s],x,ρ=>rfl
 |s::t::r,x,ρ=>by simp only[dC.vals];rw[dC.Ke (t::r) x.2 ρ];rfl
theorem dC.AQ:∀(σ:dC) (x:σ.den) (t:Nat),(σ.vals x []).dW t=σ.has t
 |[],_,_=>rfl
 |[s],x,t=>by simp[dC.vals,Env.dW,bY.dW,dC.has]
 |s::u::r,x,t=>by
  have:=dC.AQ (u::r) x.2 t;simp only[dC.vals,Env.dW,bY.dW,this];rfl
theorem dC.Sa:∀(σ:dC) (x:σ.den) (e:Env) (t:Nat),σ.has t=true->((σ.vals x [])++e).get t=(σ.vals x []).get t
 |[],_,_,_,h=>by cases h
 |[s],x,e,t,h=>by
  simp only[dC.has,Bool.or_false]at h;simp[dC.vals,Env.get,h]
 |s::u::r,x,e,t,h=>by
  simp only[dC.vals,zx,Env.get];cases hb:wz s.1 t with
  |true=>rfl
  |false=>
   have h':dC.has (u::r) t=true:=by
    have a:(wz s.1 t||dC.has (u::r) t)=true:=h;rw[hb]at a;exact a
   simpa using dC.Sa (u::r) x.2 e t h'
theorem cU.Pz{κ:cU}{a b t:Nat}(h:κ.has a b=true)(f:a<=t)(e:t<b):(κ.over []).dW t=true:=by
 obtain⟨δ,c,d⟩:=cU.acL h f e [];rw[c];simpa using d
theorem bW{σ:dC}{κ:cU}:∀{δ ρ:Env},within σ κ (δ++ρ) δ.length=true->∀t,σ.has t=false->(κ.over []).dW t=false->δ.dW t=false
 |[],_,_,_,_,_=>rfl
 | .val s x::r,ρ,h,t,h1,h2=>by
  simp only[zx,zb,within,qz,wc]at h;simp only[Env.dW,bY.dW,yc];refine⟨?_,bW h.2 t h1 h2⟩;cases hb:wz s t with
  |false=>rfl
  |true=>
   have:s=t:=zF hb;subst this;rcases h.1 with h|h
   ·rw[h]at h1;cases h1
   ·rw[cU.Pz h (ql _) (Nat.lt_succ_self _)]at h2;cases h2
 | .kil lo hi::r,ρ,h,t,h1,h2=>by
  simp only[zx,zb,within,qz]at h;simp only[Env.dW,bY.dW,yc];refine⟨?_,bW h.2 t h1 h2⟩;cases hb:(vV lo t&&vF t hi)with
  |false=>rfl
  |true=>
   simp only[qz]at hb;have b:=zE hb.1;have a:t<hi:=zE hb.2;rw[cU.Pz h.1 b a]at h2;cases h2
theorem dC.Sb:∀{σ:dC} {ρ:Env} {x:σ.den} {t:Nat} {v:Value},σ.read ρ=some x->(σ.vals x []).get t=some v->ρ.get t=some v∨False
 |[],_,_,_,_,_,h=>by simp[dC.vals,Env.get]at h
 |[s],ρ,x,t,v,h,hv=>by
  simp only[dC.read]at h;split at h
  ·rename_i u c;simp only[dC.vals,Env.get]at hv;cases hb:wz s.1 t with
   |true=>
    rw[hb]at hv;have:=zF hb;simp at hv;subst hv;rw[<-Ty.rQ h,<-this];exact .inl c
   |false=>rw[hb]at hv;simp at hv
  ·cases h
 |s::u::r,ρ,x,t,v,h,hv=>by
  simp only[dC.read]at h;split at h
  ·rename_i z d;split at h
   ·rename_i y b;split at h
    ·rename_i w a;cases h;simp only[dC.vals,Env.get]at hv;cases hb:wz s.1 t with
     |true=>
      rw[hb]at hv;have:=zF hb;simp at hv;subst hv;rw[<-Ty.rQ b,<-this];exact .inl d
     |false=>
      rw[hb]at hv;exact dC.Sb (σ:=u::r) a hv
    ·cases h
   ·cases h
  ·cases h
theorem Fits.rR{n:Nat}{a d:Act}{σ:dC}{κ:cU}{ρ g:Env}{x:σ.den}(k:Fits n a ρ)(h:Fits n d g)
  (b:∀t,σ.has t=false->(κ.over []).dW t=false->d.tmps[t]?=a.tmps[t]?) (l:σ.read g=some x):
  Fits n d (σ.vals x (κ.over ρ))/\Ext ρ (σ.vals x (κ.over ρ)) a d:=by
 rw[dC.Ke,cU.RZ];refine⟨⟨h.size,h.defers,fun t v c=>?_⟩,⟨σ.vals x []++κ.over [],by simp,fun t f=>?_⟩⟩
 ·cases h1:σ.has t with
  |true=>
   have:∀(e:Env),((σ.vals x [])++e).get t=(σ.vals x []).get t:=fun e=>dC.Sa σ x e t h1;rw[this]at c;rcases dC.Sb l c with h2|h2
   ·exact h.get t v h2
   ·exact h2.elim
  |false=>
   rw[Env.get_append (by rw[dC.AQ];exact h1)]at c;cases h2:(κ.over []).dW t with
   |true=>
    have:∀(e:Env),((κ.over [])++e).get t=none:=by
     intro e;clear b c
     induction κ with
     |nil=>simp[cU.over,Env.dW]at h2
     |cons p r ih=>
      obtain⟨j,i⟩:=p;simp only[cU.over,Env.dW,bY.dW]at h2;simp only[cU.over,zx,Env.get];cases hb:(vV j t&&vF t i)with
      |true=>rfl
      |false=>rw[hb]at h2;simp at h2;simpa using ih h2
    rw[this]at c;cases c
   |false=>
    rw[Env.get_append h2]at c;rw[b t h1 h2];exact k.get t v c
 ·rw[Env.BF,yc,dC.AQ]at f;exact b t f.1 f.2
theorem Ext.within{a e:Act}{σ:dC}{κ:cU}{ρ c:Env}(i:Ext ρ c a e)(d:within σ κ c (c.length-ρ.length)=true):
  ∀t,σ.has t=false->(κ.over []).dW t=false->e.tmps[t]?=a.tmps[t]?:=by
 obtain⟨δ,rfl,f⟩:=i;have b:(δ++ρ).length-ρ.length=δ.length:=by simp
 rw[b]at d;exact fun t h g=>f t (bW d t h g)
theorem Ext.rR{a b:Act}{σ:dC}{κ:cU}{ρ:Env}{x:σ.den}(g:Ext ρ (σ.vals x (κ.over ρ)) a b):
  ∀t,σ.has t=false->(κ.over []).dW t=false->b.tmps[t]?=a.tmps[t]?:=by
 obtain⟨δ,c,d⟩:=g;rw[dC.Ke,cU.RZ,<-qp]at c;have:=List.append_cancel_right c;subst this;exact fun t f e=>d t (by rw[Env.BF,dC.AQ,f,e];rfl)
inductive Ju where
 |int (k:IntKind)|bool|str|flt|cpx|mp|fn|other
 |slice (e:TypeId)|array (n:Nat) (e:TypeId)|struct (fs:List (Nat×TypeId))|ptr (e:TypeId)
def iQ:Option TypeDesc->Ju
 |some (.int k)=>.int k
 |some .bool=>.bool
 |some .string=>.str
 |some (.float _)=>.flt
 |some (.complex _)=>.cpx
 |some (.map ..)=>.mp
 |some (.func ..)=>.fn
 |some (.slice e)=>.slice e
 |some (.array n e)=>.array n e
 |some (.struct fs)=>.struct (fs.toList.map fun f=>(f.offset,f.type))
 |some (.pointer e)=>.ptr e
 |_=>.other
structure TI where
 cG:Ju
 ty:Ty
 size:Nat
 bytes:Nat
 zero:List Value
abbrev mh:=List TI
def mh.seen(P:Program)(t:TypeId):Ju×Option (Nat×Nat×Option (List Value)):=
 (iQ (P.underlying t),(P.info? t).map fun i=>(i.size,i.bytes,i.zero.map (·.cells.toList)))
def mh.told(i:TI):Ju×Option (Nat×Nat×Option (List Value)):=(i.cG,some (i.size,i.bytes,some i.zero))
def mh.get:mh->Nat->Option TI
 |[],_=>none
 |i::_,0=>some i
 |_::r,t+1=>mh.get r t
structure CB where
 P:Program
 T:mh
structure CB.Ok (C:CB):Prop where
 tbl:(qC C.T.length).map (mh.seen C.P)=C.T.map mh.told
 mixed:C.P.follows .mixedOrders=true
theorem mh.get_eq:∀(T:mh) (t:Nat),T.get t=T[t]?
 |[],_=>rfl
 |_::_,0=>rfl
 |_::r,t+1=>by simp[mh.get,mh.get_eq r t]
theorem CB.Ok.at{C:CB}(h:C.Ok){t:Nat}{i:TI}(a:C.T.get t=some i):mh.seen C.P t=mh.told i:=by
 rw[mh.get_eq]at a;have b:t<C.T.length:=(qm.1 a).1;have:=congrArg (·[t]?) h.tbl;simp[b]at this;rw[this,(qm.1 a).2]
def Br(b:Bool)(A B:Prop):Prop:=match b with
 |true=>A
 |false=>B
inductive PV:Type 1 where
 |no
 |val (v:Value)
 |cond (c:Prop) (v:Value)
 |ex (X:Type) (c:X->Prop) (v:X->Value)
 |br (b:Bool) (x y:Value)
def PV.holds(p:PV)(K:Value->Prop):Prop:=match p with
 | .no=>False
 | .val v=>K v
 | .cond c v=>c/\K v
 | .ex _ c v=>∃x,c x/\K (v x)
 | .br b x y=>Br b (K x) (K y)
def sS(P:Program)(s:Sem Next)(v:Value):Prop:=∀w,s.run P w=.ok (.value v) w
def aI{α:Type}(P:Program)(s:Sem α)(v:α):Prop:=∀w,s.run P w=.ok v w
def kI(P:Program)(op:BinOp)(t:TypeId)(x y:Operand)(a b r:Value):Prop:=aI P (do eqGuard op t x y a b;binOp op t a b) r
def aeJ:Operand->Bool
 | .tmp _=>true
 |_=>false
def acM(P:Program)(t:TypeId)(x y:Operand)(d:Option Ju)(op:BinOp):Value->Value->PV
 | .int k a,.int k' b=>
  match op with
  | .shl=>.cond (0<=b) (.int k (k.wrap (a*2^min b.toNat k.bits)))
  | .shr=>.cond (0<=b) (.int k (a.fdiv (2^min b.toNat k.bits)))
  |_=>bif Cz k k' then
   match op with
   | .add=>.val (.int k (k.wrap (a+b)))
   | .sub=>.val (.int k (k.wrap (a-b)))
   | .mul=>.val (.int k (k.wrap (a*b)))
   | .quo=>.cond (b≠0) (.int k (k.wrap (a.tdiv b)))
   | .rem=>.cond (b≠0) (.int k (a.tmod b))
   | .and=>.val (.int k (k.wrap (qA k.bits a&&&qA k.bits b).toNat))
   | .or=>.val (.int k (k.wrap (qA k.bits a|||qA k.bits b).toNat))
   | .xor=>.val (.int k (k.wrap (qA k.bits a^^^qA k.bits b).toNat))
   | .andNot=>.val (.int k (k.wrap (qA k.bits a&&&~~~qA k.bits b).toNat))
   | .eql=>.val (.bool (a==b))
   | .neq=>.val (.bool (a !=b))
   | .lss=>.val (.bool (decide (a<b)))
   | .leq=>.val (.bool (decide (a<=b)))
   | .gtr=>.val (.bool (decide (a>b)))
   | .geq=>.val (.bool (decide (a>=b)))
   |_=>.no
  else .no
 | .float k a,.float k' b=>bif Gi k k' then
   match op with
   | .add=>.ex Nat (fun r=>k.format.add a b=some r) (fun r=>.float k r)
   | .sub=>.ex Nat (fun r=>k.format.sub a b=some r) (fun r=>.float k r)
   | .mul=>.ex Nat (fun r=>k.format.mul a b=some r) (fun r=>.float k r)
   | .quo=>.ex Nat (fun r=>k.format.div a b=some r) (fun r=>.float k r)
   | .eql=>.val (.bool (k.format.order a b==some .eq))
   | .neq=>.val (.bool (k.format.order a b !=some .eq))
   | .lss=>.val (.bool (k.format.order a b==some .lt))
   | .gtr=>.val (.bool (k.format.order a b==some .gt))
   |_=>.no
  else .no
 | .string a,.string b=>
  match op with
  | .eql=>.val (.bool (a.toList==b.toList))
  | .neq=>.val (.bool (!(a.toList==b.toList)))
  | .lss=>.val (.bool (Op.bytesLess a.toList b.toList))
  | .leq=>.val (.bool (Op.bytesLess a.toList b.toList||a.toList==b.toList))
  | .gtr=>.val (.bool (!(Op.bytesLess a.toList b.toList||a.toList==b.toList)))
  | .geq=>.val (.bool (!(Op.bytesLess a.toList b.toList)))
  | .add=>.cond (((a.size+b.size:Nat):Int)<=xh.max) (.string (a++b))
  |_=>.no
 | .bool a,.bool b=>
  match d with
  |some .bool=>match op with
   | .eql=>.val (.bool (a==b))
   | .neq=>.val (.bool (!(a==b)))
   |_=>.no
  |_=>.no
 | .pointer a,.pointer b=>bif aeJ y then .ex Bool (fun r=>kI P op t x y (.pointer a) (.pointer b) (.bool r)) (fun r=>.bool r)else
  match b with
  |none=>match d with
   |some (.ptr _)=>match op with
    | .eql=>.val (.bool a.isNone)
    | .neq=>.val (.bool (!a.isNone))
    |_=>.no
   |_=>.no
  |some _=>.no
 | .slice a _ _,.slice none _ _=>
  match d with
  |some (.slice _)=>match op with
   | .eql=>.val (.bool a.isNone)
   | .neq=>.val (.bool (!a.isNone))
   |_=>.no
  |_=>.no
 | .agg a,.agg b=>.ex Bool (fun r=>kI P op t x y (.agg a) (.agg b) (.bool r)) (fun r=>.bool r)
 | .complex k a b,.complex k' c e=>
  match op with
  | .eql| .neq=>.ex Bool (fun r=>kI P op t x y (.complex k a b) (.complex k' c e) (.bool r)) (fun r=>.bool r)
  |_=>.ex (Nat×Nat) (fun r=>kI P op t x y (.complex k a b) (.complex k' c e) (.complex k r.1 r.2)) (fun r=>.complex k r.1 r.2)
 |_,_=>.no
def unV(op:UnOp):Value->PV
 | .bool b=>match op with
  | .not=>.val (.bool !b)
  |_=>.no
 | .int k n=>match op with
  | .neg=>.val (.int k (k.wrap (0-n)))
  | .xor=>.val (.int k (k.wrap (qA k.bits (if k.signed then-1 else k.max)^^^qA k.bits n).toNat))
  |_=>.no
 |_=>.no
def rC(ev:Operand->Option Value):List Operand->Option (List Value)
 |[]=>some []
 |x::r=>match ev x with
  |some v=>match rC ev r with
   |some vs=>some (v::vs)
   |none=>none
  |none=>none
def Gk(ev:Operand->Option Value):List (Nat×Operand)->Option (List (Nat×Value))
 |[]=>some []
 |(n,x)::r=>match ev x with
  |some v=>match Gk ev r with
   |some vs=>some ((n,v)::vs)
   |none=>none
  |none=>none
def placesOf(T:mh):List (Nat×TypeId)->Option (List (Nat×Nat))
 |[]=>some []
 |(off,t)::r=>match T.get t with
  |some j=>match placesOf T r with
   |some ps=>some ((off,j.size)::ps)
   |none=>none
  |none=>none
def Lk(ev:Operand->Option Value):Option Operand->Option (Option Int)
 |none=>some none
 |some x=>match ev x with
  |some (.int _ n)=>some (some n)
  |_=>none
def agr(d:Option Ju):Value->PV
 | .slice _ n _=>match d with
  |some (.slice _)=>.val (.int .i64 n)
  |_=>.no
 | .string s=>match d with
  |some .str=>.val (.int .i64 s.size)
  |_=>.no
 |_=>.no
def ags(d:Option Ju):Value->PV
 | .slice _ _ n=>match d with
  |some (.slice _)=>.val (.int .i64 n)
  |_=>.no
 |_=>.no
def aeK(d:Option Ju):Value->PV
 | .int _ n=>match d with
  |some (.int k)=>.val (.int k (k.wrap n))
  |_=>.no
 |_=>.no
def CC(P:Program)(T:mh)(op:Op)(ev:Operand->Option Value):PV:=
 match op with
 | .move x| .assign x=>match ev x with
  |some v=>.val v
  |none=>.no
 | .pick c a b=>match ev c,ev a,ev b with
  |some (.bool t),some x,some y=>.br t x y
  |_,_,_=>.no
 | .nilCheck x=>match ev x with
  |some (.pointer p)=>.ex Addr (fun a=>p=some a) (fun a=>.pointer (some a))
  |_=>.no
 | .fieldAddr s x f=>match ev x with
  |some (.pointer (some a))=>match T.get s with
   |some i=>match i.cG with
    | .struct fs=>match fs[f]? with
     |some (off,t)=>match T.get t with
      |some j=>bif wz j.size 0 then .no else .val (.pointer (some (a.add off)))
      |none=>.no
     |none=>.no
    |_=>.no
   |none=>.no
  |_=>.no
 | .indexAddr t x ix=>match ev ix with
  |some (.int _ n)=>match ev x with
   |some (.slice p len _)=>match T.get t with
    |some i=>match i.cG with
     | .slice e=>match T.get e with
      |some j=>.ex Addr (fun a=>p=some a/\0<=n/\n<(len:Int)) (fun a=>.pointer (some (a.add (n.toNat*j.size))))
      |none=>.no
     |_=>.no
    |none=>.no
   |some (.pointer (some a))=>match T.get t with
    |some i=>match i.cG with
     | .array m e=>match T.get e with
      |some j=>.cond (0<=n/\n<(m:Int)) (.pointer (some (a.add (n.toNat*j.size))))
      |none=>.no
     |_=>.no
    |none=>.no
   |_=>.no
  |_=>.no
 | .index t x ix=>match ev ix with
  |some (.int _ n)=>match ev x with
   |some (.string s)=>match T.get t with
    |some i=>match i.cG with
     | .str=>.ex UInt8 (fun b=>0<=n/\s.data[n.toNat]?=some b) (fun b=>.int .u8 b.toNat)
     |_=>.no
    |none=>.no
   |some (.agg cs)=>match T.get t with
    |some i=>match i.cG with
     | .array m e=>match T.get e with
      |some j=>match j.ty with
       | .sc s=>match j.cG with
        | .struct _=>.no
        | .array _ _=>.no
        | .other=>.no
        |_=>bif wz j.size 1 then .ex s.den (fun y=>0<=n/\n<(m:Int)/\cs[n.toNat]?=some (s.enc y)) (fun y=>s.enc y)else .no
       |_=>.no
      |none=>.no
     |_=>.no
    |none=>.no
   |_=>.no
  |_=>.no
 | .field s x f=>match ev x with
  |some (.agg ⟨cs⟩)=>match T.get s with
   |some i=>match i.cG with
    | .struct fs=>match fs[f]? with
     |some (off,t)=>match T.get t with
      |some j=>match j.cG with
       | .struct _=>.val (.agg ((cs.drop off).take j.size).toArray)
       | .array _ _=>.val (.agg ((cs.drop off).take j.size).toArray)
       | .other=>.no
       |_=>match cs[off]? with
        |some v=>.val v
        |none=>.no
      |none=>.no
     |none=>.no
    |_=>.no
   |none=>.no
  |_=>.no
 | .slice t x lo hi mx=>match mx with
  |some _=>.no
  |none=>match Lk ev lo,Lk ev hi with
   |some l,some r=>match ev x with
    |some (.slice p len cap)=>match T.get t with
     |some i=>match i.cG with
      | .slice e=>match T.get e with
       |some j=>match l,r with
        |none,none=>.val (.slice p len cap)
        |none,some r=>.cond (0<=r/\r<=(cap:Int)) (.slice p r.toNat cap)
        |some l,none=>.cond (0<=l/\l<=(len:Int)) (.slice (if cap=l.toNat then p else p.map (·.add (l.toNat*j.size))) (len-l.toNat) (cap-l.toNat))
        |some l,some r=>.cond (0<=l/\l<=r/\r<=(cap:Int)) (.slice (if cap=l.toNat then p else p.map (·.add (l.toNat*j.size))) (r.toNat-l.toNat) (cap-l.toNat))
       |none=>.no
      |_=>.no
     |none=>.no
    |some (.string s)=>match T.get t with
     |some i=>match i.cG with
      | .str=>match l,r with
       |none,none=>.val (.string (s.extract 0 s.size))
       |none,some r=>.cond (0<=r/\r<=(s.size:Int)) (.string (s.extract 0 r.toNat))
       |some l,none=>.cond (0<=l/\l<=(s.size:Int)) (.string (s.extract l.toNat s.size))
       |some l,some r=>.cond (0<=l/\l<=r/\r<=(s.size:Int)) (.string (s.extract l.toNat r.toNat))
      |_=>.no
     |none=>.no
    |some (.pointer (some a))=>match T.get t with
     |some i=>match i.cG with
      | .array n e=>match T.get e with
       |some j=>match l,r with
        |none,none=>.val (.slice (some a) n n)
        |none,some r=>.cond (0<=r/\r<=(n:Int)) (.slice (some a) r.toNat n)
        |some l,none=>.cond (0<=l/\l<=(n:Int)) (.slice (some (if n=l.toNat then a else a.add (l.toNat*j.size))) (n-l.toNat) (n-l.toNat))
        |some l,some r=>.cond (0<=l/\l<=r/\r<=(n:Int)) (.slice (some (if n=l.toNat then a else a.add (l.toNat*j.size))) (r.toNat-l.toNat) (n-l.toNat))
       |none=>.no
      |_=>.no
     |none=>.no
    |_=>.no
   |_,_=>.no
 | .extract x n=>match ev x with
  |some (.tuple ⟨vs⟩)=>match vs[n]? with
   |some v=>.val v
   |none=>.no
  |_=>.no
 | .binOp op t x y _=>match ev x,ev y with
  |some a,some b=>acM P t x y ((T.get t).map (·.cG)) op a b
  |_,_=>.no
 | .unOp op _ x=>match ev x with
  |some v=>unV op v
  |none=>.no
 | .convert src dst x=>match ev x,(T.get src).map TI.cG with
  |some v,some (Ju.int _)=>aeK ((T.get dst).map (·.cG)) v
  |_,_=>.no
 | .build t parts=>match Gk ev parts.toList with
  |some vs=>match T.get t with
   |some i=>bif vF 24 i.size then .ex Value (fun v=>aI P (vI t vs.toArray) v) (fun v=>v)else match i.cG with
    | .struct fs=>match placesOf T fs with
     |some ps=>match wu (fun n=>ps[n]?) i.zero.toArray vs with
      |some cells=>.val (.agg cells)
      |none=>.no
     |none=>.no
    | .array _ e=>match T.get e with
     |some j=>match wu (fun n=>some (n*j.size,j.size)) i.zero.toArray vs with
      |some cells=>.val (.agg cells)
      |none=>.no
     |none=>.no
    |_=>.no
   |none=>.no
  |none=>.no
 | .makeFunc fn first captured=>match rC ev first.toList,rC ev captured.toList with
  |some a,some b=>.val (.func fn a.toArray b.toArray)
  |_,_=>.no
 | .call c=>match c.callee with
  | .builtin b=>match b with
   | .len=>match c.argTypes.toList,c.args.toList with
    |t::_,[x]=>match ev x with
     |some v=>agr ((T.get t).map (·.cG)) v
     |none=>.no
    |_,_=>.no
   | .cap=>match c.argTypes.toList,c.args.toList with
    |t::_,[x]=>match ev x with
     |some v=>ags ((T.get t).map (·.cG)) v
     |none=>.no
    |_,_=>.no
   | .min=>match rC ev c.args.toList with
    |some [.int k a,.int _ b]=>.val (.int k (if b<a then b else a))
    |_=>.no
   | .max=>match rC ev c.args.toList with
    |some [.int k a,.int _ b]=>.val (.int k (if b>a then b else a))
    |_=>.no
   | .real=>match rC ev c.args.toList with
    |some [.complex k a _]=>.val (.float k a)
    |_=>.no
   | .imag=>match rC ev c.args.toList with
    |some [.complex k _ b]=>.val (.float k b)
    |_=>.no
   |_=>.no
  |_=>.no
 |_=>.no
theorem aI.next{P:Program}{s:Sem Value}{v:Value}(h:aI P s v):sS P (do pure (.value (<-s))) v:=fun w=>by
 rw[Sem.run_bind,h w];rfl
theorem aI.pure{α:Type}{P:Program}{v:α}:aI P (pure v) v:=fun _=>rfl
theorem aI.bind{α β:Type}{P:Program}{s:Sem α}{f:α->Sem β}{v:α}{u:β}(h:aI P s v)(k:aI P (f v) u):aI P (s>>=f) u:=fun w=>by
 rw[Sem.run_bind,h w];exact k w
theorem ID{d:Option TypeDesc}{k:IntKind}(h:iQ d=.int k):d=some (.int k):=by
 unfold iQ at h;split at h<;>cases h;rfl
theorem acN{d:Option TypeDesc}(h:iQ d=.bool):d=some .bool:=by
 unfold iQ at h;split at h<;>cases h;rfl
theorem wf{d:Option TypeDesc}(h:iQ d=.str):d=some .string:=by
 unfold iQ at h;split at h<;>cases h;rfl
theorem jd{d:Option TypeDesc}{e:TypeId}(h:iQ d=.slice e):d=some (.slice e):=by
 unfold iQ at h;split at h<;>cases h;rfl
theorem sT{d:Option TypeDesc}{n:Nat}{e:TypeId}(h:iQ d=.array n e):d=some (.array n e):=by
 unfold iQ at h;split at h<;>cases h;rfl
theorem afi{d:Option TypeDesc}{e:TypeId}(h:iQ d=.ptr e):d=some (.pointer e):=by
 unfold iQ at h;split at h<;>cases h;rfl
theorem py{d:Option TypeDesc}{b:List (Nat×TypeId)}(h:iQ d=.struct b):∃a,d=some (.struct a)/\b=a.toList.map fun f=>(f.offset,f.type):=by
 unfold iQ at h;split at h<;>cases h;exact⟨_,rfl,rfl⟩
section
variable {C:CB} {t:TypeId} {i:TI}
theorem CB.Ok.cG(h:C.Ok)(a:C.T.get t=some i):iQ (C.P.underlying t)=i.cG:=congrArg qJ (h.at a)
theorem CB.Ok.info(h:C.Ok)(d:C.T.get t=some i):∃f,C.P.info? t=some f/\f.size=i.size/\f.bytes=i.bytes/\∃z,f.zero=some z/\z.cells.toList=i.zero:=by
 have:=congrArg zC (h.at d);simp only[mh.seen,mh.told]at this;cases hf:C.P.info? t with
 |none=>rw[hf]at this;cases this
 |some f=>
  rw[hf]at this;simp only[qN,zL.injEq,Prod.mk.injEq]at this;obtain⟨a,b,c⟩:=this;cases hz:f.zero with
  |none=>rw[hz]at c;cases c
  |some z=>rw[hz]at c;simp at c;exact⟨f,rfl,a,b,z,hz,by simpa using c⟩
theorem aG{P:Program}{t:TypeId}{d:TypeDesc}(h:P.underlying t=some d):aI P (underlying t) d:=fun w=>by
 simp[underlying,h]
theorem cK{P:Program}{t:TypeId}{d:TypeInfo}(h:P.info? t=some d):aI P (typeInfo t) d:=fun w=>by
 simp[typeInfo,h]
theorem dH(h:C.Ok)(b:C.T.get t=some i):aI C.P (sizeOf t) i.size:=by
 obtain⟨f,a,c,_⟩:=h.info b;rw[<-c];exact(cK a).bind .pure
theorem sF(h:C.Ok)(c:C.T.get t=some i):∃z,aI C.P (zeroValue t) z/\z.cells.toList=i.zero:=by
 obtain⟨f,b,_,_,z,a,d⟩:=h.info c;refine⟨z,(cK b).bind ?_,d⟩;rw[a];exact .pure
theorem kJ(h:C.Ok)(f:C.T.get t=some i):(∀b,i.cG=.struct b->aI C.P (isAgg t) true)/\(∀n e,i.cG=.array n e->aI C.P (isAgg t) true)/\
  ((∀b,i.cG≠.struct b)->(∀n e,i.cG≠.array n e)->i.cG≠.other->aI C.P (isAgg t) false):=by
 have a:=h.cG f;refine⟨fun b c=>?_,fun n e c=>?_,fun k j h3=>?_⟩
 ·rw[c]at a;obtain⟨l,g,_⟩:=py a;exact(aG g).bind .pure
 ·rw[c]at a;exact(aG (sT a)).bind .pure
 ·cases hu:C.P.underlying t with
  |none=>rw[hu]at a;exact absurd a.symm h3
  |some d=>
   refine(aG hu).bind ?_;rw[hu]at a;cases d<;>first|exact .pure|(exfalso;simp only[iQ]at a;first|exact k _ a.symm|exact j _ _ a.symm)
end
theorem DJ{ev:Operand->Option Value}{e:Operand->Value}(c:∀x v,ev x=some v->e x=v):∀{l:List Operand} {vs:List Value},rC ev l=some vs->l.map e=vs:=by
 intro l
 induction l with
 |nil=>intro vs h;cases h;rfl
 |cons x r ih=>
  intro vs h;simp only[rC]at h;split at h
  ·rename_i v b;split at h
   ·rename_i us a;cases h;simp[c _ _ b,ih a]
   ·cases h
  ·cases h
theorem Jv{ev:Operand->Option Value}{e:Operand->Value}(c:∀x v,ev x=some v->e x=v):∀{l:List (Nat×Operand)} {vs:List (Nat×Value)},Gk ev l=some vs->l.map (fun p=>(p.1,e p.2))=vs:=by
 intro l
 induction l with
 |nil=>intro vs h;cases h;rfl
 |cons x r ih=>
  intro vs h;obtain⟨n,x⟩:=x;simp only[Gk]at h;split at h
  ·rename_i v b;split at h
   ·rename_i us a;cases h;simp[c _ _ b,ih a]
   ·cases h
  ·cases h
section
variable {P:Program}
theorem Kf(t:TypeId)(x y:Value):Op.equal t x y=Op.equalIn (9999+1) t x y:=rfl
theorem afj{t:TypeId}(c:P.underlying t=some .bool)(d:Nat)(a b:Bool):aI P (Op.equalIn (d+1) t (.bool a) (.bool b)) (a==b):=fun w=>by
 simp[Op.equalIn,underlying,c]
theorem agt{t e:TypeId}(b:P.underlying t=some (.pointer e))(d:Nat)(a:Option Addr):aI P (Op.equalIn (d+1) t (.pointer a) (.pointer none)) a.isNone:=fun w=>by
 cases a<;>simp[Op.equalIn,underlying,b]
theorem acO{t e:TypeId}(b:P.underlying t=some (.slice e))(d:Nat)(a:Option Addr)(l c f g:Nat):aI P (Op.equalIn (d+1) t (.slice a l c) (.slice none f g)) a.isNone:=fun w=>by
 cases a<;>simp[Op.equalIn,underlying,b]
theorem XO{t:TypeId}{d:Option Ju}{op:BinOp}{a b:Value}{x y:Operand}{K:Value->Prop}(o:∀q,d=some q->iQ (P.underlying t)=q)
  (h:(acM P t x y d op a b).holds K):∃v,aI P (do eqGuard op t x y a b;binOp op t a b) v/\K v:=by
 have j:∀{a b:Value},¬(a=.nilIface/\b=.nilIface)->(∀u v,¬(a=.agg u/\b=.agg v))->aI P (eqGuard op t x y a b) ():=by
  intro a b i f w;simp only[eqGuard];cases op<;>simp only[wW,wY,ze,if_true,if_false]<;>
   first
    |rfl
    |(split<;>first|exact absurd ⟨rfl,rfl⟩ i|exact absurd ⟨rfl,rfl⟩ (f _ _)|rfl)
 unfold acM at h;split at h
 ·rename_i k a m b;have g:=j (a:=.int k a) (b:=.int m b) (by simp) (by simp);cases op<;>simp only at h
  case shl=>exact⟨_,g.bind fun w=>by simp only[binOp,Op.shift];rw[if_neg (by have:=h.1;omega)];rfl,h.2⟩
  case shr=>exact⟨_,g.bind fun w=>by simp only[binOp,Op.shift];rw[if_neg (by have:=h.1;omega)];rfl,h.2⟩
  all_goals
   cases hk:Cz k m with
   |false=>rw[hk]at h;simp[PV.holds]at h
   |true=>
    rw[hk]at h;simp only[cond_true,PV.holds]at h;have e:=Jt hk;subst e
    first
     |exact⟨_,g.bind fun w=>by simp[binOp,Op.intArith,Op.intBits,Op.intCmp],h⟩
     |exact⟨_,g.bind fun w=>by simp[binOp,Op.intDiv,h.1],h.2⟩
     |exact h.elim
 ·rename_i k a m b;have g:=j (a:=.float k a) (b:=.float m b) (by simp) (by simp);cases hk:Gi k m with
  |false=>rw[hk]at h;simp[PV.holds]at h
  |true=>
   rw[hk]at h;have e:=Gj hk;subst e;cases op<;>simp only[cond_true,PV.holds]at h<;>
    first
     |(obtain⟨r,i,f⟩:=h;exact⟨_,g.bind fun w=>by simp[binOp,Op.floatArith,i],f⟩)
     |exact⟨_,g.bind fun w=>by simp[binOp,Op.floatCmp],h⟩
     |exact h.elim
 ·rename_i a b;have g:=j (a:=.string a) (b:=.string b) (by simp) (by simp);cases op<;>simp only[PV.holds]at h<;>
   first
    |exact⟨_,g.bind fun w=>by simp[binOp,Op.stringOp],h⟩
    |exact⟨_,g.bind fun w=>by simp only[binOp,Op.stringOp];rw[if_neg (by have:=h.1;omega)];rfl,h.2⟩
    |exact h.elim
 ·rename_i a b;have g:=j (a:=.bool a) (b:=.bool b) (by simp) (by simp);split at h
  ·have n:=acN (o _ rfl);cases op<;>simp only[PV.holds]at h<;>
    first
     |exact⟨_,g.bind (by simp only[binOp,Kf];exact(afj n _ a b).bind .pure),h⟩
     |exact h.elim
  ·exact h.elim
 ·rename_i a b;cases hy:aeJ y with
  |true=>
   rw[hy]at h;obtain⟨r,i,f⟩:=h;exact⟨_,i,f⟩
  |false=>
   rw[hy]at h;cases b with
   |some _=>exact h.elim
   |none=>
    have g:=j (a:=.pointer a) (b:=.pointer none) (by simp) (by simp);simp only[cond_false]at h;split at h
    ·rename_i e;have n:=afi (o _ rfl);cases op<;>simp only[PV.holds]at h<;>
      first
       |exact⟨_,g.bind (by simp only[binOp,Kf];exact(agt n _ a).bind .pure),h⟩
       |exact h.elim
    ·exact h.elim
 ·rename_i a l c p s;have g:=j (a:=.slice a l c) (b:=.slice none p s) (by simp) (by simp);split at h
  ·rename_i e;have n:=jd (o _ rfl);cases op<;>simp only[PV.holds]at h<;>
    first
     |exact⟨_,g.bind (by simp only[binOp,Kf];exact(acO n _ a l c p s).bind .pure),h⟩
     |exact h.elim
  ·exact h.elim
 ·obtain⟨r,i,f⟩:=h;exact⟨_,i,f⟩
 ·split at h
  ·obtain⟨r,i,f⟩:=h;exact⟨_,i,f⟩
  ·obtain⟨r,i,f⟩:=h;exact⟨_,i,f⟩
  ·obtain⟨r,i,f⟩:=h;exact⟨_,i,f⟩
 ·exact h.elim
end
theorem Se(a:List Value)(off n:Nat):((a.drop off).take n).toArray=(a.toArray).extract off (off+n):=by
 apply yj;simp[List.extract_eq_take_drop]
section
variable {C:CB} {ev:Operand->Option Value} {e:Operand->Value}
theorem nT(b:C.Ok):∀{c:List Field} {a:List (Nat×Nat)},placesOf C.T (c.map fun f=>(f.offset,f.type))=some a->
  aI C.P (c.mapM fun f=>(do pure (f.offset,<-sizeOf f.type):Sem (Nat×Nat))) a
 |[],a,h=>by cases h;exact .pure
 |f::r,a,h=>by
  simp only[zT,placesOf]at h;split at h
  ·rename_i j e;split at h
   ·rename_i g d;cases h;rw[List.mapM_cons];exact aI.bind ((dH b e).bind .pure) ((nT b d).bind .pure)
   ·cases h
  ·cases h
theorem Jw(c:C.Ok){t:TypeId}{j:TI}(b:C.T.get t=some j)(h:∀f,j.cG≠.struct f)(g:∀n e,j.cG≠.array n e)(h3:j.cG≠.other)
  {a:Array Value} {off:Nat} {v:Value} (d:a[off]?=some v):aI C.P (part t a off) v:=by
 refine((kJ c b).2.2 h g h3).bind ?_;rw[d];exact .pure
theorem Sf(b:C.Ok){t:TypeId}{j:TI}(a:C.T.get t=some j)(h:(∃c,j.cG=.struct c)∨∃n e,j.cG=.array n e)
  {d:Array Value} {off:Nat}:aI C.P (part t d off) (.agg (d.extract off (off+j.size))):=by
 have f:aI C.P (isAgg t) true:=by
  rcases h with⟨c,h⟩|⟨n,e,h⟩
  ·exact(kJ b a).1 c h
  ·exact(kJ b a).2.1 n e h
 exact f.bind ((dH b a).bind .pure)
theorem Ll(J:C.Ok)(G:∀x v,ev x=some v->e x=v){o:Oper}{K:Value->Prop}(h:(CC C.P C.T o.op ev).holds K):
  ∃v,sS C.P (execOp e o) v/\K v:=by
 have M:∀t q,(C.T.get t).map (·.cG)=some q->iQ (C.P.underlying t)=q:=fun t q h=>by
  cases F:C.T.get t with
  |none=>rw[F]at h;cases h
  |some i=>rw[F]at h;cases h;exact J.cG F
 cases hop:o.op<;>rw[hop]at h<;>simp only[CC]at h<;>simp only[execOp,hop]
 case move x=>
  split at h
  ·rename_i v A;rw[G _ _ A];exact⟨v,fun _=>rfl,h⟩
  ·exact h.elim
 case assign x=>
  split at h
  ·rename_i v A;rw[G _ _ A];exact⟨v,fun _=>rfl,h⟩
  ·exact h.elim
 case pick c a b=>
  split at h
  ·rename_i t x y Q h2 h3;rw[G _ _ Q,G _ _ h2,G _ _ h3];cases t
   ·exact⟨y,fun _=>rfl,h⟩
   ·exact⟨x,fun _=>rfl,h⟩
  ·exact h.elim
 case nilCheck x=>
  split at h
  ·rename_i p hp;obtain⟨a,rfl,B⟩:=h;rw[G _ _ hp];exact⟨_,fun _=>rfl,B⟩
  ·exact h.elim
 case fieldAddr s x f=>
  split at h
  ·rename_i a ha;rw[G _ _ ha];split at h
   ·rename_i i F;split at h
    ·rename_i fs Y;split at h
     ·rename_i off t am;split at h
      ·rename_i j R;cases hz:wz j.size 0 with
       |true=>rw[hz]at h;exact h.elim
       |false=>
        rw[hz]at h;have E:=J.cG F;rw[Y]at E;obtain⟨gs,hg,rfl⟩:=py E;simp only[qP,yU]at am;obtain⟨g,ap,a0⟩:=am;cases a0;refine⟨_,aI.next ((aG hg).bind ?_),h⟩;have ah:gs[f]?=some g:=by simpa using ap
        simp only[ah];refine aI.bind (v:=a) .pure (aI.bind (v:=a.add g.offset) ?_ .pure);unfold fieldPlace;refine(dH J R).bind ?_;have:j.size≠0:=fun e=>by rw[e]at hz;cases hz
        rw[if_neg this];exact .pure
      ·exact h.elim
     ·exact h.elim
    ·exact h.elim
   ·exact h.elim
  ·exact h.elim
 case indexAddr t x ix=>
  split at h
  ·rename_i k n hn;rw[G _ _ hn];split at h
   ·rename_i p len cap U;rw[G _ _ U];split at h
    ·rename_i i F;split at h
     ·rename_i el D;split at h
      ·rename_i j R;obtain⟨a,⟨rfl,h0,Q⟩,B⟩:=h;have E:=J.cG F;rw[D]at E;have H:=jd E;refine⟨_,aI.next ?_,B⟩;unfold Instr.indexAt;refine aI.bind (v:=(k,n)) .pure ?_;refine(aG H).bind ?_;refine aI.bind (v:=(some a,len,el)) .pure ?_;intro w;have:=dH J R w;simp only[Sem.run_bind,aG H w,Result.andThen_ok];cases hl:decide (len<=1)<;>simp[h0,Q,this]
      ·exact h.elim
     ·exact h.elim
    ·exact h.elim
   ·rename_i a U;rw[G _ _ U];split at h
    ·rename_i i F;split at h
     ·rename_i m el D;split at h
      ·rename_i j R;obtain⟨⟨h0,Q⟩,B⟩:=h;have E:=J.cG F;rw[D]at E;have H:=sT E;refine⟨_,aI.next ?_,B⟩;unfold Instr.indexAt;refine aI.bind (v:=(k,n)) .pure ?_;refine(aG H).bind ?_;refine aI.bind (v:=(some a,m,el)) .pure ?_;intro w;have:=dH J R w;simp only[Sem.run_bind,aG H w,Result.andThen_ok];cases hl:decide (m<=1)<;>simp[h0,Q,this]
      ·exact h.elim
     ·exact h.elim
    ·exact h.elim
   ·exact h.elim
  ·exact h.elim
 case index t x ix=>
  split at h
  ·rename_i k n hn;rw[G _ _ hn];split at h
   ·rename_i s U;rw[G _ _ U];split at h
    ·rename_i i F;split at h
     ·rename_i D;obtain⟨b,⟨h0,Q⟩,B⟩:=h;have E:=J.cG F;rw[D]at E;have H:=wf E;refine⟨_,aI.next ?_,B⟩;unfold Instr.index;refine aI.bind (v:=(k,n)) .pure ?_;refine(aG H).bind ?_;have hb:s[n.toNat]?=some b:=by
       rw[y0]at Q;obtain⟨a9,hg⟩:=Q;have a6:n.toNat<s.size:=a9;rw[getElem?_pos s n.toNat a6];exact congrArg some hg
      simp only[h0,if_true,hb];exact .pure
     ·exact h.elim
    ·exact h.elim
   ·rename_i cs U;rw[G _ _ U];split at h
    ·rename_i i F;split at h
     ·rename_i m el D;split at h
      ·rename_i j R;split at h
       ·rename_i s hs;have E:=J.cG F;rw[D]at E;have H:=sT E;have ad:(∃y,(0<=n/\n<(m:Int)/\cs[n.toNat]?=some (s.enc y))/\K (s.enc y))->(∀fs,j.cG≠.struct fs)->(∀n e,j.cG≠.array n e)->j.cG≠.other->j.size=1->
          ∃v,sS C.P (do pure (.value (<-Instr.index t (.agg cs) (.int k n)))) v/\K v:=by
         rintro⟨y,⟨h0,Q,h2⟩,B⟩ d1 d2 d3 bd;refine⟨_,aI.next ?_,B⟩;unfold Instr.index;refine aI.bind (v:=(k,n)) .pure ?_;refine(aG H).bind ?_;simp only[h0,Q,and_self,if_true];refine(dH J R).bind ?_;rw[bd,wJ];exact Jw J R d1 d2 d3 h2
        split at h
        ·exact h.elim
        ·exact h.elim
        ·exact h.elim
        ·rename_i d1 d2 d3;cases hz:wz j.size 1 with
         |false=>rw[hz]at h;exact h.elim
         |true=>
          rw[hz]at h;exact ad h d1 d2 d3 (zF hz)
       ·exact h.elim
      ·exact h.elim
     ·exact h.elim
    ·exact h.elim
   ·exact h.elim
  ·exact h.elim
 case field s x f=>
  split at h
  ·rename_i cs U;rw[G _ _ U];split at h
   ·rename_i i F;split at h
    ·rename_i fs Y;split at h
     ·rename_i off t am;split at h
      ·rename_i j R;have E:=J.cG F;rw[Y]at E;obtain⟨gs,hg,rfl⟩:=py E;simp only[qP,yU]at am;obtain⟨g,ap,a0⟩:=am;cases a0;have ah:gs[f]?=some g:=by simpa using ap
       have ad:∀v,aI C.P (part g.type ⟨cs⟩ g.offset) v->K v->∃v,sS C.P (do pure (.value (<-Instr.field s (.agg ⟨cs⟩) f))) v/\K v:=by
        intro v A B;refine⟨v,aI.next ((aG hg).bind ?_),B⟩;simp only[ah];exact aI.bind (v:=(⟨cs⟩:Array Value)) .pure A
       split at h
       ·rename_i b0 a4;refine ad _ (Sf J R (.inl ⟨_,a4⟩)) ?_;rw[<-Se];exact h
       ·rename_i n' e' a4;refine ad _ (Sf J R (.inr ⟨_,_,a4⟩)) ?_;rw[<-Se];exact h
       ·exact h.elim
       ·rename_i d1 d2 d3;split at h
        ·rename_i v A;exact ad v (Jw J R d1 d2 d3 (by simpa using A)) h
        ·exact h.elim
      ·exact h.elim
     ·exact h.elim
    ·exact h.elim
   ·exact h.elim
  ·exact h.elim
 case slice t x V hi0 mx=>
  split at h
  ·exact h.elim
  ·split at h
   ·rename_i l r hl hr;have a5:(V=none/\l=none)∨∃y k m,V=some y/\e y=.int k m/\l=some m:=by
     cases V with
     |none=>cases hl;exact .inl ⟨rfl,rfl⟩
     |some y=>
      simp only[Lk]at hl;split at hl
      ·rename_i k m hm;cases hl;exact .inr ⟨y,k,m,rfl,G _ _ hm,rfl⟩
      ·cases hl
    have ax:(hi0=none/\r=none)∨∃y k m,hi0=some y/\e y=.int k m/\r=some m:=by
     cases hi0 with
     |none=>cases hr;exact .inl ⟨rfl,rfl⟩
     |some y=>
      simp only[Lk]at hr;split at hr
      ·rename_i k m hm;cases hr;exact .inr ⟨y,k,m,rfl,G _ _ hm,rfl⟩
      ·cases hr
    have I:∀(bb:Bool) (len cap:Nat) (V F:Option Value) (a b:Nat),(V=none->a=0)->(∀v,V=some v->∃k m,v=.int k m/\0<=m/\a=m.toNat/\m<=(b:Int))->
      (F=none->b=len)->(∀v,F=some v->∃k m,v=.int k m/\0<=m/\b=m.toNat/\m<=(cap:Int))->
      aI C.P (zQ bb len cap V F none) (a,b,cap):=by
     intro bb len cap V F a b Q h2 h3 h4 w;cases F with
     |none=>
      have e1:=h3 rfl;subst e1;cases V with
      |none=>rw[Q rfl];simp[zQ]
      |some v=>
       obtain⟨k,m,rfl,x1,rfl,x2⟩:=h2 v rfl;simp[zQ,va,asIntOf,x1,x2]
     |some u=>
      obtain⟨k',W,rfl,y1,rfl,y2⟩:=h4 u rfl;cases V with
      |none=>rw[Q rfl];simp[zQ,va,asIntOf,y1,y2]
      |some v=>
       obtain⟨k,m,rfl,x1,rfl,x2⟩:=h2 v rfl;have x3:¬max W 0<m:=by omega
       simp[zQ,va,asIntOf,x1,y1,y2,x3]
    split at h
    ·rename_i p len cap U;rw[G _ _ U];split at h
     ·rename_i i F;split at h
      ·rename_i el D;split at h
       ·rename_i j R;have E:=J.cG F;rw[D]at E;have H:=jd E;have fin:∀(a b:Nat) (v:Value),aI C.P (zQ true len cap (V.map e) (hi0.map e) none) (a,b,cap)->
          v=.slice (if cap=a then p else p.map (·.add (a*j.size))) (b-a) (cap-a)->K v->
          ∃v,sS C.P (do pure (.value (<-wE t (.slice p len cap) (V.map e) (hi0.map e) (Option.map e none)))) v/\K v:=by
         intro a b v hb A B;refine⟨v,aI.next ?_,B⟩;unfold wE;refine(aG H).bind ?_;simp only[vJ,Option.map_none];refine(aG H).bind ?_;refine hb.bind ?_;subst A;exact(dH J R).bind .pure
        have ab:(if cap=0 then p else p.map (·.add (0*j.size)))=p:=by
         cases p<;>simp[Addr.add]
        rcases a5 with⟨rfl,rfl⟩|⟨y,k,m,rfl,hy,rfl⟩<;>rcases ax with⟨rfl,rfl⟩|⟨y',k',W,rfl,hy',rfl⟩
        ·exact fin 0 len _ (I _ _ _ _ _ _ _ (fun _=>rfl) (by simp) (fun _=>rfl) (by simp)) (by rw[ab];rfl) h
        ·obtain⟨⟨S,Z⟩,B⟩:=h;exact fin 0 W.toNat _ (I _ _ _ _ _ _ _ (fun _=>rfl) (by simp) (by simp) (fun v A=>by cases A;exact⟨k',W,hy',S,rfl,Z⟩)) (by rw[ab];rfl) B
        ·obtain⟨⟨S,Z⟩,B⟩:=h;exact fin m.toNat len _ (I _ _ _ _ _ _ _ (by simp) (fun v A=>by cases A;exact⟨k,m,hy,S,rfl,Z⟩) (fun _=>rfl) (by simp)) rfl B
        ·obtain⟨⟨S,Z,a3⟩,B⟩:=h;exact fin m.toNat W.toNat _ (I _ _ _ _ _ _ _ (by simp) (fun v A=>by cases A;exact⟨k,m,hy,S,rfl,by omega⟩) (by simp) (fun v A=>by cases A;exact⟨k',W,hy',by omega,rfl,a3⟩)) rfl B
       ·exact h.elim
      ·exact h.elim
     ·exact h.elim
    ·rename_i s U;rw[G _ _ U];split at h
     ·rename_i i F;split at h
      ·rename_i D;have E:=J.cG F;rw[D]at E;have H:=wf E;have fin:∀(a b:Nat) (v:Value),aI C.P (zQ false s.size s.size (V.map e) (hi0.map e) none) (a,b,s.size)->
         v=.string (s.extract a b)->K v->
         ∃v,sS C.P (do pure (.value (<-wE t (.string s) (V.map e) (hi0.map e) (Option.map e none)))) v/\K v:=by
        intro a b v hb A B;refine⟨v,aI.next ?_,B⟩;unfold wE;refine(aG H).bind ?_;simp only[vJ,Option.map_none];refine(aG H).bind ?_;subst A;intro w;simp[hb w]
       rcases a5 with⟨rfl,rfl⟩|⟨y,k,m,rfl,hy,rfl⟩<;>rcases ax with⟨rfl,rfl⟩|⟨y',k',W,rfl,hy',rfl⟩
       ·exact fin 0 s.size _ (I _ _ _ _ _ _ _ (fun _=>rfl) (by simp) (fun _=>rfl) (by simp)) rfl h
       ·obtain⟨⟨S,Z⟩,B⟩:=h;exact fin 0 W.toNat _ (I _ _ _ _ _ _ _ (fun _=>rfl) (by simp) (by simp) (fun v A=>by cases A;exact⟨k',W,hy',S,rfl,Z⟩)) rfl B
       ·obtain⟨⟨S,Z⟩,B⟩:=h;exact fin m.toNat s.size _ (I _ _ _ _ _ _ _ (by simp) (fun v A=>by cases A;exact⟨k,m,hy,S,rfl,Z⟩) (fun _=>rfl) (by simp)) rfl B
       ·obtain⟨⟨S,Z,a3⟩,B⟩:=h;exact fin m.toNat W.toNat _ (I _ _ _ _ _ _ _ (by simp) (fun v A=>by cases A;exact⟨k,m,hy,S,rfl,by omega⟩) (by simp) (fun v A=>by cases A;exact⟨k',W,hy',by omega,rfl,a3⟩)) rfl B
      ·exact h.elim
     ·exact h.elim
    ·rename_i a U;rw[G _ _ U];split at h
     ·rename_i i F;split at h
      ·rename_i n el D;split at h
       ·rename_i j R;have E:=J.cG F;rw[D]at E;have H:=sT E;have fin:∀(a' b:Nat) (v:Value),aI C.P (zQ false n n (V.map e) (hi0.map e) none) (a',b,n)->
          v=.slice (some (if n=a' then a else a.add (a'*j.size))) (b-a') (n-a')->K v->
          ∃v,sS C.P (do pure (.value (<-wE t (.pointer (some a)) (V.map e) (hi0.map e) (Option.map e none)))) v/\K v:=by
         intro a' b v hb A B;refine⟨v,aI.next ?_,B⟩;unfold wE;refine(aG H).bind ?_;simp only[Option.map_none];refine aI.bind (v:=a) .pure ?_;refine hb.bind ?_;subst A;exact(dH J R).bind .pure
        have ab:(if n=0 then a else a.add (0*j.size))=a:=by simp[Addr.add]
        rcases a5 with⟨rfl,rfl⟩|⟨y,k,m,rfl,hy,rfl⟩<;>rcases ax with⟨rfl,rfl⟩|⟨y',k',W,rfl,hy',rfl⟩
        ·exact fin 0 n _ (I _ _ _ _ _ _ _ (fun _=>rfl) (by simp) (fun _=>rfl) (by simp)) (by rw[ab];rfl) h
        ·obtain⟨⟨S,Z⟩,B⟩:=h;exact fin 0 W.toNat _ (I _ _ _ _ _ _ _ (fun _=>rfl) (by simp) (by simp) (fun v A=>by cases A;exact⟨k',W,hy',S,rfl,Z⟩)) (by rw[ab];rfl) B
        ·obtain⟨⟨S,Z⟩,B⟩:=h;exact fin m.toNat n _ (I _ _ _ _ _ _ _ (by simp) (fun v A=>by cases A;exact⟨k,m,hy,S,rfl,Z⟩) (fun _=>rfl) (by simp)) rfl B
        ·obtain⟨⟨S,Z,a3⟩,B⟩:=h;exact fin m.toNat W.toNat _ (I _ _ _ _ _ _ _ (by simp) (fun v A=>by cases A;exact⟨k,m,hy,S,rfl,by omega⟩) (by simp) (fun v A=>by cases A;exact⟨k',W,hy',by omega,rfl,a3⟩)) rfl B
       ·exact h.elim
      ·exact h.elim
     ·exact h.elim
    ·exact h.elim
   ·exact h.elim
 case extract x n=>
  split at h
  ·rename_i vs U;rw[G _ _ U];split at h
   ·rename_i v A;refine⟨v,aI.next ?_,h⟩;have:(⟨vs⟩:Array Value)[n]?=some v:=by simpa using A
    simp only[Instr.extract,this];exact .pure
   ·exact h.elim
  ·exact h.elim
 case binOp op t x y u=>
  split at h
  ·rename_i a b ha hb;rw[G _ _ ha,G _ _ hb];obtain⟨v,A,B⟩:=XO (P:=C.P) (x:=x) (y:=y) (M t) h;exact⟨v,A.next,B⟩
  ·exact h.elim
 case unOp op t x=>
  split at h
  ·rename_i v A;rw[G _ _ A];unfold unV at h;split at h
   ·split at h
    ·exact⟨_,aI.next .pure,h⟩
    ·exact h.elim
   ·split at h
    ·exact⟨_,aI.next .pure,h⟩
    ·exact⟨_,aI.next .pure,h⟩
    ·exact h.elim
   ·exact h.elim
  ·exact h.elim
 case convert s d x=>
  split at h
  ·rename_i v ks A br;rw[G _ _ A];have hs:=ID (M _ _ br);unfold aeK at h;split at h
   ·split at h
    ·rename_i n _ k B;have H:=ID (M _ _ B);refine⟨_,aI.next ?_,h⟩;unfold convert;refine(aG hs).bind ((aG H).bind ?_);exact .pure
    ·exact h.elim
   ·exact h.elim
  ·exact h.elim
 case build t parts=>
  split at h
  ·rename_i vs bk;have hp:(parts.map fun(i,x)=>(i,e x)).toList=vs:=by
    have:=Jv G bk;simpa using this
   split at h
   ·rename_i i F;obtain⟨z,hz,a7⟩:=sF J F;have ao:i.zero.toArray=z.cells:=by rw[<-a7]
    cases hbig:vF 24 i.size with
    |true=>
     rw[hbig]at h;obtain⟨v,A,B⟩:=h;have bq:(parts.map fun(i,x)=>(i,e x))=vs.toArray:=by rw[<-hp]
     refine⟨v,aI.next ?_,B⟩;show aI C.P (vI t (parts.map fun(i,x)=>(i,e x))) v;rw[bq];exact A
    |false=>
    rw[hbig]at h;simp only[cond_false]at h;split at h
    ·rename_i fs Y;have E:=J.cG F;rw[Y]at E;obtain⟨gs,hg,rfl⟩:=py E;split at h
     ·rename_i ps bl;split at h
      ·rename_i cells O;refine⟨_,aI.next (hz.bind ((aG hg).bind ?_)),h⟩;have a8:aI C.P (gs.mapM fun f=>(do pure (f.offset,<-sizeOf f.type):Sem (Nat×Nat))) ps.toArray:=by
        rw[ve];intro w;have:=nT J bl w;rw[map_eq_pure_bind,Sem.run_bind,this];rfl
       refine a8.bind ?_;have ay:wu (fun n=>ps.toArray[n]?) z.cells (parts.map fun(i,x)=>(i,e x)).toList=some cells:=by
        rw[hp,<-ao];simpa using O
       rw[ay];exact .pure
      ·exact h.elim
     ·exact h.elim
    ·rename_i n el Y;have E:=J.cG F;rw[Y]at E;have H:=sT E;split at h
     ·rename_i j R;split at h
      ·rename_i cells O;refine⟨_,aI.next (hz.bind ((aG H).bind ((dH J R).bind ?_))),h⟩;have ay:wu (fun i=>some (i*j.size,j.size)) z.cells (parts.map fun(i,x)=>(i,e x)).toList=some cells:=by
        rw[hp,<-ao];exact O
       rw[ay];exact .pure
      ·exact h.elim
     ·exact h.elim
    ·exact h.elim
   ·exact h.elim
  ·exact h.elim
 case makeFunc fn first captured=>
  split at h
  ·rename_i a b ha hb;have Q:first.map e=a.toArray:=by apply yj;simpa using DJ G ha
   have h2:captured.map e=b.toArray:=by apply yj;simpa using DJ G hb
   refine⟨_,aI.next ?_,h⟩;rw[Q,h2];exact .pure
  ·exact h.elim
 case call c=>
  split at h
  ·rename_i b hb;have L:∀{v:Value},aI C.P (builtin b c.argTypes o.type (c.args.map fun| .const _=>true|_=>false) (c.args.map e)) (.value v)->
     sS C.P (do let d<-resolve e c o.type;invoke d.target d.args) v:=by
    intro v A w;have:=A w;unfold resolve;rw[hb];exact this
   have N:∀{vs:List Value},rC ev c.args.toList=some vs->c.args.map e=vs.toArray:=fun A=>by
    apply yj;simpa using DJ G A
   have X:∀{s:Sem Value} {v:Value},aI C.P s v->aI C.P (do pure (Next.value (<-s))) (.value v):=fun hs=>hs.bind .pure;split at h
   case h_1=>
    split at h
    ·rename_i t ts x Q h2;split at h
     ·rename_i v A;have ha:c.args.map e=#[v]:=by
       apply yj;rw[vE,h2];simp[G _ _ A]
      have ht:c.argTypes[0]?=some t:=by
       rw[<-yY,Q];rfl
      unfold agr at h;split at h
      ·rename_i p n cap;split at h
       ·rename_i el D;have H:=jd (M _ _ D);refine⟨_,L ?_,h⟩;rw[ha];refine X ?_;intro w;simp[vw,ht,underlying,H,goInt]
       ·exact h.elim
      ·rename_i s;split at h
       ·rename_i D;have H:=wf (M _ _ D);refine⟨_,L ?_,h⟩;rw[ha];refine X ?_;intro w;simp[vw,ht,underlying,H,goInt]
       ·exact h.elim
      ·exact h.elim
     ·exact h.elim
    ·exact h.elim
   case h_2=>
    split at h
    ·rename_i t ts x Q h2;split at h
     ·rename_i v A;have ha:c.args.map e=#[v]:=by
       apply yj;rw[vE,h2];simp[G _ _ A]
      have ht:c.argTypes[0]?=some t:=by
       rw[<-yY,Q];rfl
      unfold ags at h;split at h
      ·rename_i p n cap;split at h
       ·rename_i el D;have H:=jd (M _ _ D);refine⟨_,L ?_,h⟩;rw[ha];refine X ?_;intro w;simp[Builtin.cap_,ht,underlying,H,goInt]
       ·exact h.elim
      ·exact h.elim
     ·exact h.elim
    ·exact h.elim
   case h_3=>
    split at h
    ·rename_i k a k' b A;refine⟨_,L ?_,h⟩;rw[N A];refine X ?_;intro w;simp[Builtin.min_,Builtin.min2]
    ·exact h.elim
   case h_4=>
    split at h
    ·rename_i k a k' b A;refine⟨_,L ?_,h⟩;rw[N A];refine X ?_;intro w;simp[Builtin.max_,Builtin.max2]
    ·exact h.elim
   case h_5=>
    split at h
    ·rename_i k a b A;refine⟨_,L ?_,h⟩;rw[N A];exact X .pure
    ·exact h.elim
   case h_6=>
    split at h
    ·rename_i k a b A;refine⟨_,L ?_,h⟩;rw[N A];exact X .pure
    ·exact h.elim
   all_goals exact h.elim
  ·exact h.elim
 all_goals exact h.elim
end
def aj(h:Heap)(a:Addr):Nat->List Value->Prop
 |_,[]=>True
 |n,v::r=>cellOf h (a.add n)=some v/\aj h a (n+1) r
structure AR where
 a:Addr
 ty:Ty
 n:Nat
def AR.holds(r:AR)(h:Heap)(y:r.ty.den):Prop:=
 match r.ty,y with
 | .sc s,y=>cellOf h r.a=some (s.enc y)
 | .agg l,y=>aj h r.a 0 (BE l y)
 | .arr s,y=>y.length=r.n/\aj h r.a 0 (y.map s.enc)
def xt(T:mh)(op:Op)(ev:Operand->Option Value):Option AR:=
 match op with
 | .load t x=>match ev x with
  |some (.pointer (some a))=>match T.get t with
   |some i=>match i.cG with
    | .struct _=>match i.ty with
     | .agg l=>bif wz l.length i.size then some ⟨a,i.ty,i.size⟩else none
     |_=>none
    | .array _ _=>match i.ty with
     | .arr _=>some ⟨a,i.ty,i.size⟩
     |_=>none
    | .other=>none
    |_=>match i.ty with
     | .sc _=>some ⟨a,i.ty,1⟩
     |_=>none
   |none=>none
  |_=>none
 |_=>none
theorem Jx:∀(l:List Sc) (x:NS l),(BE l x).length=l.length
 |[],_=>rfl
 |[_],_=>rfl
 |_::t::r,x=>by simp only[BE,zb];rw[Jx (t::r) x.2];rfl
theorem run_loadCells{P:Program}{w:World}{a:Addr}:∀(vs:List Value) (i:Nat) (b:Array Value),aj w.heap a i vs->
  (loadCellsFrom a i vs.length b).run P w=.ok (b++vs.toArray) w
 |[],i,b,_=>by simp[loadCellsFrom]
 |v::r,i,b,h=>by
  simp only[zb,loadCellsFrom,Sem.run_bind,run_load,NQ,h.1,Result.andThen_ok];rw[run_loadCells r (i+1) (b.push v) h.2];simp
theorem DK{C:CB}(p:C.Ok){ev:Operand->Option Value}{e:Operand->Value}(E:∀x v,ev x=some v->e x=v){o:Oper}{r:AR}
  (b:xt C.T o.op ev=some r) {y:r.ty.den} {w:World} (d:r.holds w.heap y):(execOp e o).run C.P w=.ok (.value (r.ty.enc y)) w:=by
 unfold xt at b;split at b
 ·rename_i t x u;simp only[execOp,u];split at b
  ·rename_i a A;rw[E _ _ A];split at b
   ·rename_i i j;have f:(∀v,(loadVar t a).run C.P w=.ok v w->(do let s<-vL t (.pointer (some a));pure (Next.value s):Sem Next).run C.P w=.ok (.value v) w):=by
     intro v F;have:vL t (.pointer (some a))=loadVar t a:=rfl;rw[this,Sem.run_bind,F];rfl
    split at b
    ·rename_i D g;split at b
     ·rename_i l h;cases hb:wz l.length i.size with
      |false=>rw[hb]at b;cases b
      |true=>
       rw[hb]at b;simp only[cond_true,zL.injEq]at b;subst b;have m:=zF hb;have c:∀(ty:Ty) (y:ty.den),ty=.agg l->AR.holds ⟨a,ty,i.size⟩ w.heap y->(loadVar t a).run C.P w=.ok (ty.enc y) w:=by
        rintro ty y rfl d;unfold loadVar;rw[Sem.run_bind,(kJ p j).1 D g w];simp only[Result.andThen_ok,if_true,Sem.run_bind,dH p j w];have k:=run_loadCells (P:=C.P) (w:=w) (a:=a) (BE l y) 0 #[] d;rw[Jx,m]at k;unfold loadCells;rw[k];simp
       exact f _ (c i.ty y h d)
     ·cases b
    ·rename_i n H g;split at b
     ·rename_i s h;cases b;have c:∀(ty:Ty) (y:ty.den),ty=.arr s->AR.holds ⟨a,ty,i.size⟩ w.heap y->(loadVar t a).run C.P w=.ok (ty.enc y) w:=by
       rintro ty y rfl ⟨h,d⟩;unfold loadVar;rw[Sem.run_bind,(kJ p j).2.1 n H g w];simp only[Result.andThen_ok,if_true,Sem.run_bind,dH p j w];have k:=run_loadCells (P:=C.P) (w:=w) (a:=a) (y.map s.enc) 0 #[] d;rw[qx,h]at k;unfold loadCells;rw[k];simp
      exact f _ (c i.ty y h d)
     ·cases b
    ·cases b
    ·rename_i G B z;split at b
     ·rename_i s h;cases b;have c:∀(ty:Ty) (y:ty.den),ty=.sc s->AR.holds ⟨a,ty,1⟩ w.heap y->(loadVar t a).run C.P w=.ok (ty.enc y) w:=by
       rintro ty y rfl d;have q:cellOf w.heap a=some (s.enc y):=d;unfold loadVar;rw[Sem.run_bind,(kJ p j).2.2 G B z w];simp[NQ,q]
      exact f _ (c i.ty y h d)
     ·cases b
   ·cases b
  ·cases b
 ·cases b
def Typed(t:Ty)(K:Value->Heap->Prop)(v:Value)(h:Heap):Prop:=∃x:t.den,v=t.enc x/\K (t.enc x) h
def Lm(t:Rt)(K:Value->Heap->Prop)(v:Value)(h:Heap):Prop:=∃x:t.den,v=t.enc x/\K (t.enc x) h
def Ln(K:Value->Heap->Prop)(v:Value)(h:Heap):Prop:=∃a:Addr,v=.pointer (some a)/\K (.pointer (some a)) h
def agu(T:mh)(t:TypeId)(tup:List (TypeId×List Ty)):Option Rt:=
 match tup.find? (fun p=>wz p.1 t)with
 |some p=>some (.many p.2)
 |none=>match T.get t with
  |some i=>some (.one i.ty)
  |none=>none
structure Ctx extends CB where
 tup:List (TypeId×List Ty)
 fns:List Bool
structure Ctx.Ok (C:Ctx):Prop extends CB.Ok C.toCB where
 fns:(C.P.funcs.toList.map fun f=>!(f.name== "runtime.NumGoroutine")&&f.body.isSome)=C.fns
def XP(C:Ctx)(g:FuncId)(args:List Value)(t:TypeId)(K:Value->Heap->Prop)(h:Heap):Prop:=
 match C.fns[g]? with
 |some true=>match agu C.T t C.tup with
  |some r=>ae C.P g args.toArray h (Lm r K)
  |none=>False
 |_=>False
def Lo(C:Ctx)(o:Oper)(ev:Operand->Option Value)(K:Value->Heap->Prop)(h:Heap):Prop:=
 match o.op with
 | .store t a x=>match ev a,ev x with
  |some p,some v=>ac C.P (qf t p v) h fun _ h'=>K undef h'
  |_,_=>False
 | .alloc t=>ac C.P (qK t true (.tuple #[])) h (Ln K)
 | .box t x=>match ev x with
  |some v=>ac C.P (qL t v) h (Ln K)
  |none=>False
 | .makeSlice t l c=>match ev l,ev c with
  |some l,some c=>ac C.P (qD t l c) h (Typed (.sc .slc) K)
  |_,_=>False
 | .buildSlice t n parts=>match Gk ev parts.toList with
  |some ps=>ac C.P (qq t n ps.toArray) h (Typed (.sc .slc) K)
  |none=>False
 | .makeMap t none=>ac C.P (vG t none) h (Typed (.sc .mp) K)
 | .lookup t x ix ok=>match ev x,ev ix,agu C.T o.type C.tup with
  |some m,some k,some r=>ac C.P (vM t m k ok) h (Lm r K)
  |_,_,_=>False
 | .mapUpdate t m k x=>match ev m,ev k,ev x with
  |some m,some k,some v=>ac C.P (vk t m k v) h fun _ h'=>K undef h'
  |_,_,_=>False
 | .convert s d x=>match ev x,C.T.get o.type with
  |some v,some i=>ac C.P (convert s d v) h (Typed i.ty K)
  |_,_=>False
 | .binOp op t x y _=>match ev x,ev y,C.T.get o.type with
  |some a,some b,some i=>ac C.P (do eqGuard op t x y a b;binOp op t a b) h (Typed i.ty K)
  |some a,some b,none=>ac C.P (do eqGuard op t x y a b;binOp op t a b) h (Typed (.sc .bool) K)
  |_,_,_=>False
 | .slice t x lo hi mx=>match optVal ev lo,optVal ev hi,optVal ev mx,ev x with
  |some l,some r,some m,some v=>ac C.P (wE t v l r m) h (Typed (.sc .slc) K)
  |_,_,_,_=>False
 | .call c=>match c.callee with
  | .builtin .append=>match rC ev c.args.toList with
   |some vs=>ac C.P (qt c.argTypes o.type vs.toArray) h (Typed (.sc .slc) K)
   |none=>False
  | .builtin .copy=>match rC ev c.args.toList with
   |some vs=>ac C.P (wX c.argTypes o.type vs.toArray) h (Typed (.sc (.int .i64)) K)
   |none=>False
  | .builtin .clear=>match rC ev c.args.toList with
   |some vs=>ac C.P (yt c.argTypes o.type vs.toArray) h K
   |none=>False
  | .builtin .len=>match rC ev c.args.toList with
   |some vs=>ac C.P (vw c.argTypes o.type vs.toArray) h (Typed (.sc (.int .i64)) K)
   |none=>False
  | .builtin .unsafeString=>match rC ev c.args.toList with
   |some vs=>ac C.P (Builtin.unsafeString_ c.argTypes o.type vs.toArray) h (Typed (.sc .str) K)
   |none=>False
  | .builtin .delete=>match rC ev c.args.toList with
   |some vs=>ac C.P (vl c.argTypes o.type vs.toArray) h K
   |none=>False
  | .value f=>match ev f,rC ev c.args.toList with
   |some (.func (.func g) ⟨first⟩ ⟨caps⟩),some vs=>XP C g (first++vs++caps) o.type K h
   |_,_=>False
  |_=>False
 |_=>False
where
 optVal (ev:Operand->Option Value):Option Operand->Option (Option Value)
  |none=>some none
  |some x=>match ev x with
   |some v=>some (some v)
   |none=>none
section
variable {P:Program} {h:Heap} {K:Value->Heap->Prop}
theorem fC{s:Sem Value}(b:ac P s h K):Cy P (do pure (.value (<-s))) h K:=
 ac.bind (b.mono fun _ _ a=>ac.pure' a)
theorem Sg{s:Sem Unit}(b:ac P s h fun _ h'=>K undef h'):Cy P (do s;pure .skip) h K:=
 ac.bind (b.mono fun _ _ a=>ac.pure' a)
theorem Typed.out{t:Ty}{v:Value}{h:Heap}(x:Typed t K v h):K v h:=by obtain⟨y,rfl,a⟩:=x;exact a
theorem Lm.out{t:Rt}{v:Value}{h:Heap}(x:Lm t K v h):K v h:=by obtain⟨y,rfl,a⟩:=x;exact a
theorem Ln.out{v:Value}{h:Heap}(x:Ln K v h):K v h:=by obtain⟨y,rfl,a⟩:=x;exact a
end
theorem Vj{C:Ctx}(e:C.Ok){g:FuncId}{args:List Value}{t:TypeId}{K:Value->Heap->Prop}{h:Heap}(b:XP C g args t K h):
  Cy C.P (callFunc g args.toArray) h K:=by
 unfold XP at b;split at b
 ·rename_i f;split at b
  ·rename_i r i;have a:=congrArg (·[g]?) e.fns;simp only[qP,f]at a;cases hf:C.P.funcs.toList[g]? with
   |none=>rw[hf]at a;cases a
   |some fn=>
    rw[hf]at a;simp only[qN,zL.injEq,qz,wK]at a;have c:C.P.funcs[g]?=some fn:=by simpa using hf
    have d:fn.body.isNone=false:=by cases hbb:fn.body<;>simp[hbb]at a⊢
    unfold callFunc;refine ac.bind (ac.acJ ?_);simp only[c,a.1,d];exact ac.pure' (b.mono fun v h' x=>x.out)
  ·exact b.elim
 ·exact b.elim
theorem XQ{C:Ctx}(W:C.Ok){ev:Operand->Option Value}{e:Operand->Value}(A:∀x v,ev x=some v->e x=v){o:Oper}
  {K:Value->Heap->Prop} {h:Heap} (j:Lo C o ev K h):Cy C.P (execOp e o) h K:=by
 have G:∀{x:Option Operand} {r:Option Value},Lo.optVal ev x=some r->x.map e=r:=by
  intro x r I;cases x with
  |none=>cases I;rfl
  |some y=>
   simp only[Lo.optVal]at I;split at I
   ·rename_i v B;cases I;rw[qN,A _ _ B]
   ·cases I
 unfold Lo at j;split at j
 ·rename_i t a x q;simp only[execOp,q];split at j
  ·rename_i p v U B;rw[A _ _ U,A _ _ B];exact Sg j
  ·exact j.elim
 ·rename_i t q;simp only[execOp,q];exact fC (j.mono fun _ _ x=>x.out)
 ·rename_i t x q;simp only[execOp,q];split at j
  ·rename_i v B;rw[A _ _ B];exact fC (j.mono fun _ _ x=>x.out)
  ·exact j.elim
 ·rename_i t l c q;simp only[execOp,q];split at j
  ·rename_i v u B V;rw[A _ _ B,A _ _ V];exact fC (j.mono fun _ _ x=>x.out)
  ·exact j.elim
 ·rename_i t n parts q;simp only[execOp,q];split at j
  ·rename_i S O;have:(parts.map fun(i,x)=>(i,e x))=S.toArray:=by
    apply yj;have:=Jv A O;simpa using this
   rw[this];exact fC (j.mono fun _ _ x=>x.out)
  ·exact j.elim
 ·rename_i t q;simp only[execOp,q];exact fC (j.mono fun _ _ x=>x.out)
 ·rename_i t x ix ok q;simp only[execOp,q];split at j
  ·rename_i m k r H F R;rw[A _ _ H,A _ _ F];exact fC (j.mono fun _ _ x=>x.out)
  ·exact j.elim
 ·rename_i t m k x q;simp only[execOp,q];split at j
  ·rename_i m' Z v H F B;rw[A _ _ H,A _ _ F,A _ _ B];exact Sg j
  ·exact j.elim
 ·rename_i s d x q;simp only[execOp,q];split at j
  ·rename_i v i B L;rw[A _ _ B];exact fC (j.mono fun _ _ x=>x.out)
  ·exact j.elim
 ·rename_i op t x y u q;simp only[execOp,q];split at j
  ·rename_i a b i M Q L;rw[A _ _ M,A _ _ Q];exact fC (j.mono fun _ _ x=>x.out)
  ·rename_i a b M Q L;rw[A _ _ M,A _ _ Q];exact fC (j.mono fun _ _ x=>x.out)
  ·exact j.elim
 ·rename_i t x Y L mx q;simp only[execOp,q];split at j
  ·rename_i l r m v X R H B;rw[G X,G R,G H,A _ _ B];exact fC (j.mono fun _ _ x=>x.out)
  ·exact j.elim
 ·rename_i c q;simp only[execOp,q];have w:∀{vs:List Value},rC ev c.args.toList=some vs->c.args.map e=vs.toArray:=fun B=>by
   apply yj;simpa using DJ A B
  split at j
  ·rename_i D;split at j
   ·rename_i vs z;unfold resolve;rw[D,w z];exact fC (j.mono fun _ _ x=>x.out)
   ·exact j.elim
  ·rename_i D;split at j
   ·rename_i vs z;unfold resolve;rw[D,w z];exact fC (j.mono fun _ _ x=>x.out)
   ·exact j.elim
  ·rename_i D;split at j
   ·rename_i vs z;unfold resolve;rw[D,w z];exact fC j
   ·exact j.elim
  ·rename_i D;split at j
   ·rename_i vs z;unfold resolve;rw[D,w z];exact fC (j.mono fun _ _ x=>x.out)
   ·exact j.elim
  ·rename_i D;split at j
   ·rename_i vs z;unfold resolve;rw[D,w z];exact fC (j.mono fun _ _ x=>x.out)
   ·exact j.elim
  ·rename_i D;split at j
   ·rename_i vs z;unfold resolve;rw[D,w z];exact fC j
   ·exact j.elim
  ·rename_i f D;split at j
   ·rename_i g first E vs T z
    unfold resolve;rw[D,w z];simp only[A _ _ T];have:=Vj W j;have J:(⟨first⟩:Array Value)++vs.toArray++(⟨E⟩:Array Value)=(first++vs++E).toArray:=by simp
    have N:Cy C.P (callFunc g ((⟨first⟩:Array Value)++vs.toArray++(⟨E⟩:Array Value))) h K:=by rw[J];exact this
    simp only[Deferred.ofValue];exact N
   ·exact j.elim
  ·exact j.elim
 ·exact j.elim
def put(n:Nat)(a:Option Tmp)(K:Env->Heap->Prop)(ρ:Env)(v:Value)(h:Heap):Prop:=
 match a with
 |some d=>bif vF d n then K (.val d v::ρ) h else False
 |none=>K ρ h
theorem xu{n:Nat}{b:Option Tmp}{K:Env->Heap->Prop}{ρ:Env}{v:Value}{h:Heap}(c:put n b K ρ v h){a:Act}(e:Fits n a ρ):
  ∃ρ',Fits n (a.put b v) ρ'/\Ext ρ ρ' a (a.put b v)/\K ρ' h:=by
 unfold put at c;cases b with
 |none=>exact⟨ρ,e,Ext.refl _ _,c⟩
 |some d=>
  simp only at c;cases hb:vF d n with
  |false=>rw[hb]at c;exact c.elim
  |true=>rw[hb]at c;exact⟨_,e.put hb v,Ext.put v v,c⟩
def acP(C:Ctx)(n:Nat)(o:Oper)(K:Env->Heap->Prop)(ρ:Env)(h:Heap):Prop:=
 match CC C.P C.T o.op ρ.eval with
 | .no=>match xt C.T o.op ρ.eval with
  |some r=>∃y:r.ty.den,r.holds h y/\put n o.dst K ρ (r.ty.enc y) h
  |none=>Lo C o ρ.eval (put n o.dst K ρ) h
 |p=>p.holds fun v=>put n o.dst K ρ v h
def Lp(ops:Array Oper)(o:Oper)(ρ:Env)(a skip:Env->Prop):Prop:=
 match o.guard with
 |none=>a ρ
 |some (j,want)=>match(ops[j]?).bind (·.dst)with
  |some d=>match ρ.get d with
   |some (.bool b)=>Br b (bif want then a (.val d (.bool true)::ρ)else skip (.val d (.bool true)::ρ)) (bif want then skip (.val d (.bool false)::ρ)else a (.val d (.bool false)::ρ))
   |some (.tuple _)=>skip ρ
   |_=>False
  |none=>False
theorem Fits.known{n:Nat}{a:Act}{ρ:Env}(c:Fits n a ρ){d:Nat}{v:Value}(e:ρ.get d=some v):Fits n a (.val d v::ρ)/\Ext ρ (.val d v::ρ) a a:=by
 refine⟨⟨c.size,c.defers,fun t x b=>?_⟩,⟨[.val d v],rfl,fun _ _=>rfl⟩⟩;simp only[Env.get]at b;cases hb:wz d t with
 |false=>rw[hb]at b;exact c.get t x b
 |true=>
  rw[hb]at b;have:=zF hb;subst this;rw[cond_true]at b;exact c.get _ x (e.trans b)
theorem Jy{ops:Array Oper}{o:Oper}{ρ:Env}{g skip:Env->Prop}{n:Nat}{a:Act}(e:Fits n a ρ)(c:Lp ops o ρ g skip):
  ∃ρ',Fits n a ρ'/\Ext ρ ρ' a a/\((Region.wanted o (yielded ops a.tmps)=true/\g ρ')∨(Region.wanted o (yielded ops a.tmps)=false/\skip ρ')):=by
 unfold Lp at c;unfold Region.wanted;split at c
 ·rename_i m;rw[m];exact⟨ρ,e,Ext.refl _ _,.inl ⟨rfl,c⟩⟩
 ·rename_i j f m;rw[m];split at c
  ·rename_i d p;split at c
   ·rename_i b k;have l:yielded ops a.tmps j=some b:=by
     unfold yielded;rw[p];simp[e.get _ _ k]
    simp only[l];obtain⟨i,h⟩:=e.known k;cases b<;>cases f<;>simp only[Br,cond_true,cond_false]at c
    ·exact⟨_,i,h,.inl ⟨rfl,c⟩⟩
    ·exact⟨_,i,h,.inr ⟨rfl,c⟩⟩
    ·exact⟨_,i,h,.inr ⟨rfl,c⟩⟩
    ·exact⟨_,i,h,.inl ⟨rfl,c⟩⟩
   ·rename_i vs k;have l:yielded ops a.tmps j=none:=by
     unfold yielded;rw[p];simp[e.get _ _ k]
    simp only[l];exact⟨ρ,e,Ext.refl _ _,.inr ⟨by simp,c⟩⟩
   ·exact c.elim
  ·exact c.elim
theorem aac{C:Ctx}(i:C.Ok){n:Nat}{o:Oper}{K:Env->Heap->Prop}{ρ:Env}{a:Act}{w:World}(j:Fits n a ρ)(d:acP C n o K ρ w.heap)
  {Q:Exit->Act->World->Prop} {next:Act->World->Prop}
  (t:∀a' w' ρ',Fits n a' ρ'->Ext ρ ρ' a a'->cQ w w'->K ρ' w'.heap->next a' w'):o.wp C.P a w next Q:=by
 have g:∀x v,ρ.eval x=some v->a.eval x=v:=fun x v h=>j.eval h;have b:∀v w',cQ w w'->put n o.dst K ρ v w'.heap->next (a.put o.dst v) w':=fun v w' s m=>by
  obtain⟨ρ',l,k,h3⟩:=xu m j;exact t _ _ _ l k s h3
 have c:(CC C.P C.T o.op ρ.eval).holds (fun v=>put n o.dst K ρ v w.heap)->o.wp C.P a w next Q:=fun h=>by
  obtain⟨v,q,f⟩:=Ll i.toOk g h;unfold Oper.wp;rw[q w];exact b v w (cQ.refl w) f
 unfold acP at d;split at d
 ·split at d
  ·rename_i r e;obtain⟨y,p,f⟩:=d;unfold Oper.wp;rw[DK i.toOk g e p];exact b _ w (cQ.refl w) f
  ·exact ahE (XQ i g d) b
 ·exact c d
def IE(C:Ctx)(n:Nat)(ops:Array Oper)(o:Oper)(K:Env->Heap->Prop)(ρ:Env)(h:Heap):Prop:=
 Lp ops o ρ (fun ρ=>acP C n o K ρ h) (fun ρ=>put n o.dst K ρ undef h)
theorem Lq{C:Ctx}(m:C.Ok){n:Nat}{ops:Array Oper}{o:Oper}{i:Nat}(h:ops[i]?=some o){K:Env->Heap->Prop}{ρ:Env}{a:Act}{w:World}
  (f:Fits n a ρ) (p:IE C n ops o K ρ w.heap) {Q:Exit->Act->World->Prop} {next:Act->World->Prop}
  (e:∀a' w' ρ',Fits n a' ρ'->Ext ρ ρ' a a'->cQ w w'->K ρ' w'.heap->next a' w'):wpOp C.P ops Q i next a w:=by
 obtain⟨ρ',d,c,h3⟩:=Jy f p;unfold wpOp;simp only[h];rcases h3 with⟨hw,hr⟩|⟨hw,hr⟩
 ·simp only[hw,if_true];exact .inl (aac m d hr fun a' w' b k x2 x3 q=>e _ _ _ k (c.trans x2) x3 q)
 ·simp only[hw,ze,if_false];obtain⟨b,l,j,g⟩:=xu hr d;exact e _ _ _ l (c.trans j) (cQ.refl w) g
def acQ(C:Ctx)(n:Nat)(ops:Array Oper)(K:Env->Heap->Prop):List Oper->Env->Heap->Prop
 |[],ρ,h=>K ρ h
 |o::r,ρ,h=>IE C n ops o (acQ C n ops K r) ρ h
def Out(n:Nat)(Q:Exit->Env->Heap->Prop)(ρ:Env)(a:Act)(w:World):Exit->Act->World->Prop:=fun e a' w'=>
 ∃ρ',Fits n a' ρ'/\Ext ρ ρ' a a'/\cQ w w'/\Q e ρ' w'.heap
theorem PA{C:Ctx}(b:C.Ok){n:Nat}{ops:Array Oper}{K:Env->Heap->Prop}{Q:Exit->Act->World->Prop}{ρ0:Env}{a0:Act}{w0:World}
  (c:∀a w ρ,Fits n a ρ->Ext ρ0 ρ a0 a->cQ w0 w->K ρ w.heap->Q .normal a w):
  ∀(r:List Oper) (i:Nat),(∀j,r[j]?=ops[i+j]?)->∀(ρ:Env) (a:Act) (w:World),Fits n a ρ->Ext ρ0 ρ a0 a->cQ w0 w->acQ C n ops K r ρ w.heap->
   wpOps C.P ops Q (List.range' i r.length) a w
 |[],i,_,ρ,a,w,hf,hx,hl,hs=>c a w ρ hf hx hl hs
 |o::r,i,hr,ρ,a,w,hf,hx,hl,hs=>by
  have g:ops[i]?=some o:=by simpa using(hr 0).symm
  rw[zb,List.range'_succ,wpOps_cons];refine Lq b g hf hs fun a' w' ρ' e d h3 f=>?_;exact PA b c r (i+1) (fun j=>by have:=hr (j+1);simpa[yp,Nat.add_comm 1 j]using this) ρ' a' w' e (hx.trans d) (hl.trans h3) f
abbrev ar:=List (Addr×Value)
def ar.ok:ar->Heap->Prop
 |[],_=>True
 |p::r,h=>cellOf h p.1=some p.2/\ar.ok r h
def mD(a:Addr):Nat->List Value->ar->ar
 |_,[],L=>L
 |n,v::r,L=>(a.add n,v)::mD a (n+1) r L
theorem nU{a:Addr}{h:Heap}:∀{vs:List Value} {n:Nat} {L:ar},(mD a n vs L).ok h↔aj h a n vs/\L.ok h
 |[],_,L=>by simp[mD,aj]
 |v::r,n,L=>by simp only[mD,ar.ok,aj,nU (vs:=r),and_assoc]
def AR.held(r:AR)(y:r.ty.den)(L:ar):ar:=
 match r.ty,y with
 | .sc s,y=>(r.a,s.enc y)::L
 | .agg l,y=>mD r.a 0 (BE l y) L
 | .arr s,y=>mD r.a 0 (y.map s.enc) L
theorem AR.afk{r:AR}{y:r.ty.den}{L:ar}{b:Heap}(c:r.holds b y){m:Heap}:(r.held y L).ok m↔r.holds m y/\L.ok m:=by
 obtain⟨a,ty,n⟩:=r;cases ty with
 |sc s=>exact Iff.rfl
 |agg l=>exact nU
 |arr s=>exact nU.trans ⟨fun x=>⟨⟨c.1,x.1⟩,x.2⟩,fun x=>⟨x.1.2,x.2⟩⟩
structure fF where
 op:Nat
 r:AR
 y:r.ty.den
def flat:List fF->ar
 |[]=>[]
 |p::r=>p.r.held p.y (flat r)
def fF.ok(p:fF)(w:World):Prop:=p.r.holds w.heap p.y
def waits(ops:Array Oper)(j i:Nat):Bool:=match ops[j]? with
 |some o=>o.after.any fun e=>Region.binds .any e&&wz e.on i
 |none=>false
def keep(ops:Array Oper)(j:Nat):List fF->List fF
 |[]=>[]
 |p::r=>bif waits ops j p.op then keep ops j r else p::keep ops j r
theorem rS{ops:Array Oper}{j:Nat}:∀{L:List fF},∀p∈keep ops j L,p∈L
 |[],p,h=>by cases h
 |q::r,p,h=>by
  unfold keep at h;cases hw:waits ops j q.op with
  |true=>rw[hw]at h;exact qO _ (rS p h)
  |false=>
   rw[hw]at h;rcases za.1 h with rfl|h
   ·exact qU
   ·exact qO _ (rS p h)
theorem DL{ops:Array Oper}{j:Nat}:∀{L:List fF} {p:fF},p∈L->waits ops j p.op=false->p∈keep ops j L
 |q::r,p,h,hw=>by
  unfold keep;rcases za.1 h with rfl|h
  ·rw[hw];exact qU
  ·cases hq:waits ops j q.op with
   |true=>exact DL h hw
   |false=>exact qO _ (DL h hw)
theorem Kg{ops:Array Oper}{j:Nat}{p:fF}:∀{M:List fF},p∈keep ops j M->waits ops j p.op=false
 |[],h=>by cases h
 |q::r,h=>by
  unfold keep at h;cases hq:waits ops j q.op with
  |true=>rw[hq]at h;exact Kg h
  |false=>
   rw[hq]at h;rcases za.1 h with rfl|h
   ·exact hq
   ·exact Kg h
theorem Gl{ops:Array Oper}{j:Nat}{L a:List fF}(c:∀p∈a,p∈L):∀p∈keep ops j a,p∈keep ops j L:=
 fun p b=>DL (c p (rS p b)) (Kg b)
def lG(P:Program)(ops:Array Oper)(Q:Exit->Act->World->Prop):Nat->List fF->Array Bool->Act->World->Prop
 |0,_,listed,a,w=>Region.ready .any ops listed=[]/\Q .normal a w
 |fuel+1,L,listed,a,w=>
  (Region.ready .any ops listed=[]->Q .normal a w)/\
  ∀i∈Region.ready .any ops listed,wpOp P ops Q i (fun a' w'=>(∀p∈keep ops i L,p.ok w')/\lG P ops Q fuel (keep ops i L) (listed.setIfInBounds i true) a' w') a w
theorem Lr{P:Program}{ops:Array Oper}{Q:Exit->Act->World->Prop}:∀(b:Nat) (L:List fF) (c:Array Bool) (a:Act) (w:World),lG P ops Q b L c a w->wpAny P .any ops Q b c a w
 |0,_,_,_,_,h=>h
 |b+1,_,_,_,_,h=>⟨h.1,fun i d=>wpOp_mono (fun a' w' h'=>Lr b _ _ a' w' h'.2) (h.2 i d)⟩
theorem DM{P:Program}{ops:Array Oper}{Q:Exit->Act->World->Prop}:∀(b:Nat) {L d:List fF} (c:Array Bool) (a:Act) (w:World),(∀p∈d,p∈L)->lG P ops Q b L c a w->lG P ops Q b d c a w
 |0,_,_,_,_,_,_,h=>h
 |b+1,_,_,_,_,_,hs,h=>⟨h.1,fun i e=>wpOp_mono (fun a' w' h'=>⟨fun p f=>h'.1 p (Gl hs p f),DM b _ a' w' (Gl hs) h'.2⟩) (h.2 i e)⟩
theorem Sh{P:Program}{ops:Array Oper}{Q:Exit->Act->World->Prop}{i:Nat}{t:Oper}{v:Value}{T:World->Prop}{N:List fF}(Y:ops[i]?=some t)(A:∀(j:Nat) (o:Oper) cs b,ops[j]?=some o->o.op≠.select cs b)
  (hQ:∀c a w,Q (.panic c) (a.put t.dst v) w->Q (.panic c) a w) (hN:∀p∈N,p.op=i) (hT:∀w,(∀p∈N,p.ok w)->T w):
  ∀(f:Nat) (L:List fF) (d:Array Bool) (a:Act) (w:World),
   (∀j s,ops[j]?=some s->j≠i->d.getD j true=false->(∀e∈s.after,Region.binds .any e=true->e.on≠i)->t.apart ops s=true)->
   i∈Region.ready .any ops d->YieldsIf P ops T t v a->(∀p∈N,p.ok w)->(∀p∈L,p.ok w)->
   lG P ops Q f (N++L) (d.setIfInBounds i true) (a.put t.dst v) w->lG P ops Q (f+1) L d a w:=by
 intro f;have x:∀(f:Nat) (L:List fF) (d:Array Bool) (a:Act) (w:World),YieldsIf P ops T t v a->(∀p∈N,p.ok w)->(∀p∈L,p.ok w)->
   lG P ops Q f (N++L) (d.setIfInBounds i true) (a.put t.dst v) w->
   wpOp P ops Q i (fun a' w'=>(∀p∈keep ops i L,p.ok w')/\lG P ops Q f (keep ops i L) (d.setIfInBounds i true) a' w') a w:=fun f L d a w G n R H=>
  G.wpOp Y (hT w n) ⟨fun p g=>R p (rS p g),DM f _ _ _ (fun p g=>wN _ (rS p g)) H⟩
 induction f with
 |zero=>
  intro L d a w _ F G n R H;refine⟨fun h=>(by rw[h]at F;cases F),fun j S=>?_⟩;by_cases l:j=i
  ·subst l;exact x 0 L d a w G n R H
  ·have:=ready_mono S l;rw[H.1]at this;cases this
 |succ f ih=>
  intro L d a w q F G n R H;refine⟨fun h=>(by rw[h]at F;cases F),fun j S=>?_⟩;by_cases l:j=i
  ·subst l;exact x (f+1) L d a w G n R H
  ·have D:=H.2 j (ready_mono S l);obtain⟨y,s,u,M⟩:=mem_ready.1 S;have z:∀e∈s.after,Region.binds .any e=true->e.on≠i:=fun e he O W=>by
    have D:=M e he O;have Z:=(mem_ready.1 F).1;rw[W]at D;rcases Nat.lt_or_ge i d.size with h'|h'
    ·simp[h']at Z D;rw[Z]at D;cases D
    ·simp[Array.getElem?_eq_none h']at D
   have J:(s.after.any fun e=>Region.binds .any e&&wz e.on i)=false:=by
    cases hc:s.after.any fun e=>Region.binds .any e&&wz e.on i with
    |false=>rfl
    |true=>
     obtain⟨k,V,O⟩:=Array.any_eq_true.1 hc;simp only[qz]at O;exact absurd (zF O.2) (z _ (Array.getElem_mem V) O.1)
   have E:waits ops j i=false:=by
    unfold waits;rw[u];exact J
   have B:∀p,p∈N->p∈keep ops j (N++L):=fun p g=>DL (yE _ g) (by rw[hN p g];exact E);have m:∀p,p∈keep ops j L->p∈keep ops j (N++L):=Gl fun p g=>wN _ g;have h2:=wpOp_putIf u (q j s u l y z) (fun cs b=>A i t cs b Y) (fun cs b=>A j s cs b u) hQ G D;have r:∀k ok,ops[k]?=some ok->k≠i->(d.setIfInBounds j true).getD k true=false->
     (∀e∈ok.after,Region.binds .any e=true->e.on≠i)->t.apart ops ok=true:=fun k ok V U K X=>by
    refine q k ok V U ?_ X;by_cases I:j=k
    ·subst I;exact y
    ·rw[getD_set_ne true I]at K;exact K
   refine wpOp_mono (fun a' w' h3=>⟨fun p g=>h3.2.1 p (m p g),ih (keep ops j L) (d.setIfInBounds j true) a' w' r (ready_mono F (Ne.symm l)) h3.1 (fun p g=>h3.2.1 p (B p g)) (fun p g=>h3.2.1 p (m p g)) ?_⟩) h2;rw[Array.setIfInBounds_comm _ _ l];refine DM _ _ _ _ (fun p g=>?_) h3.2.2;rcases qB.1 g with g|g
   ·exact B p g
   ·exact m p g
theorem BG{P:Program}{ops:Array Oper}{Q:Exit->Act->World->Prop}{i:Nat}{e:Oper}{v:Value}{T:World->Prop}{N:List fF}{d:Nat}{L:List fF}{b:Array Bool}{a:Act}{w:World}(g:ops[i]?=some e)
  (o:Region.noSelect ops=true) (j:Region.free .any ops b i=true) (m:(Region.ready .any ops b).contains i=true)
  (q:∀c a w,Q (.panic c) (a.put e.dst v) w->Q (.panic c) a w) (l:∀p∈N,p.op=i) (k:∀w,(∀p∈N,p.ok w)->T w) (n:YieldsIf P ops T e v a) (f:∀p∈N,p.ok w) (r:∀p∈L,p.ok w)
  (h:lG P ops Q d (N++L) (b.setIfInBounds i true) (a.put e.dst v) w):lG P ops Q (d+1) L b a w:=
 Sh g (Region.noSelect_spec o) q l k d L b a w (Region.free_spec g j) (by simpa using m) n f r h
theorem NT:∀{L:List fF} {w0:World},(∀p∈L,p.ok w0)->∀{m:Heap},(flat L).ok m->∀p∈L,p.r.holds m p.y
 |[],_,_,_,_,p,a=>by cases a
 |q::r,w0,h0,m,h,p,a=>by
  have h:=(AR.afk (h0 q qU)).1 h;rcases za.1 a with rfl|a
  ·exact h.1
  ·exact NT (fun p a=>h0 p (qO _ a)) h.2 p a
def aeL:Op->Bool
 | .move _| .assign _| .pick .. | .nilCheck _| .fieldAddr .. | .indexAddr .. | .index .. | .field .. | .extract .. | .binOp .. | .unOp .. | .convert .. | .build .. | .makeFunc .. | .load .. =>true
 | .slice _ _ _ _ none=>true
 | .call c=>match c.callee with
  | .builtin .len| .builtin .cap| .builtin .min| .builtin .max| .builtin .real| .builtin .imag=>true
  |_=>false
 |_=>false
def ov(ops:Array Oper)(a:Array Bool):List Nat->Option Nat
 |[]=>none
 |i::r=>match ops[i]? with
  |some o=>bif aeL o.op&&Region.free .any ops a i then some i else ov ops a r
  |none=>ov ops a r
def XR(C:Ctx)(n:Nat)(ops:Array Oper)(i:Nat)(o:Oper)(L:List fF)(K:List fF->Env->Heap->Prop)(ρ:Env)(h:Heap):Prop:=
 Lp ops o ρ (fun ρ=>match CC C.P C.T o.op ρ.eval with
  | .no=>match xt C.T o.op ρ.eval with
   |some r=>∃y:r.ty.den,r.holds h y/\put n o.dst (K (⟨i,r,y⟩::L)) ρ (r.ty.enc y) h
   |none=>False
  |p=>p.holds fun v=>put n o.dst (K L) ρ v h) (fun ρ=>put n o.dst (K L) ρ undef h)
def Si(C:Ctx)(n:Nat)(ops:Array Oper)(K:Nat->Env->Heap->Prop)(ρ:Env)(h:Heap):List Nat->Prop
 |[]=>True
 |[i]=>match ops[i]? with
  |some o=>IE C n ops o (K i) ρ h
  |none=>False
 |i::j::r=>(match ops[i]? with
  |some o=>IE C n ops o (K i) ρ h
  |none=>False)/\Si C n ops K ρ h (j::r)
def xv(C:Ctx)(n:Nat)(ops:Array Oper)(K:Env->Heap->Prop):Nat->Array Bool->List fF->Env->Heap->Prop
 |0,listed,_,ρ,h=>bif (Region.ready .any ops listed).isEmpty then K ρ h else False
 |k+1,listed,L,ρ,h=>match ov ops listed (Region.ready .any ops listed)with
  |some i=>match ops[i]? with
   |some o=>XR C n ops i o L (xv C n ops K k (listed.setIfInBounds i true)) ρ h
   |none=>False
  |none=>match Region.ready .any ops listed with
   |[]=>K ρ h
   |i::r=>Si C n ops (fun i ρ h=>(flat (keep ops i L)).ok h/\xv C n ops K k (listed.setIfInBounds i true) (keep ops i L) ρ h) ρ h (i::r)
theorem tV{ops:Array Oper}{a:Array Bool}:∀{rs:List Nat} {i:Nat},ov ops a rs=some i->i∈rs/\Region.free .any ops a i=true
 |[],_,h=>by cases h
 |j::r,i,h=>by
  simp only[ov]at h;split at h
  ·rename_i o b;cases hb:(aeL o.op&&Region.free .any ops a j)with
   |true=>
    rw[hb]at h;cases h;simp only[qz]at hb;exact⟨qU,hb.2⟩
   |false=>
    rw[hb]at h;have:=tV h;exact⟨qO _ this.1,this.2⟩
  ·have:=tV h;exact⟨qO _ this.1,this.2⟩
theorem PB{C:Ctx}{n:Nat}{ops:Array Oper}{K:Nat->Env->Heap->Prop}{ρ:Env}{h:Heap}:∀{l:List Nat},Si C n ops K ρ h l->∀i∈l,∃o,ops[i]?=some o/\IE C n ops o (K i) ρ h
 |[],_,i,hi=>by cases hi
 |[j],ha,i,hi=>by
  simp only[qH]at hi;subst hi;simp only[Si]at ha;split at ha
  ·rename_i o a;exact⟨o,a,ha⟩
  ·exact ha.elim
 |j::k::r,ha,i,hi=>by
  obtain⟨b,c⟩:=ha;rcases za.1 hi with rfl|hi
  ·split at b
   ·rename_i o a;exact⟨o,a,b⟩
   ·exact b.elim
  ·exact PB c i hi
section
variable {C:Ctx} {n:Nat} {ops:Array Oper} {K:Env->Heap->Prop} {Q:Exit->Act->World->Prop} {ρ0:Env} {a0:Act} {w0:World}
theorem PC(J:C.Ok)(M:Region.noSelect ops=true)
  (V:∀a w ρ,Fits n a ρ->Ext ρ0 ρ a0 a->cQ w0 w->K ρ w.heap->Q .normal a w) (D:∀c a w,¬Q (.panic c) a w):
  ∀(k:Nat) (b:Array Bool) (L:List fF) (ρ:Env) (a:Act) (w:World),Fits n a ρ->Ext ρ0 ρ a0 a->cQ w0 w->(∀p∈L,p.ok w)->
   xv C n ops K k b L ρ w.heap->lG C.P ops Q k L b a w
 |0,b,L,ρ,a,w,hf,hx,hl,hL,h=>by
  simp only[xv]at h;cases hb:(Region.ready .any ops b).isEmpty with
  |false=>rw[hb]at h;exact h.elim
  |true=>rw[hb]at h;exact⟨by simpa using hb,V _ _ _ hf hx hl h⟩
 |k+1,b,L,ρ,a,w,hf,hx,hl,hL,h=>by
  have I:=PC J M V D k;simp only[xv]at h;split at h
  ·rename_i i G;obtain⟨E,f⟩:=tV G;have e:(Region.ready .any ops b).contains i=true:=by simpa using E
   split at h
   ·rename_i o A;unfold XR at h;obtain⟨ρ',H,S,h3⟩:=Jy hf h;have q:∀c a w (v:Value),Q (.panic c) (Act.put a o.dst v) w->Q (.panic c) a w:=fun c a w v hq=>absurd hq (D c _ w);have X:∀x v,Env.eval ρ' x=some v->a.eval x=v:=fun x v h=>H.eval h;rcases h3 with⟨t,g⟩|⟨t,g⟩
    ·have s:(CC C.P C.T o.op (Env.eval ρ')).holds (fun v=>put n o.dst (xv C n ops K k (b.setIfInBounds i true) L) ρ' v w.heap)->
       lG C.P ops Q (k+1) L b a w:=fun d=>by
      obtain⟨v,hv,R⟩:=Ll J.toOk X d;obtain⟨m,B,z,u⟩:=xu R H;exact BG (N:=[]) (T:=fun _=>True) A M f e (fun c a w=>q c a w v) (fun p d=>by cases d) (fun _ _=>trivial) (.inl ⟨t,fun w _=>hv w⟩) (fun p d=>by cases d) hL
       (I _ L m _ w B (hx.trans (S.trans z)) hl hL u)
     split at g
     ·split at g
      ·rename_i r F;obtain⟨y,Y,R⟩:=g;obtain⟨m,B,z,u⟩:=xu R H;have O:∀p∈[(⟨i,r,y⟩:fF)],p.ok w:=fun p d=>by rw[qH]at d;subst d;exact Y
       refine BG (N:=[⟨i,r,y⟩]) (T:=fun w=>r.holds w.heap y) A M f e (fun c a w=>q c a w _) (fun p d=>by rw[qH]at d;subst d;rfl)
        (fun w h=>h ⟨i,r,y⟩ (qH.2 rfl)) (.inl ⟨t,fun w t=>DK J.toOk X F t⟩) O hL ?_
       refine I _ (⟨i,r,y⟩::L) m _ w B (hx.trans (S.trans z)) hl (fun p d=>?_) u;rcases za.1 d with rfl|d
       ·exact Y
       ·exact hL p d
      ·exact g.elim
     ·exact s g
    ·obtain⟨m,B,z,u⟩:=xu g H;exact BG (N:=[]) (T:=fun _=>True) A M f e (fun c a w=>q c a w undef) (fun p d=>by cases d) (fun _ _=>trivial) (.inr ⟨t,rfl⟩) (fun p d=>by cases d) hL
      (I _ L m _ w B (hx.trans (S.trans z)) hl hL u)
   ·exact h.elim
  ·split at h
   ·rename_i g;exact⟨fun _=>V _ _ _ hf hx hl h,fun i G=>by rw[g]at G;cases G⟩
   ·rename_i i r g;refine⟨fun h0=>absurd (g▸h0) (by simp),fun j Z=>?_⟩;rw[g]at Z;obtain⟨o,A,U⟩:=PB h j Z;have l:∀p∈keep ops j L,p.ok w:=fun p d=>hL p (rS p d);exact Lq J A hf U fun a' w' ρ' x1 x2 x3 W=>⟨NT l W.1,I _ (keep ops j L) ρ' a' w' x1 (hx.trans x2) (hl.trans x3) (NT l W.1) W.2⟩
end
def sched(ops:Array Oper):Nat->Array Bool->Option (List (Nat×Bool))
 |0,listed=>bif (Region.ready .any ops listed).isEmpty then some []else none
 |k+1,listed=>match ov ops listed (Region.ready .any ops listed)with
  |some i=>(sched ops k (listed.setIfInBounds i true)).map ((i,true)::·)
  |none=>match Region.ready .any ops listed with
   |[]=>some []
   |[i]=>(sched ops k (listed.setIfInBounds i true)).map ((i,false)::·)
   |_::_::_=>none
def sU(C:Ctx)(n:Nat)(ops:Array Oper)(K:Env->Heap->Prop):List (Nat×Bool)->List fF->Env->Heap->Prop
 |[],_,ρ,h=>K ρ h
 |(i,true)::r,L,ρ,h=>match ops[i]? with
  |some o=>XR C n ops i o L (sU C n ops K r) ρ h
  |none=>False
 |(i,false)::r,L,ρ,h=>match ops[i]? with
  |some o=>IE C n ops o (fun ρ h=>(flat (keep ops i L)).ok h/\sU C n ops K r (keep ops i L) ρ h) ρ h
  |none=>False
theorem PD{C:Ctx}{n:Nat}{ops:Array Oper}{K:Env->Heap->Prop}:∀(k:Nat) (a:Array Bool) (l:List (Nat×Bool)),sched ops k a=some l->
  xv C n ops K k a=sU C n ops K l
 |0,a,l,hs=>by
  simp only[sched]at hs;cases hb:(Region.ready .any ops a).isEmpty with
  |false=>rw[hb]at hs;cases hs
  |true=>
   rw[hb]at hs;cases hs;funext L ρ h;simp only[xv,hb,sU,cond_true]
 |k+1,a,l,hs=>by
  have d:=fun i=>PD (C:=C) (n:=n) (ops:=ops) (K:=K) k (a.setIfInBounds i true);funext L ρ h;unfold sched at hs;unfold xv;cases hi:ov ops a (Region.ready .any ops a)with
  |some i=>
   rw[hi]at hs;obtain⟨b,c,rfl⟩:=yU.1 hs;simp only[sU,d i b c]
  |none=>
   rw[hi]at hs;generalize e:Region.ready .any ops a=rd at hs
   match rd,hs with
   |[],hs=>cases hs;simp only[sU]
   |[i],hs=>
    obtain⟨b,c,rfl⟩:=yU.1 hs;simp only[Si,sU,d i b c]
def NU(C:Ctx)(n:Nat)(ops:Array Oper)(a:Bool)(K:Env->Heap->Prop)(ρ:Env)(h:Heap):Prop:=
 match a with
 |false=>acQ C n ops K ops.toList ρ h
 |true=>bif Region.noSelect ops then(match sched ops ops.size (vm ops.size false)with
  |some l=>sU C n ops K l [] ρ h
  |none=>xv C n ops K ops.size (vm ops.size false) [] ρ h)else False
theorem Sj{C:Ctx}(f:C.Ok){n:Nat}{id:Nat}{ops:Array Oper}{b:Bool}{Q:Exit->Env->Heap->Prop}{ρ:Env}{a:Act}{w:World}(i:Fits n a ρ)
  (h:NU C n ops b (Q .normal) ρ w.heap):(Code.region id ops b).wp C.P (fun e a' w'=>(∀c,e≠.panic c)/\Out n Q ρ a w e a' w') a w:=by
 cases b with
 |false=>
  refine wp_region ?_;have:=PA f (Q:=fun e a' w'=>(∀c,e≠.panic c)/\Out n Q ρ a w e a' w') (K:=Q .normal) (ρ0:=ρ) (a0:=a) (w0:=w) (fun a' w' ρ' d x2 x3 g=>⟨fun c e=>(by cases e),ρ',d,x2,x3,g⟩)
   ops.toList 0 (fun j=>by simp) ρ a w i (Ext.refl _ _) (cQ.refl _) h
  rw[yF];simpa using this
 |true=>
  simp only[NU]at h;cases hb:Region.noSelect ops with
  |false=>rw[hb]at h;exact h.elim
  |true=>
   rw[hb]at h;have h:xv C n ops (Q .normal) ops.size (vm ops.size false) [] ρ w.heap:=by
    simp only[cond_true]at h;split at h
    ·rename_i l o;rw[PD _ _ _ o];exact h
    ·exact h
   refine wp_region_any f.mixed (Lr _ [] _ _ _ ?_);exact PC f hb (Q:=fun e a' w'=>(∀c,e≠.panic c)/\Out n Q ρ a w e a' w') (ρ0:=ρ) (a0:=a) (w0:=w) (fun a' w' ρ' d x2 x3 g=>⟨fun c e=>(by cases e),ρ',d,x2,x3,g⟩)
    (fun c a w k=>k.1 c rfl) _ _ [] ρ a {w with drawn:=w.drawn+1} i (Ext.refl _ _) ⟨rfl,rfl,rfl,Nat.le_succ _⟩ (fun p m=>by cases m) h
def bf{σ:Type}(rest:σ->Heap->Prop)(B:(σ->Heap->Prop)->Prop):Prop:=∃R:σ->Heap->Prop,(∀s h,R s h->rest s h)/\B R
def aM{σ:Type}(B:σ->(σ->Heap->Prop)->Heap->Prop)(s:σ)(h:Heap):Prop:=
 ∃(τ:Type) (V:τ->σ) (I:τ->Heap->Prop) (μ:τ->Nat) (t0:τ),s=V t0/\I t0 h/\∀t h,I t h->B (V t) (fun b h'=>∃a,b=V a/\I a h'/\μ a<μ t) h
theorem aad{P:Program}{c:Code}{Q:Exit->Act->World->Prop}{a:Act}{w:World}{σ:Type}(R:σ->Act->World->Prop)(μ:σ->World->Nat)(t:σ)(z:R t a w)
  (g:∀s a w,R s a w->c.wp P (Exit.then (fun a' w'=>∃m,R m a' w'/\μ m w'<μ s w) Q) a w):(Code.loop c).wp P Q a w:=by
 intro b k cs;have o:∀n s a w,μ s w=n->R s a w->
   ∃e a' w',Q e a' w'/\Arrives P (lone (b.at a (.code c::.inLoop c::k)) cs w) b k cs e a' w':=by
  intro n
  induction n using Nat.strongRecOn with
  |_ n ih=>
   intro s a w B A;obtain⟨e,j,i,f,d⟩:=g s a w A b (.inLoop c::k) cs;cases e with
   |normal=>
    obtain⟨m,r,q⟩:=f;obtain⟨u,v,y,p,h⟩:=ih (μ m i) (B▸q) m j i rfl r;exact⟨u,v,y,p,.of_steps (Steps.trans d (.one step_inLoop)) h⟩
   |exit id=>exact⟨_,j,i,f,.pass (x:=.inLoop c) rfl (fun _ _=>.inl (by simp)) d⟩
   |goto l=>exact⟨_,j,i,f,.pass (x:=.inLoop c) rfl (fun _ _=>.inl (by simp)) d⟩
   |ret=>exact⟨_,j,i,f,.pass (x:=.inLoop c) rfl (fun _ _=>.inl (by simp)) d⟩
   |panic ch=>exact⟨_,j,i,f,.pass (x:=.inLoop c) rfl (fun _ _=>.inl (by simp)) d⟩
   |outgrown=>exact⟨_,j,i,f,.pass (x:=.inLoop c) rfl (fun _ _=>.inl (by simp)) d⟩
 obtain⟨e,a',w',f,d⟩:=o _ t a w rfl z;exact⟨e,a',w',f,.of_steps (.one step_loop) d⟩
inductive al where
 |n
 |two (a b:al)
 |inn (a:al)
 |loop (σ:dC) (κ:cU) (a:al)
 |join (σ:dC) (κ:cU) (a:al)
 |scope (l:Nat) (σ:dC) (κ:cU) (pre rest:List al) (fwd:List (Nat×List al))
 |fwd (a:al) (fwd:List (Nat×List al))
def al.fst:al->al
 | .two a _=>a
 |_=>.n
def al.snd:al->al
 | .two _ b=>b
 |_=>.n
def al.sub:al->al
 | .inn a=>a
 |_=>.n
abbrev QT:=Exit->Env->Heap->Prop
def Ls(σ:dC)(κ:cU)(ρ:Env)(K:σ.den->Heap->Prop)(Q:QT):QT
 | .normal,ρ',h=>bif within σ κ ρ' (ρ'.length-ρ.length)then(match σ.read ρ' with|some s=>K s h|none=>False)else False
 |e,ρ',h=>Q e ρ' h
def IF(next:Env->Heap->Prop)(Q:QT):QT
 | .normal,ρ,h=>next ρ h
 |e,ρ,h=>Q e ρ h
def aae(id:Nat)(Q:QT):QT
 | .exit i,ρ,h=>bif wz i id then Q .normal ρ h else Q (.exit i) ρ h
 |e,ρ,h=>Q e ρ h
abbrev Rec:=Code->al->QT->Env->Heap->Prop
def AS(rec:Rec):List Code->List al->QT->Env->Heap->Prop
 |[],_,Q,ρ,h=>Q .normal ρ h
 |c::cs,[],Q,ρ,h=>rec c .n (IF (AS rec cs [] Q) Q) ρ h
 |c::cs,x::xs,Q,ρ,h=>rec c x (IF (AS rec cs xs Q) Q) ρ h
def chain:Code->Nat->Option (List Code×List Code)
 | .seq a b,l=>match chain a l with
  |some (p,r)=>some (p,r++[b])
  |none=>match chain b l with
   |some (p,r)=>some (a::p,r)
   |none=>none
 | .label l',l=>bif wz l' l then some ([],[])else none
 |_,_=>none
def aeM(a:List (Nat×List al))(l:Nat):Option (List al):=
 match a with
 |[]=>none
 |p::r=>bif wz p.1 l then some p.2 else aeM r l
def IG(rec:Rec)(c:Code)(a:List (Nat×List al))(Q:QT):Nat->QT
 |0=>fun _ _ _=>False
 |g+1=>fun e ρ h=>match e with
  | .goto l=>match aeM a l with
   |some xs=>match chain c l with
    |some (_,r)=>AS rec r xs (IG rec c a Q g) ρ h
    |none=>False
   |none=>Q (.goto l) ρ h
  |e=>Q e ρ h
def XS(l:Nat)(σ:dC)(κ:cU)(ρ:Env)(K:σ.den->Heap->Prop)(Q:QT):QT
 | .goto l',ρ',h=>bif wz l' l then(bif within σ κ ρ' (ρ'.length-ρ.length)then(match σ.read ρ' with|some s=>K s h|none=>False)else False)else Q (.goto l') ρ' h
 |e,ρ',h=>Q e ρ' h
def Sk(c:Code)(Q:QT):QT
 | .goto l,ρ,h=>match findLabel c l with
  |none=>Q (.goto l) ρ h
  |some _=>False
 |e,ρ,h=>Q e ρ h
def Sm(C:Ctx)(n:Nat)(rec:Rec)(c:Code)(d:al)(Q:QT)(ρ:Env)(h:Heap):Prop:=
 match d with
 | .join σ κ a=>bf (fun s h=>Q .normal (σ.vals s (κ.over ρ)) h) (fun K=>rec c a (Ls σ κ ρ K Q) ρ h)
 |d=>match c with
  | .skip=>Q .normal ρ h
  | .label _=>Q .normal ρ h
  | .region _ ops draw=>NU C n ops draw (Q .normal) ρ h
  | .seq a b=>rec a d.fst (IF (rec b d.snd Q) Q) ρ h
  | .cond x a b=>match ρ.eval x with
   |some (.bool t)=>Br t (rec a d.fst Q ρ h) (rec b d.snd Q ρ h)
   |_=>False
  | .block id c=>rec c d.sub (aae id Q) ρ h
  | .exit id=>Q (.exit id) ρ h
  | .goto l=>Q (.goto l) ρ h
  | .ret=>Q .ret ρ h
  | .loop c=>match d with
   | .loop σ κ a=>match σ.read ρ with
    |some s0=>aM (fun s K h=>rec c a (Ls σ κ (σ.vals s (κ.over ρ)) K Q) (σ.vals s (κ.over ρ)) h) s0 h
    |none=>False
   |_=>False
  | .scope c=>match d with
   | .scope l σ κ pre rest fwd=>match chain c l with
    |some (p,r)=>AS rec p pre (IF (fun ρ' h'=>match σ.read ρ' with
     |some s0=>aM (fun s K h=>AS rec r rest (IG rec c fwd (XS l σ κ (σ.vals s (κ.over ρ')) K (Sk c Q)) 4) (σ.vals s (κ.over ρ')) h) s0 h'
     |none=>False) (Sk c Q)) ρ h
    |none=>False
   | .fwd a fwd=>rec c a (IG rec c fwd (Sk c Q) 4) ρ h
   |_=>False
  |_=>False
def vc(C:Ctx)(n:Nat):Nat->Rec
 |0=>fun _ _ _ _ _=>False
 |f+1=>Sm C n (vc C n f)
def IH(C:Ctx)(n:Nat)(rec:Rec):Prop:=∀(c:Code) (b:al) (Q:QT) (ρ:Env) (a:Act) (w:World),Fits n a ρ->rec c b Q ρ w.heap->c.wp C.P (Out n Q ρ a w) a w
section
variable {C:Ctx} {n:Nat} {Q:QT} {ρ ρ':Env} {a a':Act} {w w':World}
theorem Out.base{e:Exit}{b:Act}{c:World}(f:Ext ρ ρ' a a')(k:cQ w w')(h:Out n Q ρ' a' w' e b c):Out n Q ρ a w e b c:=by
 obtain⟨d,j,i,h3,g⟩:=h;exact⟨d,j,f.trans i,k.trans h3,g⟩
theorem Out.then{next:Env->Heap->Prop}{N:Act->World->Prop}{f:Exit->Act->World->Prop}{e:Exit}{b:Act}{c:World}(h:Out n (IF next Q) ρ a w e b c)
  (l:∀ρ',Fits n b ρ'->Ext ρ ρ' a b->cQ w c->next ρ' c.heap->N b c) (k:Out n Q ρ a w e b c->e≠.normal->f e b c):Exit.then N f e b c:=by
 obtain⟨d,j,i,h3,g⟩:=h;cases e<;>first|exact l d j i h3 g|exact k ⟨d,j,i,h3,g⟩ (by simp)
def nV(P:Program):List Code->(Exit->Act->World->Prop)->Act->World->Prop
 |[],Q,a,w=>Q .normal a w
 |c::cs,Q,a,w=>c.wp P (Exit.then (nV P cs Q) Q) a w
theorem ki{P:Program}{Q d:Exit->Act->World->Prop}(b:∀e a w,Q e a w->d e a w):∀(l:List Code) (a:Act) (w:World),nV P l Q a w->nV P l d a w
 |[],_,_,h=>b _ _ _ h
 |c::cs,a,w,h=>wp_mono h fun e a w h=>by
  cases e<;>first|exact ki b cs a w h|exact b _ _ _ h
theorem pz{rec:Rec}(d:IH C n rec):∀(l:List Code) (xs:List al) (Q:QT) (ρ:Env) (a:Act) (w:World),Fits n a ρ->AS rec l xs Q ρ w.heap->nV C.P l (Out n Q ρ a w) a w
 |[],_,Q,ρ,a,w,hf,h=>⟨ρ,hf,Ext.refl _ _,cQ.refl _,h⟩
 |c::cs,[],Q,ρ,a,w,hf,h=>by
  refine wp_mono (d c .n _ ρ a w hf h) fun e a' w' b=>b.then (fun ρ' f x2 x3 g=>?_) (fun b _=>b);exact ki (fun e a w h=>h.base x2 x3) cs a' w' (pz d cs [] Q ρ' a' w' f g)
 |c::cs,x::xs,Q,ρ,a,w,hf,h=>by
  refine wp_mono (d c x _ ρ a w hf h) fun e a' w' b=>b.then (fun ρ' f x2 x3 g=>?_) (fun b _=>b);exact ki (fun e a w h=>h.base x2 x3) cs a' w' (pz d cs xs Q ρ' a' w' f g)
end
theorem BH{P:Program}{b:Code}{Q:Exit->Act->World->Prop}:∀(l:List Code) (a:Act) (w:World),nV P (l++[b]) Q a w->nV P l (Exit.then (b.wp P Q) Q) a w
 |[],a,w,h=>by
  refine wp_mono h fun e a w h=>?_;cases e<;>exact h
 |c::cs,a,w,h=>wp_mono h fun e a w h=>by
  cases e<;>first|exact BH cs a w h|exact h
theorem sG:∀{c:Code} {l:Nat} {p r:List Code},chain c l=some (p,r)->∃k,findLabel c l=some k/\
  (∀{P:Program} {Q:Exit->Act->World->Prop} {a:Act} {w:World},nV P r Q a w->k.wp P Q a w)/\
  (∀{P:Program} {Q:Exit->Act->World->Prop} {a:Act} {w:World},nV P p (Exit.then (nV P r Q) Q) a w->c.wp P Q a w)
 | .seq x y,l,p,r,h=>by
  simp only[chain]at h;split at h
  ·rename_i o m d;cases h;obtain⟨k,j,i,h3⟩:=sG d;refine⟨.seq k y,by simp[findLabel,j],fun{P Q a w} h=>wp_seq (i (BH m a w h)),fun{P Q a w} h=>wp_seq (h3 ?_)⟩;refine ki (fun e a w g=>?_) p a w h;cases e<;>first|exact BH m a w g|exact g
  ·rename_i d;split at h
   ·rename_i o m n;cases h;obtain⟨k,j,i,h3⟩:=sG n;have s:findLabel x l=none:=by
     clear j i h3 n
     induction x with
     |seq a b iha ihb=>
      simp only[chain]at d;split at d
      ·cases d
      ·rename_i q;split at d
       ·cases d
       ·rename_i f;simp[findLabel,iha q,ihb f]
     |label l'=>
      simp only[chain]at d;cases f:wz l' l with
      |true=>rw[f]at d;cases d
      |false=>
       have:¬l'=l:=fun e=>by subst e;simp at f
       simp[findLabel,this]
     |_=>rfl
    refine⟨k,by simp[findLabel,s,j],i,fun{P Q a w} h=>wp_seq (wp_mono h fun e a w g=>?_)⟩;cases e<;>first|exact h3 g|exact g
   ·cases h
 | .label l',l,p,r,h=>by
  simp only[chain]at h;cases f:wz l' l with
  |false=>rw[f]at h;cases h
  |true=>
   rw[f]at h;cases h;have:=zF f;subst this;exact⟨.skip,by simp[findLabel],fun h=>wp_skip h,fun h=>wp_label h⟩
 | .skip,_,_,_,h=>by cases h
 | .region ..,_,_,_,h=>by cases h
 | .cond ..,_,_,_,h=>by cases h
 | .block ..,_,_,_,h=>by cases h
 | .loop _,_,_,_,h=>by cases h
 | .rangeFunc ..,_,_,_,h=>by cases h
 | .exit _,_,_,_,h=>by cases h
 | .scope _,_,_,_,h=>by cases h
 | .goto _,_,_,_,h=>by cases h
 | .ret,_,_,_,h=>by cases h
 | .refuse _,_,_,_,h=>by cases h
section
variable {P:Program} {c:Code} {Q:Exit->Act->World->Prop} {b:Frame} {k:List Item} {cs:List Frame}
def Reach(P:Program)(c:Code)(Q:Exit->Act->World->Prop)(b:Frame)(k:List Item)(d:List Frame)(a:Act)(w:World)(r:Code):Prop:=
 ∃e a' w',Q e a' w'/\Arrives P (lone (b.at a (.code r::.inScope c::k)) d w) b k d e a' w'
def Good(P:Program)(c:Code)(Q:Exit->Act->World->Prop)(b:Frame)(k:List Item)(d:List Frame):Exit->Act->World->Prop
 | .goto l,a,w=>match findLabel c l with
  |some r=>Reach P c Q b k d a w r
  |none=>Q (.goto l) a w
 |e,a,w=>Q e a w
theorem Sn{m:Machine}{e:Exit}{a:Act}{w:World}(f:Good P c Q b k cs e a w)(d:Arrives P m b (.inScope c::k) cs e a w):
  ∃e a' w',Q e a' w'/\Arrives P m b k cs e a' w':=by
 cases e with
 |normal=>exact⟨.normal,a,w,f,Steps.trans d (.one step_inScope)⟩
 |exit id=>exact⟨.exit id,a,w,f,fun j h=>d j (by simp[exitTo,h])⟩
 |goto l=>
  simp only[Good]at f;cases hf:findLabel c l with
  |none=>
   rw[hf]at f;exact⟨.goto l,a,w,f,fun j h=>d j (by simp[gotoIn,hf,h])⟩
  |some r=>
   rw[hf]at f;obtain⟨n,o,p,i,g⟩:=f;exact⟨n,o,p,i,.of_steps (d _ (by simp[gotoIn,hf])) g⟩
 |ret=>exact⟨_,a,w,f,d⟩
 |panic ch=>exact⟨_,a,w,f,d⟩
 |outgrown=>exact⟨_,a,w,f,d⟩
theorem So{r:Code}{a:Act}{w:World}(h:r.wp P (Good P c Q b k cs) a w):Reach P c Q b k cs a w r:=by
 obtain⟨e,a',w',f,d⟩:=h b (.inScope c::k) cs;exact Sn f d
theorem EV{a:Act}{w:World}(h:∀b k cs,c.wp P (Good P c Q b k cs) a w):(Code.scope c).wp P Q a w:=by
 intro b k cs;obtain⟨e,m,l,f,d⟩:=h b k cs b (.inScope c::k) cs;obtain⟨g,a',w',j,i⟩:=Sn f d;exact⟨g,a',w',j,.of_steps (.one step_scope) i⟩
end
section
variable {C:Ctx} {n:Nat} {rec:Rec}
theorem DN(t:IH C n rec){c:Code}{m:List (Nat×List al)}{s:QT}{u:Exit->Act->World->Prop}{b:Frame}{k:List Item}{q:List Frame}{ρ:Env}{a0:Act}{w0:World}
  (j:∀e f i d,Fits n i f->Ext ρ f a0 i->cQ w0 d->s e f d.heap->Good C.P c u b k q e i d):
  ∀(g:Nat) (e:Exit) (f:Env) (i:Act) (d:World),Fits n i f->Ext ρ f a0 i->cQ w0 d->IG rec c m s g e f d.heap->Good C.P c u b k q e i d
 |0,_,_,_,_,_,_,_,h=>h.elim
 |g+1,e,f,i,d,hf,hx,hl,h=>by
  cases e with
  |goto l=>
   simp only[IG]at h;split at h
   ·split at h
    ·rename_i p r o;obtain⟨F,z,y,_⟩:=sG o;simp only[Good,z];refine So (y ?_);refine ki (fun e a w B=>?_) _ _ _ (pz t _ _ _ f i d hf h);obtain⟨v,E,A,x,D⟩:=B;exact DN t j g e v a w E (hx.trans A) (hl.trans x) D
    ·exact h.elim
   ·exact j _ _ _ _ hf hx hl h
  |normal=>exact j _ _ _ _ hf hx hl h
  |exit id=>exact j _ _ _ _ hf hx hl h
  |ret=>exact j _ _ _ _ hf hx hl h
  |panic ch=>exact j _ _ _ _ hf hx hl h
  |outgrown=>exact j _ _ _ _ hf hx hl h
theorem oH{c:Code}{Q:QT}{b:Frame}{k:List Item}{m:List Frame}{ρ:Env}{a0:Act}{w0:World}{e:Exit}{a:Env}{i:Act}{j:World}
  (d:Fits n i a) (f:Ext ρ a a0 i) (g:cQ w0 j) (h:Sk c Q e a j.heap):Good C.P c (Out n Q ρ a0 w0) b k m e i j:=by
 cases e with
 |goto l=>
  simp only[Sk]at h;simp only[Good];split at h
  ·rename_i o;simp only[o];exact⟨a,d,f,g,h⟩
  ·exact h.elim
 |normal=>exact⟨a,d,f,g,h⟩
 |exit id=>exact⟨a,d,f,g,h⟩
 |ret=>exact⟨a,d,f,g,h⟩
 |panic ch=>exact⟨a,d,f,g,h⟩
 |outgrown=>exact⟨a,d,f,g,h⟩
theorem PE{a:Act}{σ:dC}{κ:cU}{ρ:Env}{s:σ.den}(b:Fits n a ρ)(c:σ.read ρ=some s):Fits n a (σ.vals s (κ.over ρ))/\Ext ρ (σ.vals s (κ.over ρ)) a a:=
 b.rR b (fun _ _ _=>rfl) c
theorem Vk(F:IH C n rec){c:Code}{l:Nat}{σ:dC}{κ:cU}{pre rest:List al}{D:List (Nat×List al)}{p r:List Code}(X:chain c l=some (p,r)){Q:QT}{ρ:Env}{a:Act}{w:World}(U:Fits n a ρ)
  (h:AS rec p pre (IF (fun ρ' h'=>match σ.read ρ' with
     |some R=>aM (fun s K h=>AS rec r rest (IG rec c D (XS l σ κ (σ.vals s (κ.over ρ')) K (Sk c Q)) 4) (σ.vals s (κ.over ρ')) h) R h'
     |none=>False) (Sk c Q)) ρ w.heap):(Code.scope c).wp C.P (Out n Q ρ a w) a w:=by
 refine EV fun b k cs=>?_;obtain⟨kk,h1,W,h3⟩:=sG X;refine h3 (ki (fun e a' w' x=>?_) _ _ _ (pz F _ _ _ ρ a w U h));refine x.then (fun ρ' N x2 x3 M=>?_) (fun x _=>?_)
 ·split at M
  ·rename_i R E;obtain⟨τ,V,I,μ,t0,e0,hI,i⟩:=M;subst e0;have g:=PE (κ:=κ) N E;have y:∀(m:Nat) (t:τ) (v:Act) (o:World),μ t=m->I t o.heap->Fits n v (σ.vals (V t) (κ.over ρ'))->Ext ρ' (σ.vals (V t) (κ.over ρ')) a' v->cQ w' o->
     nV C.P r (Good C.P c (Out n Q ρ a w) b k cs) v o:=by
    intro m
    induction m using Nat.strongRecOn with
    |_ m ih=>
     intro t v o hm H B f d;refine ki (fun e a2 w2 x=>?_) _ _ _ (pz F _ _ _ _ v o B (i t o.heap H));obtain⟨Z,G,L,z,A⟩:=x;refine DN F (ρ:=σ.vals (V t) (κ.over ρ')) (a0:=v) (w0:=o) (fun e S a3 w3 q u z3 z4=>?_) 4 e Z a2 w2 G L z A;cases e with
     |goto l'=>
      simp only[XS]at z4;cases hb:wz l' l with
      |false=>
       rw[hb]at z4;exact oH q (x2.trans (f.trans u)) (x3.trans (d.trans z3)) z4
      |true=>
       rw[hb]at z4;have:=zF hb;subst this;simp only[Good,h1];cases hw:within σ κ S (S.length-(σ.vals (V t) (κ.over ρ')).length)with
       |false=>rw[hw]at z4;exact z4.elim
       |true=>
        rw[hw]at z4;simp only[cond_true]at z4;split at z4
        ·rename_i s' J;have j:∀t,σ.has t=false->(κ.over []).dW t=false->a3.tmps[t]?=a'.tmps[t]?:=fun t O T=>by
          rw[u.within hw t O T,f.rR t O T]
         obtain⟨Y,u2⟩:=N.rR (κ:=κ) q j J;obtain⟨t',e1,i1,i2⟩:=z4;subst e1;exact So (W (ih _ (by rw[<-hm];exact i2) t' a3 w3 rfl i1 Y u2 (d.trans z3)))
        ·exact z4.elim
     |normal=>exact oH q (x2.trans (f.trans u)) (x3.trans (d.trans z3)) z4
     |exit id=>exact oH q (x2.trans (f.trans u)) (x3.trans (d.trans z3)) z4
     |ret=>exact oH q (x2.trans (f.trans u)) (x3.trans (d.trans z3)) z4
     |panic ch=>exact oH q (x2.trans (f.trans u)) (x3.trans (d.trans z3)) z4
     |outgrown=>exact oH q (x2.trans (f.trans u)) (x3.trans (d.trans z3)) z4
   exact y _ t0 a' w' rfl hI g.1 g.2 (cQ.refl _)
  ·exact M.elim
 ·obtain⟨ρ1,G,L,z,A⟩:=x;exact oH G L z A
theorem afl(hC:C.Ok)(o:IH C n rec):IH C n (Sm C n rec):=by
 intro c ab Q ρ a w g h;have q:∀{σ:dC} {κ:cU} {K:σ.den->Heap->Prop} {e:Exit} {a':Act} {w':World},Out n (Ls σ κ ρ K Q) ρ a w e a' w'->(∀s h,K s h->Q .normal (σ.vals s (κ.over ρ)) h)->Out n Q ρ a w e a' w':=by
  intro σ κ K e a' w' j R;obtain⟨ρ',f,x2,x3,d⟩:=j;cases e with
  |normal=>
   simp only[Ls]at d;cases hw:within σ κ ρ' (ρ'.length-ρ.length)with
   |false=>rw[hw]at d;exact d.elim
   |true=>
    rw[hw]at d;simp only[cond_true]at d;split at d
    ·rename_i s hs;obtain⟨H,G⟩:=g.rR (κ:=κ) f (x2.within hw) hs;exact⟨_,H,G,x3,R _ _ d⟩
    ·exact d.elim
  |exit id=>exact⟨ρ',f,x2,x3,d⟩
  |goto l=>exact⟨ρ',f,x2,x3,d⟩
  |ret=>exact⟨ρ',f,x2,x3,d⟩
  |panic ch=>exact⟨ρ',f,x2,x3,d⟩
  |outgrown=>exact⟨ρ',f,x2,x3,d⟩
 unfold Sm at h;split at h
 ·rename_i σ κ x;obtain⟨K,N,hB⟩:=h;exact wp_mono (o c x _ ρ a w g hB) fun e a' w' j=>q j N
 ·split at h
  ·exact wp_skip ⟨ρ,g,Ext.refl _ _,cQ.refl _,h⟩
  ·exact wp_label ⟨ρ,g,Ext.refl _ _,cQ.refl _,h⟩
  ·exact wp_mono (Sj hC g h) fun e a' w' j=>j.2
  ·rename_i x y;refine wp_seq (wp_mono (o x _ _ ρ a w g h) fun e a' w' j=>j.then (fun ρ' f x2 x3 d=>?_) (fun j _=>j));exact wp_mono (o y _ _ ρ' a' w' f d) fun e U ad j=>j.base x2 x3
  ·rename_i x y z;split at h
   ·rename_i t O;refine wp_cond_split (g.eval O) (fun e=>?_) (fun e=>?_)
    ·subst e;exact o y _ _ ρ a w g h
    ·subst e;exact o z _ _ ρ a w g h
   ·exact h.elim
  ·rename_i id x;refine wp_block (wp_mono (o x _ _ ρ a w g h) fun e a' w' j=>?_);obtain⟨ρ',f,x2,x3,d⟩:=j;cases e with
   |exit i=>
    simp only[Exit.inBlock];simp only[aae]at d;cases hb:wz i id with
    |true=>
     rw[hb]at d;rw[if_pos (zF hb)];exact⟨ρ',f,x2,x3,d⟩
    |false=>
     rw[hb]at d;rw[if_neg (fun e=>by subst e;simp at hb)];exact⟨ρ',f,x2,x3,d⟩
   |normal=>exact⟨ρ',f,x2,x3,d⟩
   |goto l=>exact⟨ρ',f,x2,x3,d⟩
   |ret=>exact⟨ρ',f,x2,x3,d⟩
   |panic ch=>exact⟨ρ',f,x2,x3,d⟩
   |outgrown=>exact⟨ρ',f,x2,x3,d⟩
  ·exact wp_exit ⟨ρ,g,Ext.refl _ _,cQ.refl _,h⟩
  ·exact wp_goto ⟨ρ,g,Ext.refl _ _,cQ.refl _,h⟩
  ·exact wp_ret ⟨ρ,g,Ext.refl _ _,cQ.refl _,h⟩
  ·rename_i x;split at h
   ·rename_i σ κ y _;split at h
    ·rename_i s0 J;obtain⟨τ,V,I,μ,t0,X,Y,u⟩:=h;subst X;have m:=PE (κ:=κ) g J;refine aad (σ:=τ) (fun t D B=>Fits n D (σ.vals (V t) (κ.over ρ))/\Ext ρ (σ.vals (V t) (κ.over ρ)) a D/\cQ w B/\I t B.heap) (fun t _=>μ t) t0 ⟨m.1,m.2,cQ.refl _,Y⟩ ?_;rintro t D B ⟨F,v,z3,z4⟩;refine wp_mono (o x y _ _ D B F (u t _ z4)) fun e P w2 j=>?_;obtain⟨ρ',f,x2,x3,d⟩:=j;cases e with
     |normal=>
      simp only[Ls]at d;cases hw:within σ κ ρ' (ρ'.length-(σ.vals (V t) (κ.over ρ)).length)with
      |false=>rw[hw]at d;exact d.elim
      |true=>
       rw[hw]at d;simp only[cond_true]at d;split at d
       ·rename_i s' E;have A:∀t,σ.has t=false->(κ.over []).dW t=false->P.tmps[t]?=a.tmps[t]?:=fun t M L=>by
         rw[x2.within hw t M L,v.rR t M L]
        obtain⟨H,G⟩:=g.rR (κ:=κ) f A E;obtain⟨W,Z,i1,T⟩:=d;subst Z;exact⟨W,⟨H,G,z3.trans x3,i1⟩,T⟩
       ·exact d.elim
     |exit id=>exact⟨ρ',f,v.trans x2,z3.trans x3,d⟩
     |goto l=>exact⟨ρ',f,v.trans x2,z3.trans x3,d⟩
     |ret=>exact⟨ρ',f,v.trans x2,z3.trans x3,d⟩
     |panic ch=>exact⟨ρ',f,v.trans x2,z3.trans x3,d⟩
     |outgrown=>exact⟨ρ',f,v.trans x2,z3.trans x3,d⟩
    ·exact h.elim
   ·exact h.elim
  ·rename_i x;split at h
   ·split at h
    ·rename_i p r S;exact Vk o S g h
    ·exact h.elim
   ·refine EV fun b k cs=>wp_mono (o x _ _ ρ a w g h) fun e a' w' j=>?_;obtain⟨ρ',f,x2,x3,d⟩:=j;exact DN o (ρ:=ρ) (a0:=a) (w0:=w) (fun e ρ3 a3 w3 F v z3 z4=>oH F v z3 z4) 4 e ρ' a' w' f x2 x3 d
   ·exact h.elim
  ·exact h.elim
theorem Sq(a:C.Ok):∀f,IH C n (vc C n f)
 |0=>fun _ _ _ _ _ _ _ h=>h.elim
 |f+1=>afl a (Sq a f)
end
def Gm(C:Ctx)(ρ:Env):List ResultVar->(List Value->Prop)->Heap->Prop
 |[],K,_=>K []
 | .tmp t::r,K,h=>match ρ.get t with
  |some v=>Gm C ρ r (fun vs=>K (v::vs)) h
  |none=>False
 | .cell a t::r,K,h=>match xt C.T (.load t (.tmp a)) ρ.eval with
  |some q=>∃y:q.ty.den,q.holds h y/\Gm C ρ r (fun vs=>K (q.ty.enc y::vs)) h
  |none=>False
def Gn:List Value->Value
 |[v]=>v
 |vs=>.tuple vs.toArray
def ahW(C:Ctx)(rs:List ResultVar)(R:Value->Heap->Prop):QT
 | .normal,ρ,h=>Gm C ρ rs (fun vs=>R (Gn vs) h) h
 | .ret,ρ,h=>Gm C ρ rs (fun vs=>R (Gn vs) h) h
 |_,_,_=>False
def Gp:Nat->List Value->Env
 |_,[]=>[]
 |n,v::r=>.val n v::Gp (n+1) r
def fnV(C:Ctx)(d:Func)(a:Nat)(b:al)(args:List Value)(R:Value->Heap->Prop)(h:Heap):Prop:=
 match d.body with
 |some c=>vc C d.ntmps a c b (ahW C d.results.toList R) (Gp 0 args) h
 |none=>False
theorem Lt:∀{args:List Value} {n t:Nat} {v:Value},(Gp n args).get t=some v->n<=t/\args[t-n]?=some v
 |[],_,_,_,h=>by cases h
 |u::r,n,t,v,h=>by
  simp only[Gp,Env.get]at h;cases hb:wz n t with
  |true=>
   rw[hb]at h;have:=zF hb;subst this;simpa using h
  |false=>
   rw[hb]at h;obtain⟨c,b⟩:=Lt (args:=r) h;refine⟨by omega,?_⟩;obtain⟨k,a⟩:∃k,t-n=k+1:=⟨t-(n+1),by omega⟩
   rw[a,qy];have:t-(n+1)=k:=by omega
   rw[<-this];exact b
theorem acR{C:CB}(g:C.Ok){ev:Operand->Option Value}{e:Operand->Value}(h:∀x v,ev x=some v->e x=v){t:TypeId}{x:Operand}{q:AR}
  (d:xt C.T (.load t x) ev=some q) {y:q.ty.den} {w:World} (f:q.holds w.heap y):(vL t (e x)).run C.P w=.ok (q.ty.enc y) w:=by
 have c:(do pure (Next.value (<-vL t (e x))):Sem Next).run C.P w=.ok (.value (q.ty.enc y)) w:=DK g h (o:=⟨none,.load t x,0, "",#[],none⟩) d f;rw[Sem.run_bind]at c;cases hr:(vL t (e x)).run C.P w with
 |halt a b=>rw[hr]at c;cases c
 |ok v w'=>
  rw[hr]at c;simp only[Result.andThen_ok]at c;cases c;rfl
theorem Gq{C:Ctx}(l:C.Ok){n:Nat}{a:Act}{ρ:Env}(f:Fits n a ρ):∀{rs:List ResultVar} {K:List Value->Prop} {w:World},Gm C ρ rs K w.heap->
  ∃vs,(rs.mapM (fun| .tmp t=>pure (a.tmps.getD t undef)| .cell x t=>(do loadVar t (<-asAddr (a.tmps.getD x undef)):Sem Value)):Sem (List Value)).run C.P w=.ok vs w/\K vs
 |[],K,w,h=>⟨[],rfl,h⟩
 | .tmp t::r,K,w,h=>by
  simp only[Gm]at h;split at h
  ·rename_i v p;obtain⟨vs,k,j⟩:=Gq l f h;refine⟨v::vs,?_,j⟩;have g:a.tmps.getD t undef=v:=by simp[Array.getD_eq_getD_getElem?,f.get t v p]
   rw[List.mapM_cons,Sem.run_bind,Sem.run_pure,Result.andThen_ok,Sem.run_bind,k,g];rfl
  ·exact h.elim
 | .cell x t::r,K,w,h=>by
  simp only[Gm]at h;split at h
  ·rename_i q d;obtain⟨y,o,h⟩:=h;obtain⟨vs,k,j⟩:=Gq l f h;refine⟨q.ty.enc y::vs,?_,j⟩;have m:=acR l.toOk (e:=a.eval) (fun x v h=>f.eval h) d o;have s:∃c,a.eval (.tmp x)=.pointer (some c):=by
    unfold xt at d;simp only at d;split at d
    ·rename_i c b;exact⟨c,f.eval b⟩
    ·cases d
   obtain⟨c,b⟩:=s;have g:a.tmps.getD x undef=.pointer (some c):=b;rw[b]at m;rw[List.mapM_cons,Sem.run_bind];simp only[g];have i:(do loadVar t (<-asAddr (.pointer (some c))):Sem Value).run C.P w=.ok (q.ty.enc y) w:=m;rw[i,Result.andThen_ok,Sem.run_bind,k];rfl
  ·exact h.elim
theorem afm{C:Ctx}(n:C.Ok){f:FuncId}{b:Func}(p:C.P.funcs[f]?=some b){a:Nat}{i:al}{args:List Value}(z:args.length<=b.ntmps){R:Value->Heap->Prop}{h:Heap}
  (j:fnV C b a i args R h):ae C.P f args.toArray h R:=by
 rintro w rfl;unfold fnV at j;split at j
 ·rename_i c u;refine calls_of_wp p u ?_;have d:Fits b.ntmps {tmps:=args.toArray++vm (b.ntmps-args.toArray.size) undef,defers:=[]} (Gp 0 args):=by
   refine⟨by simp;omega,rfl,fun t v q=>?_⟩;obtain⟨_,g⟩:=Lt q;rw[Nat.sub_zero]at g;have k:t<args.length:=(qm.1 g).1;simp only[Array.getElem?_append,wZ,k,if_true,zG];exact g
  refine wp_mono (Sq n a c i _ _ _ w d j) fun e a' w' x=>?_;obtain⟨ρ',m,x2,x3,o⟩:=x;have fin:Gm C ρ' b.results.toList (fun vs=>R (Gn vs) w'.heap) w'.heap->a'.defers=[]/\∃v,(results b a'.tmps).run C.P w'=.ok v w'/\(∃l,Ending.returned v=.returned l/\cQ w w'/\R l w'.heap):=fun y=>by
   obtain⟨vs,s,g⟩:=Gq n m y;refine⟨m.defers,Gn vs,?_,Gn vs,rfl,x3,g⟩;unfold results;rw[ve,map_eq_pure_bind,bind_assoc,Sem.run_bind];refine(congrArg (fun r=>Result.andThen r _) s).trans ?_;simp only[Result.andThen_ok,pure_bind,Sem.run_pure];cases vs with
   |nil=>rfl
   |cons v r=>cases r<;>rfl
  cases e<;>first|exact fin o|exact o.elim
 ·exact j.elim
theorem au{C:Ctx}(d:C.Ok){f:FuncId}{b:Func}(c:C.P.funcs[f]?=some b)(a:al){args:List Value}{R:Value->Heap->Prop}{h:Heap}{Q:Prop}(g:Q)
  (i:vV args.length b.ntmps=true:=by kernel_rfl) (e:fnV C b 300 a args R h=Q:=by kernel_rfl):ae C.P f args.toArray h R:=afm d c (zE i) (cast e.symm g)
def av(P:Program)(s:Sem Value)(r:Rt)(h:Heap)(K:r.den->Heap->Prop):Prop:=ac P s h fun v h'=>∃x:r.den,v=r.enc x/\K x h'
def aQ(P:Program)(s:Sem Value)(h:Heap)(K:Addr->Heap->Prop):Prop:=ac P s h fun v h'=>∃a:Addr,v=.pointer (some a)/\K a h'
def ag(P:Program)(f:FuncId)(args:Array Value)(r:Rt)(h:Heap)(K:r.den->Heap->Prop):Prop:=ae P f args h fun v h'=>∃x:r.den,v=r.enc x/\K x h'
def iq(C:Ctx)(g:FuncId)(args:List Value)(r:Rt)(h:Heap)(K:r.den->Heap->Prop):Prop:=
 match C.fns[g]? with
 |some true=>ag C.P g args.toArray r h K
 |_=>False
theorem fa{C:Ctx}{g:FuncId}{args:List Value}{r:Rt}{h:Heap}{K:r.den->Heap->Prop}(b:C.fns[g]?=some true)(a:ag C.P g args.toArray r h K):iq C g args r h K:=by
 unfold iq;rw[b];exact a
end Go.Vc
abbrev Go.Vc.al.tn(a:Go.Vc.al):Go.Vc.al:=.two .n a
