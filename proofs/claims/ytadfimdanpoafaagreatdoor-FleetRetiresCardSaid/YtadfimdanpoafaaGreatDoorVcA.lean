/- Lemmas. -/
import Derived.Calls
import Derived.Orders
import Derived.Scope
import Derived.KernelRfl
import Derived.Laws.Sem
import Derived.OrdersHeld
set_option linter.unusedVariables false
set_option linter.unusedSimpArgs false
open Nat renaming beq -> wA, ble -> xd, blt -> vM, eq_of_beq_eq_true -> zG, le_of_ble_eq_true -> zF, le_refl -> ql
open Bool renaming and_eq_true -> qz, false_eq_true -> zf, or_eq_false_iff -> ya, or_eq_true -> wg
open List renaming cons_append -> zB, getElem?_eq_some_iff -> qn, getElem?_map -> qO, length_cons -> q9, mem_append_right -> wq, mem_cons -> q8, mem_cons_of_mem -> qR, mem_cons_self -> qW, mem_singleton -> qG
open BitVec renaming ofInt -> qC
open Go.IntKind renaming i64 -> xt
open Go.Instr renaming build -> va, fill -> wo, loadAt -> vS, slice -> xi, sliceAt -> w7, sliceBound -> vK, sliceBounds -> wx
open Option renaming map -> xk, map_eq_some_iff -> yX, map_some -> qL, some -> zM
open Array renaming ext' -> ym, getElem?_toList -> y8, mapM_eq_mapM_toList -> vk, replicate -> vt, toList_map -> vL
namespace Go.Vc
open Go
abbrev Heap:=Array Obj
def cellOf(h:Heap)(a:Addr):Option Value:=
 match h[a.block]? with
 |some (.cells c _ _)=>if a.spot.isSome then none else c[a.off]?
 |_=>none
def UR(h:Heap)(a:Addr):Bool:=
 match h[a.block]? with
 |some (.cells _ _ (lo,hi))=>lo<=a.off&&a.off<hi
 |_=>false
def US(h:Heap)(a:Addr)(v:Value):Heap:=
 h.modify a.block fun
  | .cells c elem frozen=>.cells (if a.spot.isSome then c else c.setIfInBounds a.off v) elem frozen
  |o=>o
def shapeOf(h:Heap)(r:Nat):Option (TypeId×Nat):=match h[r]? with|some (.cells c elem _)=>some (elem,c.size)|_=>none
theorem ZN(w:World)(r:Nat):w.shape? r=shapeOf w.heap r:=rfl
theorem Mk(w:World)(a:Addr):w.cell? a=cellOf w.heap a:=rfl
theorem acK(w:World)(a:Addr):w.frozen? a=UR w.heap a:=rfl
theorem acL(w:World)(a:Addr)(v:Value):(w.setCell a v).heap=US w.heap a v:=rfl
structure cV (w w':World):Prop where
 os:w'.os=w.os
 tape:w'.tape=w.tape
 output:w'.output=w.output
 drawn:w.drawn<=w'.drawn
theorem cV.refl(w:World):cV w w:=⟨rfl,rfl,rfl,ql _⟩
theorem cV.trans{a b c:World}(h:cV a b)(k:cV b c):cV a c:=⟨k.os.trans h.os,k.tape.trans h.tape,k.output.trans h.output,Nat.le_trans h.drawn k.drawn⟩
def ac(P:Program)(f:FuncId)(args:Array Value)(h:Heap)(R:Value->Heap->Prop):Prop:=
 ∀w,w.heap=h->Calls P f args w fun e w'=>∃v,e=.returned v/\cV w w'/\R v w'.heap
theorem ac.mono{P:Program}{f:FuncId}{args:Array Value}{h:Heap}{R a:Value->Heap->Prop}(d:ac P f args h R)
  (e:∀v h',R v h'->a v h'):ac P f args h a:=fun w g=>
 (d w g).mono fun _ _ ⟨v,c,b,r⟩=>⟨v,c,b,e _ _ r⟩
def ag{α:Type}(P:Program)(s:Sem α)(h:Heap)(K:α->Heap->Prop):Prop:=
 ∀w,w.heap=h->∃v w',s.run P w=.ok v w'/\cV w w'/\K v w'.heap
section
variable {α β:Type} {P:Program} {h:Heap}
theorem ag.pure'{K:α->Heap->Prop}{a:α}(b:K a h):ag P (Pure.pure a) h K:=fun w c=>⟨a,w,rfl,cV.refl w,by rw[c];exact b⟩
theorem ag.bind{s:Sem α}{f:α->Sem β}{K:β->Heap->Prop}(k:ag P s h fun v h'=>ag P (f v) h' K):ag P (s>>=f) h K:=by
 intro w l;obtain⟨v,w',j,g,e⟩:=k w l;obtain⟨i,d,a,b,c⟩:=e w' rfl;exact⟨i,d,by rw[Sem.run_bind,j];exact a,g.trans b,c⟩
theorem ag.mono{s:Sem α}{K d:α->Heap->Prop}(f:ag P s h K)(e:∀v h',K v h'->d v h'):ag P s h d:=fun w g=>
 let⟨v,w',a,b,c⟩:=f w g;⟨v,w',a,b,e _ _ c⟩
theorem ag.ZO{K:Program->Heap->Prop}(b:K P h):ag P program h K:=fun w a=>⟨P,w,rfl,cV.refl w,by rw[a];exact b⟩
theorem ag.adS{a:Addr}{v v0:Value}{m:Mode}{K:Unit->Heap->Prop}(f:v.oneCell'=true)(d:cellOf h a=some v0)(e:UR h a=false)(c:K () (US h a v)):
  ag P (store a v m) h K:=fun w b=>
 ⟨(),w.setCell a v,by rw[run_store _ _ _ _ _ f,Mk,b,d];simp[acK,b,e],⟨rfl,rfl,rfl,ql _⟩,by rw[acL,b];exact c⟩
theorem ag.nS{o:Obj}{K:Nat->Heap->Prop}(a:K h.size (h.push o)):ag P (newObj o) h K:=fun w b=>
 ⟨w.heap.size,_,run_newObj P w o,⟨rfl,rfl,rfl,ql _⟩,by simp only[b];exact a⟩
theorem ag.IJ{n:Nat}{K:Unit->Heap->Prop}(a:K () h):ag P (askRoom n) h K:=fun w b=>⟨(),w,run_askRoom P w n,cV.refl w,by rw[b];exact a⟩
theorem ag.Ml{q:Question}{K:Nat->Heap->Prop}(a:(q.forced=true->K 0 h)/\(q.forced=false->∀n,K (q.cut n) h)):ag P (choose q) h K:=by
 intro w b;cases hq:q.forced with
 |true=>exact⟨0,w,by rw[run_choose,hq];rfl,cV.refl w,by rw[b];exact a.1 hq⟩
 |false=>exact⟨q.cut (w.tape w.drawn q),{w with drawn:=w.drawn+1},by rw[run_choose,hq];rfl,⟨rfl,rfl,rfl,Nat.le_succ _⟩,by show K _ w.heap;rw[b];exact a.2 hq _⟩
theorem ag.Uc{r:Nat}{o:Obj}{K:Obj->Heap->Prop}(d:h[r]?=some o)(g:∀c e f,o≠.cells c e f)(b:K o h):ag P (getObj r) h K:=fun w a=>by
 refine⟨o,w,?_,cV.refl w,by rw[a];exact b⟩;simp only[getObj,Sem.run,a,d]
theorem ag.Ud{r:Nat}{o a:Obj}{K:Unit->Heap->Prop}(g:h[r]?=some o)(i:∀c e f,o≠.cells c e f)(d:K () (h.setIfInBounds r a)):ag P (setObj r a) h K:=fun w b=>by
 refine⟨(),{w with heap:=w.heap.setIfInBounds r a},?_,⟨rfl,rfl,rfl,ql _⟩,by show K () (w.heap.setIfInBounds r a);rw[b];exact d⟩;simp only[setObj,Sem.run,b,g]
theorem ag.adT{r:Nat}{K:Option (TypeId×Nat)->Heap->Prop}(b:K (shapeOf h r) h):ag P (shape r) h K:=fun w a=>
 ⟨_,w,run_shape P w r,cV.refl w,by rw[a,ZN,a];exact b⟩
end
def BC(P:Program)(s:Sem Next)(h:Heap)(K:Value->Heap->Prop):Prop:=
 ag P s h fun a h'=>match a with
  | .value v=>K v h'
  | .skip=>K undef h'
  | .enter f args=>ac P f args h' K
  |_=>False
theorem afp{P:Program}{o:Oper}{a:Act}{w:World}{K:Value->Heap->Prop}{Q:Exit->Act->World->Prop}
  (i:BC P (execOp a.eval o) w.heap K) {next:Act->World->Prop}
  (c:∀v w',cV w w'->K v w'.heap->next (a.put o.dst v) w'):o.wp P a w next Q:=by
 obtain⟨h,w',j,d,b⟩:=i w rfl;unfold Oper.wp;rw[j];cases h<;>simp only at b<;>simp only[Oper.upon]
 case value v=>exact c _ _ d b
 case skip=>exact c _ _ d b
 case enter f args=>
  refine(b w' rfl).mono ?_;rintro e k ⟨v,rfl,g,r⟩;exact c _ _ (d.trans g) r
structure Sl where
 ptr:Option Addr
 len:Nat
 cap:Nat
 deriving Inhabited
inductive Sc where
 |int (k:IntKind)|bool|str|ptr|slc|flt (k:FloatKind)|cpx (k:FloatKind)|mp|fn|any|adr
@[reducible] def Sc.den:Sc->Type
 | .int _=>Int
 | .bool=>Bool
 | .str=>ByteArray
 | .ptr=>Option Addr
 | .slc=>Sl
 | .flt _=>Nat
 | .cpx _=>Nat×Nat
 | .mp=>Option Nat
 | .fn=>FuncId×Array Value×Array Value
 | .any=>Value
 | .adr=>Addr
@[reducible] def Sc.enc:(s:Sc)->s.den->Value
 | .int k,n=>.int k n
 | .bool,x=>.bool x
 | .str,x=>.string x
 | .ptr,a=>.pointer a
 | .slc,x=>.slice x.ptr x.len x.cap
 | .flt k,n=>.float k n
 | .cpx k,x=>.complex k x.1 x.2
 | .mp,r=>.map r
 | .fn,x=>.func (.func x.1) x.2.1 x.2.2
 | .any,v=>v
 | .adr,a=>.pointer (some a)
def BD:IntKind->IntKind->Bool
 | .i8,.i8| .i16,.i16| .i32,.i32| .i64,.i64| .u8,.u8| .u16,.u16| .u32,.u32| .u64,.u64=>true
 |_,_=>false
theorem HX:∀{a b:IntKind},BD a b=true->a=b:=by
 intro a b;cases a<;>cases b<;>simp[BD]
def ES:FloatKind->FloatKind->Bool
 | .f32,.f32| .f64,.f64=>true
 |_,_=>false
theorem ET:∀{a b:FloatKind},ES a b=true->a=b:=by
 intro a b;cases a<;>cases b<;>simp[ES]
def Sc.dec:(s:Sc)->Value->Option s.den
 | .int k,.int k' n=>bif BD k k' then some n else none
 | .bool,.bool x=>some x
 | .str,.string x=>some x
 | .ptr,.pointer a=>some a
 | .slc,.slice a l c=>some ⟨a,l,c⟩
 | .flt k,.float k' n=>bif ES k k' then some n else none
 | .cpx k,.complex k' a b=>bif ES k k' then some (a,b)else none
 | .mp,.map r=>some r
 | .fn,.func (.func g) f c=>some (g,f,c)
 | .any,v=>some v
 | .adr,.pointer (some a)=>some a
 |_,_=>none
theorem Sc.pX{s:Sc}{v:Value}{x:s.den}(h:s.dec v=some x):v=s.enc x:=by
 cases s<;>cases v<;>simp only[Sc.dec]at h<;>try(first|(cases h;done)|(cases h;rfl))
 case int.int k k' n=>
  cases hk:BD k k'<;>simp[hk]at h;have:=HX hk;subst this;subst h;rfl
 case flt.float k k' n=>
  cases hk:ES k k'<;>simp[hk]at h;have:=ET hk;subst this;subst h;rfl
 case cpx.complex k k' a b=>
  cases hk:ES k k'<;>simp[hk]at h;have:=ET hk;subst this;subst h;rfl
 case fn.func g f c=>
  cases g<;>first|(cases h;done)|skip
  obtain⟨l⟩:=f;cases l<;>first|(cases h;done)|(cases h;rfl)
 case adr.pointer a=>
  cases a<;>first|(cases h;done)|(cases h;rfl)
@[reducible] def Mm:List Sc->Type
 |[]=>Unit
 |[s]=>s.den
 |s::t::r=>s.den×Mm (t::r)
@[reducible] def AT:(l:List Sc)->Mm l->List Value
 |[],_=>[]
 |[s],x=>[s.enc x]
 |s::t::r,x=>s.enc x.1::AT (t::r) x.2
def UT:(l:List Sc)->List Value->Option (Mm l)
 |[],[]=>some ()
 |[s],[v]=>s.dec v
 |s::t::r,v::vs=>match s.dec v with
  |some x=>match UT (t::r) vs with
   |some y=>some (x,y)
   |none=>none
  |none=>none
 |_,_=>none
theorem Xg:∀{l:List Sc} {vs:List Value} {x:Mm l},UT l vs=some x->vs=AT l x:=by
 intro l vs
 fun_induction UT l vs with
 |case1=>intro x _;rfl
 |case2 s v=>intro x h;simp only[AT];rw[Sc.pX h]
 |case3 s t r v vs x hx y hy ih=>intro z h;cases h;simp only[AT];rw[Sc.pX hx,ih hy]
 |case4=>intro x h;cases h
 |case5=>intro x h;cases h
 |case6=>intro x h;cases h
inductive Ty where
 |sc (s:Sc)
 |agg (l:List Sc)
 |arr (s:Sc)
@[reducible] def Ty.den:Ty->Type
 | .sc s=>s.den
 | .agg l=>Mm l
 | .arr s=>List s.den
@[reducible] def Ty.enc:(t:Ty)->t.den->Value
 | .sc s,x=>s.enc x
 | .agg l,x=>.agg (AT l x).toArray
 | .arr s,x=>.agg (x.map s.enc).toArray
def Ty.dec:(t:Ty)->Value->Option t.den
 | .sc s,v=>s.dec v
 | .agg l,.agg ⟨cs⟩=>UT l cs
 |_,_=>none
theorem Ty.pX{t:Ty}{v:Value}{x:t.den}(h:t.dec v=some x):v=t.enc x:=by
 unfold Ty.dec at h;split at h
 ·exact Sc.pX h
 ·have:=Xg h;subst this;rfl
 ·cases h
@[reducible] def UU:List Ty->Type
 |[]=>Unit
 |[s]=>s.den
 |s::t::r=>s.den×UU (t::r)
@[reducible] def abP:(l:List Ty)->UU l->List Value
 |[],_=>[]
 |[s],x=>[s.enc x]
 |s::t::r,x=>s.enc x.1::abP (t::r) x.2
inductive Rt where
 |one (t:Ty)
 |many (l:List Ty)
@[reducible] def Rt.den:Rt->Type
 | .one t=>t.den
 | .many l=>UU l
@[reducible] def Rt.enc:(r:Rt)->r.den->Value
 | .one t,x=>t.enc x
 | .many l,x=>.tuple (abP l x).toArray
inductive bV where
 |val (t:Nat) (x:Value)
 |kil (lo hi:Nat)
abbrev Env:=List bV
def bV.eG:bV->Nat->Bool
 | .val s _,t=>wA s t
 | .kil lo hi,t=>xd lo t&&vM t hi
def Env.get:Env->Nat->Option Value
 |[],_=>none
 | .val s x::r,t=>bif wA s t then some x else Env.get r t
 | .kil lo hi::r,t=>bif xd lo t&&vM t hi then none else Env.get r t
def Env.eG:Env->Nat->Bool
 |[],_=>false
 |e::r,t=>e.eG t||Env.eG r t
theorem Env.ZP(e:bV)(r:Env)(t:Nat)(h:e.eG t=false):Env.get (e::r) t=Env.get r t:=by
 cases e<;>simp only[bV.eG]at h<;>simp[Env.get,h]
theorem Env.get_append{δ ρ:Env}{t:Nat}(h:δ.eG t=false):Env.get (δ++ρ) t=Env.get ρ t:=by
 induction δ with
 |nil=>rfl
 |cons e r ih=>
  simp only[Env.eG,ya]at h;rw[zB,Env.ZP _ _ _ h.1,ih h.2]
theorem Env.AU{δ ρ:Env}{t:Nat}:Env.eG (δ++ρ) t=(δ.eG t||ρ.eG t):=by
 induction δ with
 |nil=>simp[Env.eG]
 |cons e r ih=>simp[Env.eG,ih,Bool.or_assoc]
structure Fits (n:Nat) (a:Act) (ρ:Env):Prop where
 size:a.tmps.size=n
 defers:a.defers=[]
 get:∀t x,ρ.get t=some x->a.tmps[t]?=some x
def Ext(ρ b:Env)(a c:Act):Prop:=∃δ:Env,b=δ++ρ/\∀t,δ.eG t=false->c.tmps[t]?=a.tmps[t]?
theorem Ext.refl(ρ:Env)(a:Act):Ext ρ ρ a a:=⟨[],rfl,fun _ _=>rfl⟩
theorem Ext.trans{ρ e c:Env}{a f b:Act}(h:Ext ρ e a f)(k:Ext e c f b):Ext ρ c a b:=by
 obtain⟨δ,rfl,h⟩:=h;obtain⟨g,rfl,k⟩:=k;refine⟨g++δ,by simp,fun t d=>?_⟩;rw[Env.AU,ya]at d;rw[k t d.1,h t d.2]
def Env.eval(ρ:Env):Operand->Option Value
 | .tmp t=>ρ.get t
 | .const v=>some v
 | .global g=>some (.pointer (some ⟨g,0,none⟩))
 | .func f=>some (.func (.func f) #[] #[])
theorem Fits.eval{n:Nat}{a:Act}{ρ:Env}(h:Fits n a ρ){x:Operand}{v:Value}(b:ρ.eval x=some v):a.eval x=v:=by
 cases x<;>simp only[Env.eval]at b<;>simp only[Act.eval]
 case tmp t=>have:=h.get t v b;simp[Array.getD_eq_getD_getElem?,this]
 all_goals (injection b)
theorem Fits.put{n:Nat}{a:Act}{ρ:Env}(h:Fits n a ρ){d:Nat}(f:vM d n=true)(v:Value):Fits n (a.put (some d) v) (.val d v::ρ):=by
 have c:d<n:=zF f;refine⟨by simp[Act.put,h.size],h.defers,fun t x b=>?_⟩;simp only[Env.get]at b;simp only[Act.put,Array.getElem?_setIfInBounds];cases hb:wA d t with
 |true=>
  rw[hb]at b;have:d=t:=zG hb;subst this;simp at b;simp[h.size,c,b]
 |false=>
  rw[hb]at b;have:d≠t:=fun e=>by subst e;simp at hb
  simp only[this,if_false];exact h.get t x b
theorem Ext.put{ρ:Env}{a:Act}{d:Nat}(v u:Value):Ext ρ (.val d u::ρ) a (a.put (some d) v):=by
 refine⟨[.val d u],rfl,fun t b=>?_⟩;simp only[Env.eG,bV.eG,Bool.or_false]at b;have:d≠t:=fun e=>by subst e;simp at b
 simp[Act.put,this]
abbrev dL:=List (Nat×Ty)
@[reducible] def dL.den:dL->Type
 |[]=>Unit
 |[s]=>s.2.den
 |s::t::r=>s.2.den×dL.den (t::r)
def dL.vals:(σ:dL)->σ.den->Env->Env
 |[],_,ρ=>ρ
 |[s],x,ρ=>.val s.1 (s.2.enc x)::ρ
 |s::t::r,x,ρ=>.val s.1 (s.2.enc x.1)::dL.vals (t::r) x.2 ρ
def dL.read:(σ:dL)->Env->Option σ.den
 |[],_=>some ()
 |[s],ρ=>match ρ.get s.1 with
  |some v=>s.2.dec v
  |none=>none
 |s::t::r,ρ=>match ρ.get s.1 with
  |some v=>match s.2.dec v with
   |some x=>match dL.read (t::r) ρ with
    |some y=>some (x,y)
    |none=>none
   |none=>none
  |none=>none
def dL.has:dL->Nat->Bool
 |[],_=>false
 |s::r,t=>wA s.1 t||dL.has r t
abbrev cY:=List (Nat×Nat)
def cY.over:cY->Env->Env
 |[],ρ=>ρ
 |(lo,hi)::r,ρ=>.kil lo hi::cY.over r ρ
def cY.has:cY->Nat->Nat->Bool
 |[],_,_=>false
 |(lo,hi)::r,a,b=>(xd lo a&&xd b hi)||cY.has r a b
def within(σ:dL)(κ:cY):Env->Nat->Bool
 |_,0=>true
 |[],_+1=>true
 | .val t _::r,n+1=>(dL.has σ t||cY.has κ t (t+1))&&within σ κ r n
 | .kil lo hi::r,n+1=>cY.has κ lo hi&&within σ κ r n
theorem cY.ZQ{κ:cY}{a b:Nat}(h:κ.has a b=true){t:Nat}(e:a<=t)(f:t<b)(ρ:Env):∃δ:Env,κ.over ρ=δ++ρ/\δ.eG t=true:=by
 induction κ with
 |nil=>simp[cY.has]at h
 |cons p r ih=>
  obtain⟨d,c⟩:=p;simp only[cY.has,wg,qz]at h;obtain⟨δ,j⟩:∃δ:Env,cY.over r ρ=δ++ρ:=by
   clear ih h
   induction r with
   |nil=>exact⟨[],rfl⟩
   |cons q r ih=>obtain⟨δ,h⟩:=ih;exact⟨.kil q.1 q.2::δ,by show bV.kil q.1 q.2::cY.over r ρ=_;rw[h];rfl⟩
  rcases h with h|h
  ·have l:=zF h.1;have k:=zF h.2;refine⟨.kil d c::δ,by simp[cY.over,j],?_⟩;have i:xd d t=true:=Nat.ble_eq_true_of_le (by omega);have x2:vM t c=true:=by unfold vM;exact Nat.ble_eq_true_of_le (by omega)
   simp[Env.eG,bV.eG,i,x2]
  ·obtain⟨g,e,f⟩:=ih h;exact⟨.kil d c::g,by simp[cY.over,e],by simp[Env.eG,f]⟩
theorem cY.Py(κ:cY)(ρ:Env):κ.over ρ=κ.over []++ρ:=by
 induction κ with
 |nil=>rfl
 |cons p r ih=>obtain⟨a,b⟩:=p;simp[cY.over,ih]
theorem dL.IK:∀(σ:dL) (x:σ.den) (ρ:Env),σ.vals x ρ=σ.vals x []++ρ
 |[],_,ρ=>rfl
 |[s],x,ρ=>rfl
 |s::t::r,x,ρ=>by simp only[dL.vals];rw[dL.IK (t::r) x.2 ρ];rfl
theorem dL.Aj:∀(σ:dL) (x:σ.den) (t:Nat),(σ.vals x []).eG t=σ.has t
 |[],_,_=>rfl
 |[s],x,t=>by simp[dL.vals,Env.eG,bV.eG,dL.has]
 |s::u::r,x,t=>by
  have:=dL.Aj (u::r) x.2 t;simp only[dL.vals,Env.eG,bV.eG,this];rfl
theorem dL.Pz:∀(σ:dL) (x:σ.den) (e:Env) (t:Nat),σ.has t=true->((σ.vals x [])++e).get t=(σ.vals x []).get t
 |[],_,_,_,h=>by cases h
 |[s],x,e,t,h=>by
  simp only[dL.has,Bool.or_false]at h;simp[dL.vals,Env.get,h]
 |s::u::r,x,e,t,h=>by
  simp only[dL.vals,zB,Env.get];cases hb:wA s.1 t with
  |true=>rfl
  |false=>
   have h':dL.has (u::r) t=true:=by
    have a:(wA s.1 t||dL.has (u::r) t)=true:=h;rw[hb]at a;exact a
   simpa using dL.Pz (u::r) x.2 e t h'
theorem cY.Nr{κ:cY}{a b t:Nat}(h:κ.has a b=true)(f:a<=t)(c:t<b):(κ.over []).eG t=true:=by
 obtain⟨δ,e,d⟩:=cY.ZQ h f c [];rw[e];simpa using d
theorem bQ{σ:dL}{κ:cY}:∀{δ ρ:Env},within σ κ (δ++ρ) δ.length=true->∀t,σ.has t=false->(κ.over []).eG t=false->δ.eG t=false
 |[],_,_,_,_,_=>rfl
 | .val s x::r,ρ,h,t,h1,h2=>by
  simp only[zB,q9,within,qz,wg]at h;simp only[Env.eG,bV.eG,ya];refine⟨?_,bQ h.2 t h1 h2⟩;cases hb:wA s t with
  |false=>rfl
  |true=>
   have:s=t:=zG hb;subst this;rcases h.1 with h|h
   ·rw[h]at h1;cases h1
   ·rw[cY.Nr h (ql _) (Nat.lt_succ_self _)]at h2;cases h2
 | .kil lo hi::r,ρ,h,t,h1,h2=>by
  simp only[zB,q9,within,qz]at h;simp only[Env.eG,bV.eG,ya];refine⟨?_,bQ h.2 t h1 h2⟩;cases hb:(xd lo t&&vM t hi)with
  |false=>rfl
  |true=>
   simp only[qz]at hb;have b:=zF hb.1;have a:t<hi:=zF hb.2;rw[cY.Nr h.1 b a]at h2;cases h2
theorem dL.PA:∀{σ:dL} {ρ:Env} {x:σ.den} {t:Nat} {v:Value},σ.read ρ=some x->(σ.vals x []).get t=some v->ρ.get t=some v∨False
 |[],_,_,_,_,_,h=>by simp[dL.vals,Env.get]at h
 |[s],ρ,x,t,v,h,hv=>by
  simp only[dL.read]at h;split at h
  ·rename_i u b;simp only[dL.vals,Env.get]at hv;cases hb:wA s.1 t with
   |true=>
    rw[hb]at hv;have:=zG hb;simp at hv;subst hv;rw[<-Ty.pX h,<-this];exact .inl b
   |false=>rw[hb]at hv;simp at hv
  ·cases h
 |s::u::r,ρ,x,t,v,h,hv=>by
  simp only[dL.read]at h;split at h
  ·rename_i z c;split at h
   ·rename_i y a;split at h
    ·rename_i w d;cases h;simp only[dL.vals,Env.get]at hv;cases hb:wA s.1 t with
     |true=>
      rw[hb]at hv;have:=zG hb;simp at hv;subst hv;rw[<-Ty.pX a,<-this];exact .inl c
     |false=>
      rw[hb]at hv;exact dL.PA (σ:=u::r) d hv
    ·cases h
   ·cases h
  ·cases h
theorem Fits.pY{n:Nat}{a d:Act}{σ:dL}{κ:cY}{ρ g:Env}{x:σ.den}(h0:Fits n a ρ)(h:Fits n d g)
  (b:∀t,σ.has t=false->(κ.over []).eG t=false->d.tmps[t]?=a.tmps[t]?) (i:σ.read g=some x):
  Fits n d (σ.vals x (κ.over ρ))/\Ext ρ (σ.vals x (κ.over ρ)) a d:=by
 rw[dL.IK,cY.Py];refine⟨⟨h.size,h.defers,fun t v c=>?_⟩,⟨σ.vals x []++κ.over [],by simp,fun t f=>?_⟩⟩
 ·cases h1:σ.has t with
  |true=>
   have:∀(e:Env),((σ.vals x [])++e).get t=(σ.vals x []).get t:=fun e=>dL.Pz σ x e t h1;rw[this]at c;rcases dL.PA i c with h2|h2
   ·exact h.get t v h2
   ·exact h2.elim
  |false=>
   rw[Env.get_append (by rw[dL.Aj];exact h1)]at c;cases h2:(κ.over []).eG t with
   |true=>
    have:∀(e:Env),((κ.over [])++e).get t=none:=by
     intro e;clear b c
     induction κ with
     |nil=>simp[cY.over,Env.eG]at h2
     |cons p r ih=>
      obtain⟨k,j⟩:=p;simp only[cY.over,Env.eG,bV.eG]at h2;simp only[cY.over,zB,Env.get];cases hb:(xd k t&&vM t j)with
      |true=>rfl
      |false=>rw[hb]at h2;simp at h2;simpa using ih h2
    rw[this]at c;cases c
   |false=>
    rw[Env.get_append h2]at c;rw[b t h1 h2];exact h0.get t v c
 ·rw[Env.AU,ya,dL.Aj]at f;exact b t f.1 f.2
theorem Ext.within{a e:Act}{σ:dL}{κ:cY}{ρ c:Env}(f:Ext ρ c a e)(d:within σ κ c (c.length-ρ.length)=true):
  ∀t,σ.has t=false->(κ.over []).eG t=false->e.tmps[t]?=a.tmps[t]?:=by
 obtain⟨δ,rfl,h⟩:=f;have b:(δ++ρ).length-ρ.length=δ.length:=by simp
 rw[b]at d;exact fun t i g=>h t (bQ d t i g)
theorem Ext.pY{a c:Act}{σ:dL}{κ:cY}{ρ:Env}{x:σ.den}(d:Ext ρ (σ.vals x (κ.over ρ)) a c):
  ∀t,σ.has t=false->(κ.over []).eG t=false->c.tmps[t]?=a.tmps[t]?:=by
 obtain⟨δ,b,f⟩:=d;rw[dL.IK,cY.Py,<-List.append_assoc]at b;have:=List.append_cancel_right b;subst this;exact fun t g e=>f t (by rw[Env.AU,dL.Aj,g,e];rfl)
inductive HY where
 |int (k:IntKind)|bool|str|flt|cpx|mp|fn|other
 |slice (e:TypeId)|array (n:Nat) (e:TypeId)|struct (fs:List (Nat×TypeId))|ptr (e:TypeId)
def iM:Option TypeDesc->HY
 |some (.int k)=>.int k
 |some .bool=>.bool
 |some .string=>.str
 |some (.float _)=>.flt
 |some (.complex _)=>.cpx
 |some (.map ..)=>.mp
 |some (.func ..)=>.fn
 |some (.slice e)=>.slice e
 |some (.array n e)=>.array n e
 |some (.struct fs)=>.struct (fs.toList.map fun f=>(f.offset,f.type))
 |some (.pointer e)=>.ptr e
 |_=>.other
structure TI where
 cU:HY
 ty:Ty
 size:Nat
 bytes:Nat
 zero:List Value
abbrev lM:=List TI
def lM.seen(P:Program)(t:TypeId):HY×Option (Nat×Nat×Option (List Value)):=
 (iM (P.underlying t),(P.info? t).map fun i=>(i.size,i.bytes,i.zero.map (·.cells.toList)))
def lM.told(i:TI):HY×Option (Nat×Nat×Option (List Value)):=(i.cU,some (i.size,i.bytes,some i.zero))
def lM.get:lM->Nat->Option TI
 |[],_=>none
 |i::_,0=>some i
 |_::r,t+1=>lM.get r t
structure BE where
 P:Program
 T:lM
structure BE.Ok (C:BE):Prop where
 tbl:(List.range C.T.length).map (lM.seen C.P)=C.T.map lM.told
 mixed:C.P.follows .mixedOrders=true
theorem lM.get_eq:∀(T:lM) (t:Nat),T.get t=T[t]?
 |[],_=>rfl
 |_::_,0=>rfl
 |_::r,t+1=>by simp[lM.get,lM.get_eq r t]
theorem BE.Ok.at{C:BE}(h:C.Ok){t:Nat}{i:TI}(b:C.T.get t=some i):lM.seen C.P t=lM.told i:=by
 rw[lM.get_eq]at b;have a:t<C.T.length:=(qn.1 b).1;have:=congrArg (·[t]?) h.tbl;simp[a]at this;rw[this,(qn.1 b).2]
def Br(b:Bool)(A B:Prop):Prop:=match b with
 |true=>A
 |false=>B
inductive PV:Type 1 where
 |no
 |val (v:Value)
 |cond (c:Prop) (v:Value)
 |ex (X:Type) (c:X->Prop) (v:X->Value)
 |br (b:Bool) (x y:Value)
def PV.holds(p:PV)(K:Value->Prop):Prop:=match p with
 | .no=>False
 | .val v=>K v
 | .cond c v=>c/\K v
 | .ex _ c v=>∃x,c x/\K (v x)
 | .br b x y=>Br b (K x) (K y)
def rT(P:Program)(s:Sem Next)(v:Value):Prop:=∀w,s.run P w=.ok (.value v) w
def aF{α:Type}(P:Program)(s:Sem α)(v:α):Prop:=∀w,s.run P w=.ok v w
def kr(P:Program)(op:BinOp)(t:TypeId)(x y:Operand)(a b r:Value):Prop:=aF P (do eqGuard op t x y a b;binOp op t a b) r
def abQ:Operand->Bool
 | .tmp _=>true
 |_=>false
def ZR(P:Program)(t:TypeId)(x y:Operand)(d:Option HY)(op:BinOp):Value->Value->PV
 | .int k a,.int k' b=>
  match op with
  | .shl=>.cond (0<=b) (.int k (k.wrap (a*2^min b.toNat k.bits)))
  | .shr=>.cond (0<=b) (.int k (a.fdiv (2^min b.toNat k.bits)))
  |_=>bif BD k k' then
   match op with
   | .add=>.val (.int k (k.wrap (a+b)))
   | .sub=>.val (.int k (k.wrap (a-b)))
   | .mul=>.val (.int k (k.wrap (a*b)))
   | .quo=>.cond (b≠0) (.int k (k.wrap (a.tdiv b)))
   | .rem=>.cond (b≠0) (.int k (a.tmod b))
   | .and=>.val (.int k (k.wrap (qC k.bits a&&&qC k.bits b).toNat))
   | .or=>.val (.int k (k.wrap (qC k.bits a|||qC k.bits b).toNat))
   | .xor=>.val (.int k (k.wrap (qC k.bits a^^^qC k.bits b).toNat))
   | .andNot=>.val (.int k (k.wrap (qC k.bits a&&&~~~qC k.bits b).toNat))
   | .eql=>.val (.bool (a==b))
   | .neq=>.val (.bool (a !=b))
   | .lss=>.val (.bool (decide (a<b)))
   | .leq=>.val (.bool (decide (a<=b)))
   | .gtr=>.val (.bool (decide (a>b)))
   | .geq=>.val (.bool (decide (a>=b)))
   |_=>.no
  else .no
 | .float k a,.float k' b=>bif ES k k' then
   match op with
   | .add=>.ex Nat (fun r=>k.format.add a b=some r) (fun r=>.float k r)
   | .sub=>.ex Nat (fun r=>k.format.sub a b=some r) (fun r=>.float k r)
   | .mul=>.ex Nat (fun r=>k.format.mul a b=some r) (fun r=>.float k r)
   | .quo=>.ex Nat (fun r=>k.format.div a b=some r) (fun r=>.float k r)
   | .eql=>.val (.bool (k.format.order a b==some .eq))
   | .neq=>.val (.bool (k.format.order a b !=some .eq))
   | .lss=>.val (.bool (k.format.order a b==some .lt))
   | .gtr=>.val (.bool (k.format.order a b==some .gt))
   |_=>.no
  else .no
 | .string a,.string b=>
  match op with
  | .eql=>.val (.bool (a.toList==b.toList))
  | .neq=>.val (.bool (!(a.toList==b.toList)))
  | .lss=>.val (.bool (Op.bytesLess a.toList b.toList))
  | .leq=>.val (.bool (Op.bytesLess a.toList b.toList||a.toList==b.toList))
  | .gtr=>.val (.bool (!(Op.bytesLess a.toList b.toList||a.toList==b.toList)))
  | .geq=>.val (.bool (!(Op.bytesLess a.toList b.toList)))
  | .add=>.cond (((a.size+b.size:Nat):Int)<=xt.max) (.string (a++b))
  |_=>.no
 | .bool a,.bool b=>
  match d with
  |some .bool=>match op with
   | .eql=>.val (.bool (a==b))
   | .neq=>.val (.bool (!(a==b)))
   |_=>.no
  |_=>.no
 | .pointer a,.pointer b=>bif abQ y then .ex Bool (fun r=>kr P op t x y (.pointer a) (.pointer b) (.bool r)) (fun r=>.bool r)else
  match b with
  |none=>match d with
   |some (.ptr _)=>match op with
    | .eql=>.val (.bool a.isNone)
    | .neq=>.val (.bool (!a.isNone))
    |_=>.no
   |_=>.no
  |some _=>.no
 | .slice a _ _,.slice none _ _=>
  match d with
  |some (.slice _)=>match op with
   | .eql=>.val (.bool a.isNone)
   | .neq=>.val (.bool (!a.isNone))
   |_=>.no
  |_=>.no
 | .agg a,.agg b=>.ex Bool (fun r=>kr P op t x y (.agg a) (.agg b) (.bool r)) (fun r=>.bool r)
 | .complex k a b,.complex k' c e=>
  match op with
  | .eql| .neq=>.ex Bool (fun r=>kr P op t x y (.complex k a b) (.complex k' c e) (.bool r)) (fun r=>.bool r)
  |_=>.ex (Nat×Nat) (fun r=>kr P op t x y (.complex k a b) (.complex k' c e) (.complex k r.1 r.2)) (fun r=>.complex k r.1 r.2)
 |_,_=>.no
def unV(op:UnOp):Value->PV
 | .bool b=>match op with
  | .not=>.val (.bool !b)
  |_=>.no
 | .int k n=>match op with
  | .neg=>.val (.int k (k.wrap (0-n)))
  | .xor=>.val (.int k (k.wrap (qC k.bits (if k.signed then-1 else k.max)^^^qC k.bits n).toNat))
  |_=>.no
 |_=>.no
def pL(ev:Operand->Option Value):List Operand->Option (List Value)
 |[]=>some []
 |x::r=>match ev x with
  |some v=>match pL ev r with
   |some vs=>some (v::vs)
   |none=>none
  |none=>none
def EU(ev:Operand->Option Value):List (Nat×Operand)->Option (List (Nat×Value))
 |[]=>some []
 |(n,x)::r=>match ev x with
  |some v=>match EU ev r with
   |some vs=>some ((n,v)::vs)
   |none=>none
  |none=>none
def placesOf(T:lM):List (Nat×TypeId)->Option (List (Nat×Nat))
 |[]=>some []
 |(off,t)::r=>match T.get t with
  |some j=>match placesOf T r with
   |some ps=>some ((off,j.size)::ps)
   |none=>none
  |none=>none
def JR(ev:Operand->Option Value):Option Operand->Option (Option Int)
 |none=>some none
 |some x=>match ev x with
  |some (.int _ n)=>some (some n)
  |_=>none
def adU(d:Option HY):Value->PV
 | .slice _ n _=>match d with
  |some (.slice _)=>.val (.int .i64 n)
  |_=>.no
 | .string s=>match d with
  |some .str=>.val (.int .i64 s.size)
  |_=>.no
 |_=>.no
def adV(d:Option HY):Value->PV
 | .slice _ _ n=>match d with
  |some (.slice _)=>.val (.int .i64 n)
  |_=>.no
 |_=>.no
def abR(d:Option HY):Value->PV
 | .int _ n=>match d with
  |some (.int k)=>.val (.int k (k.wrap n))
  |_=>.no
 |_=>.no
def BF(P:Program)(T:lM)(op:Op)(ev:Operand->Option Value):PV:=
 match op with
 | .move x| .assign x=>match ev x with
  |some v=>.val v
  |none=>.no
 | .pick c a b=>match ev c,ev a,ev b with
  |some (.bool t),some x,some y=>.br t x y
  |_,_,_=>.no
 | .nilCheck x=>match ev x with
  |some (.pointer p)=>.ex Addr (fun a=>p=some a) (fun a=>.pointer (some a))
  |_=>.no
 | .fieldAddr s x f=>match ev x with
  |some (.pointer (some a))=>match T.get s with
   |some i=>match i.cU with
    | .struct fs=>match fs[f]? with
     |some (off,t)=>match T.get t with
      |some j=>bif wA j.size 0 then .no else .val (.pointer (some (a.add off)))
      |none=>.no
     |none=>.no
    |_=>.no
   |none=>.no
  |_=>.no
 | .indexAddr t x ix=>match ev ix with
  |some (.int _ n)=>match ev x with
   |some (.slice p len _)=>match T.get t with
    |some i=>match i.cU with
     | .slice e=>match T.get e with
      |some j=>.ex Addr (fun a=>p=some a/\0<=n/\n<(len:Int)) (fun a=>.pointer (some (a.add (n.toNat*j.size))))
      |none=>.no
     |_=>.no
    |none=>.no
   |some (.pointer (some a))=>match T.get t with
    |some i=>match i.cU with
     | .array m e=>match T.get e with
      |some j=>.cond (0<=n/\n<(m:Int)) (.pointer (some (a.add (n.toNat*j.size))))
      |none=>.no
     |_=>.no
    |none=>.no
   |_=>.no
  |_=>.no
 | .index t x ix=>match ev ix with
  |some (.int _ n)=>match ev x with
   |some (.string s)=>match T.get t with
    |some i=>match i.cU with
     | .str=>.ex UInt8 (fun b=>0<=n/\s.data[n.toNat]?=some b) (fun b=>.int .u8 b.toNat)
     |_=>.no
    |none=>.no
   |some (.agg cs)=>match T.get t with
    |some i=>match i.cU with
     | .array m e=>match T.get e with
      |some j=>match j.ty with
       | .sc s=>match j.cU with
        | .struct _=>.no
        | .array _ _=>.no
        | .other=>.no
        |_=>bif wA j.size 1 then .ex s.den (fun y=>0<=n/\n<(m:Int)/\cs[n.toNat]?=some (s.enc y)) (fun y=>s.enc y)else .no
       |_=>.no
      |none=>.no
     |_=>.no
    |none=>.no
   |_=>.no
  |_=>.no
 | .field s x f=>match ev x with
  |some (.agg ⟨cs⟩)=>match T.get s with
   |some i=>match i.cU with
    | .struct fs=>match fs[f]? with
     |some (off,t)=>match T.get t with
      |some j=>match j.cU with
       | .struct _=>.val (.agg ((cs.drop off).take j.size).toArray)
       | .array _ _=>.val (.agg ((cs.drop off).take j.size).toArray)
       | .other=>.no
       |_=>match cs[off]? with
        |some v=>.val v
        |none=>.no
      |none=>.no
     |none=>.no
    |_=>.no
   |none=>.no
  |_=>.no
 | .slice t x lo hi mx=>match mx with
  |some _=>.no
  |none=>match JR ev lo,JR ev hi with
   |some l,some r=>match ev x with
    |some (.slice p len cap)=>match T.get t with
     |some i=>match i.cU with
      | .slice e=>match T.get e with
       |some j=>match l,r with
        |none,none=>.val (.slice p len cap)
        |none,some r=>.cond (0<=r/\r<=(cap:Int)) (.slice p r.toNat cap)
        |some l,none=>.cond (0<=l/\l<=(len:Int)) (.slice (if cap=l.toNat then p else p.map (·.add (l.toNat*j.size))) (len-l.toNat) (cap-l.toNat))
        |some l,some r=>.cond (0<=l/\l<=r/\r<=(cap:Int)) (.slice (if cap=l.toNat then p else p.map (·.add (l.toNat*j.size))) (r.toNat-l.toNat) (cap-l.toNat))
       |none=>.no
      |_=>.no
     |none=>.no
    |some (.string s)=>match T.get t with
     |some i=>match i.cU with
      | .str=>match l,r with
       |none,none=>.val (.string (s.extract 0 s.size))
       |none,some r=>.cond (0<=r/\r<=(s.size:Int)) (.string (s.extract 0 r.toNat))
       |some l,none=>.cond (0<=l/\l<=(s.size:Int)) (.string (s.extract l.toNat s.size))
       |some l,some r=>.cond (0<=l/\l<=r/\r<=(s.size:Int)) (.string (s.extract l.toNat r.toNat))
      |_=>.no
     |none=>.no
    |some (.pointer (some a))=>match T.get t with
     |some i=>match i.cU with
      | .array n e=>match T.get e with
       |some j=>match l,r with
        |none,none=>.val (.slice (some a) n n)
        |none,some r=>.cond (0<=r/\r<=(n:Int)) (.slice (some a) r.toNat n)
        |some l,none=>.cond (0<=l/\l<=(n:Int)) (.slice (some (if n=l.toNat then a else a.add (l.toNat*j.size))) (n-l.toNat) (n-l.toNat))
        |some l,some r=>.cond (0<=l/\l<=r/\r<=(n:Int)) (.slice (some (if n=l.toNat then a else a.add (l.toNat*j.size))) (r.toNat-l.toNat) (n-l.toNat))
       |none=>.no
      |_=>.no
     |none=>.no
    |_=>.no
   |_,_=>.no
 | .extract x n=>match ev x with
  |some (.tuple ⟨vs⟩)=>match vs[n]? with
   |some v=>.val v
   |none=>.no
  |_=>.no
 | .binOp op t x y _=>match ev x,ev y with
  |some a,some b=>ZR P t x y ((T.get t).map (·.cU)) op a b
  |_,_=>.no
 | .unOp op _ x=>match ev x with
  |some v=>unV op v
  |none=>.no
 | .convert src dst x=>match ev x,(T.get src).map TI.cU with
  |some v,some (HY.int _)=>abR ((T.get dst).map (·.cU)) v
  |_,_=>.no
 | .build t parts=>match EU ev parts.toList with
  |some vs=>match T.get t with
   |some i=>bif vM 24 i.size then .ex Value (fun v=>aF P (va t vs.toArray) v) (fun v=>v)else match i.cU with
    | .struct fs=>match placesOf T fs with
     |some ps=>match wo (fun n=>ps[n]?) i.zero.toArray vs with
      |some cells=>.val (.agg cells)
      |none=>.no
     |none=>.no
    | .array _ e=>match T.get e with
     |some j=>match wo (fun n=>some (n*j.size,j.size)) i.zero.toArray vs with
      |some cells=>.val (.agg cells)
      |none=>.no
     |none=>.no
    |_=>.no
   |none=>.no
  |none=>.no
 | .makeFunc fn first captured=>match pL ev first.toList,pL ev captured.toList with
  |some a,some b=>.val (.func fn a.toArray b.toArray)
  |_,_=>.no
 | .call c=>match c.callee with
  | .builtin b=>match b with
   | .len=>match c.argTypes.toList,c.args.toList with
    |t::_,[x]=>match ev x with
     |some v=>adU ((T.get t).map (·.cU)) v
     |none=>.no
    |_,_=>.no
   | .cap=>match c.argTypes.toList,c.args.toList with
    |t::_,[x]=>match ev x with
     |some v=>adV ((T.get t).map (·.cU)) v
     |none=>.no
    |_,_=>.no
   | .min=>match pL ev c.args.toList with
    |some [.int k a,.int _ b]=>.val (.int k (if b<a then b else a))
    |_=>.no
   | .max=>match pL ev c.args.toList with
    |some [.int k a,.int _ b]=>.val (.int k (if b>a then b else a))
    |_=>.no
   | .real=>match pL ev c.args.toList with
    |some [.complex k a _]=>.val (.float k a)
    |_=>.no
   | .imag=>match pL ev c.args.toList with
    |some [.complex k _ b]=>.val (.float k b)
    |_=>.no
   |_=>.no
  |_=>.no
 |_=>.no
theorem aF.next{P:Program}{s:Sem Value}{v:Value}(h:aF P s v):rT P (do pure (.value (<-s))) v:=fun w=>by
 rw[Sem.run_bind,h w];rfl
theorem aF.pure{α:Type}{P:Program}{v:α}:aF P (pure v) v:=fun _=>rfl
theorem aF.bind{α β:Type}{P:Program}{s:Sem α}{f:α->Sem β}{v:α}{u:β}(h:aF P s v)(k:aF P (f v) u):aF P (s>>=f) u:=fun w=>by
 rw[Sem.run_bind,h w];exact k w
theorem Hi{d:Option TypeDesc}{k:IntKind}(h:iM d=.int k):d=some (.int k):=by
 unfold iM at h;split at h<;>cases h;rfl
theorem ZS{d:Option TypeDesc}(h:iM d=.bool):d=some .bool:=by
 unfold iM at h;split at h<;>cases h;rfl
theorem uv{d:Option TypeDesc}(h:iM d=.str):d=some .string:=by
 unfold iM at h;split at h<;>cases h;rfl
theorem jK{d:Option TypeDesc}{e:TypeId}(h:iM d=.slice e):d=some (.slice e):=by
 unfold iM at h;split at h<;>cases h;rfl
theorem rU{d:Option TypeDesc}{n:Nat}{e:TypeId}(h:iM d=.array n e):d=some (.array n e):=by
 unfold iM at h;split at h<;>cases h;rfl
theorem acM{d:Option TypeDesc}{e:TypeId}(h:iM d=.ptr e):d=some (.pointer e):=by
 unfold iM at h;split at h<;>cases h;rfl
theorem oH{d:Option TypeDesc}{a:List (Nat×TypeId)}(h:iM d=.struct a):∃b,d=some (.struct b)/\a=b.toList.map fun f=>(f.offset,f.type):=by
 unfold iM at h;split at h<;>cases h;exact⟨_,rfl,rfl⟩
section
variable {C:BE} {t:TypeId} {i:TI}
theorem BE.Ok.cU(h:C.Ok)(a:C.T.get t=some i):iM (C.P.underlying t)=i.cU:=congrArg Prod.fst (h.at a)
theorem BE.Ok.info(h:C.Ok)(d:C.T.get t=some i):∃f,C.P.info? t=some f/\f.size=i.size/\f.bytes=i.bytes/\∃z,f.zero=some z/\z.cells.toList=i.zero:=by
 have:=congrArg Prod.snd (h.at d);simp only[lM.seen,lM.told]at this;cases hf:C.P.info? t with
 |none=>rw[hf]at this;cases this
 |some f=>
  rw[hf]at this;simp only[qL,zM.injEq,Prod.mk.injEq]at this;obtain⟨a,b,c⟩:=this;cases hz:f.zero with
  |none=>rw[hz]at c;cases c
  |some z=>rw[hz]at c;simp at c;exact⟨f,rfl,a,b,z,hz,by simpa using c⟩
theorem aM{P:Program}{t:TypeId}{d:TypeDesc}(h:P.underlying t=some d):aF P (underlying t) d:=fun w=>by
 simp[underlying,h]
theorem dc{P:Program}{t:TypeId}{d:TypeInfo}(h:P.info? t=some d):aF P (typeInfo t) d:=fun w=>by
 simp[typeInfo,h]
theorem dQ(h:C.Ok)(c:C.T.get t=some i):aF C.P (sizeOf t) i.size:=by
 obtain⟨f,b,a,_⟩:=h.info c;rw[<-a];exact(dc b).bind .pure
theorem rJ(h:C.Ok)(d:C.T.get t=some i):∃z,aF C.P (zeroValue t) z/\z.cells.toList=i.zero:=by
 obtain⟨f,a,_,_,z,c,b⟩:=h.info d;refine⟨z,(dc a).bind ?_,b⟩;rw[c];exact .pure
theorem ku(h:C.Ok)(j:C.T.get t=some i):(∀b,i.cU=.struct b->aF C.P (isAgg t) true)/\(∀n e,i.cU=.array n e->aF C.P (isAgg t) true)/\
  ((∀b,i.cU≠.struct b)->(∀n e,i.cU≠.array n e)->i.cU≠.other->aF C.P (isAgg t) false):=by
 have a:=h.cU j;refine⟨fun b c=>?_,fun n e c=>?_,fun k g h3=>?_⟩
 ·rw[c]at a;obtain⟨l,f,_⟩:=oH a;exact(aM f).bind .pure
 ·rw[c]at a;exact(aM (rU a)).bind .pure
 ·cases hu:C.P.underlying t with
  |none=>rw[hu]at a;exact absurd a.symm h3
  |some d=>
   refine(aM hu).bind ?_;rw[hu]at a;cases d<;>first|exact .pure|(exfalso;simp only[iM]at a;first|exact k _ a.symm|exact g _ _ a.symm)
end
theorem CH{ev:Operand->Option Value}{e:Operand->Value}(b:∀x v,ev x=some v->e x=v):∀{l:List Operand} {vs:List Value},pL ev l=some vs->l.map e=vs:=by
 intro l
 induction l with
 |nil=>intro vs h;cases h;rfl
 |cons x r ih=>
  intro vs h;simp only[pL]at h;split at h
  ·rename_i v c;split at h
   ·rename_i us a;cases h;simp[b _ _ c,ih a]
   ·cases h
  ·cases h
theorem HZ{ev:Operand->Option Value}{e:Operand->Value}(b:∀x v,ev x=some v->e x=v):∀{l:List (Nat×Operand)} {vs:List (Nat×Value)},EU ev l=some vs->l.map (fun p=>(p.1,e p.2))=vs:=by
 intro l
 induction l with
 |nil=>intro vs h;cases h;rfl
 |cons x r ih=>
  intro vs h;obtain⟨n,x⟩:=x;simp only[EU]at h;split at h
  ·rename_i v c;split at h
   ·rename_i us a;cases h;simp[b _ _ c,ih a]
   ·cases h
  ·cases h
section
variable {P:Program}
theorem IL(t:TypeId)(x y:Value):Op.equal t x y=Op.equalIn (9999+1) t x y:=rfl
theorem acN{t:TypeId}(c:P.underlying t=some .bool)(d:Nat)(a b:Bool):aF P (Op.equalIn (d+1) t (.bool a) (.bool b)) (a==b):=fun w=>by
 simp[Op.equalIn,underlying,c]
theorem adW{t e:TypeId}(b:P.underlying t=some (.pointer e))(d:Nat)(a:Option Addr):aF P (Op.equalIn (d+1) t (.pointer a) (.pointer none)) a.isNone:=fun w=>by
 cases a<;>simp[Op.equalIn,underlying,b]
theorem ZT{t e:TypeId}(f:P.underlying t=some (.slice e))(d:Nat)(a:Option Addr)(l c g b:Nat):aF P (Op.equalIn (d+1) t (.slice a l c) (.slice none g b)) a.isNone:=fun w=>by
 cases a<;>simp[Op.equalIn,underlying,f]
theorem UV{t:TypeId}{d:Option HY}{op:BinOp}{a b:Value}{x y:Operand}{K:Value->Prop}(o:∀q,d=some q->iM (P.underlying t)=q)
  (h:(ZR P t x y d op a b).holds K):∃v,aF P (do eqGuard op t x y a b;binOp op t a b) v/\K v:=by
 have j:∀{a b:Value},¬(a=.nilIface/\b=.nilIface)->(∀u v,¬(a=.agg u/\b=.agg v))->aF P (eqGuard op t x y a b) ():=by
  intro a b i f w;simp only[eqGuard];cases op<;>simp only[Bool.not_true,Bool.not_false,zf,if_true,if_false]<;>
   first
    |rfl
    |(split<;>first|exact absurd ⟨rfl,rfl⟩ i|exact absurd ⟨rfl,rfl⟩ (f _ _)|rfl)
 unfold ZR at h;split at h
 ·rename_i k a m b;have g:=j (a:=.int k a) (b:=.int m b) (by simp) (by simp);cases op<;>simp only at h
  case shl=>exact⟨_,g.bind fun w=>by simp only[binOp,Op.shift];rw[if_neg (by have:=h.1;omega)];rfl,h.2⟩
  case shr=>exact⟨_,g.bind fun w=>by simp only[binOp,Op.shift];rw[if_neg (by have:=h.1;omega)];rfl,h.2⟩
  all_goals
   cases hk:BD k m with
   |false=>rw[hk]at h;simp[PV.holds]at h
   |true=>
    rw[hk]at h;simp only[cond_true,PV.holds]at h;have e:=HX hk;subst e
    first
     |exact⟨_,g.bind fun w=>by simp[binOp,Op.intArith,Op.intBits,Op.intCmp],h⟩
     |exact⟨_,g.bind fun w=>by simp[binOp,Op.intDiv,h.1],h.2⟩
     |exact h.elim
 ·rename_i k a m b;have g:=j (a:=.float k a) (b:=.float m b) (by simp) (by simp);cases hk:ES k m with
  |false=>rw[hk]at h;simp[PV.holds]at h
  |true=>
   rw[hk]at h;have e:=ET hk;subst e;cases op<;>simp only[cond_true,PV.holds]at h<;>
    first
     |(obtain⟨r,i,f⟩:=h;exact⟨_,g.bind fun w=>by simp[binOp,Op.floatArith,i],f⟩)
     |exact⟨_,g.bind fun w=>by simp[binOp,Op.floatCmp],h⟩
     |exact h.elim
 ·rename_i a b;have g:=j (a:=.string a) (b:=.string b) (by simp) (by simp);cases op<;>simp only[PV.holds]at h<;>
   first
    |exact⟨_,g.bind fun w=>by simp[binOp,Op.stringOp],h⟩
    |exact⟨_,g.bind fun w=>by simp only[binOp,Op.stringOp];rw[if_neg (by have:=h.1;omega)];rfl,h.2⟩
    |exact h.elim
 ·rename_i a b;have g:=j (a:=.bool a) (b:=.bool b) (by simp) (by simp);split at h
  ·have n:=ZS (o _ rfl);cases op<;>simp only[PV.holds]at h<;>
    first
     |exact⟨_,g.bind (by simp only[binOp,IL];exact(acN n _ a b).bind .pure),h⟩
     |exact h.elim
  ·exact h.elim
 ·rename_i a b;cases hy:abQ y with
  |true=>
   rw[hy]at h;obtain⟨r,i,f⟩:=h;exact⟨_,i,f⟩
  |false=>
   rw[hy]at h;cases b with
   |some _=>exact h.elim
   |none=>
    have g:=j (a:=.pointer a) (b:=.pointer none) (by simp) (by simp);simp only[cond_false]at h;split at h
    ·rename_i e;have n:=acM (o _ rfl);cases op<;>simp only[PV.holds]at h<;>
      first
       |exact⟨_,g.bind (by simp only[binOp,IL];exact(adW n _ a).bind .pure),h⟩
       |exact h.elim
    ·exact h.elim
 ·rename_i a l c s p;have g:=j (a:=.slice a l c) (b:=.slice none s p) (by simp) (by simp);split at h
  ·rename_i e;have n:=jK (o _ rfl);cases op<;>simp only[PV.holds]at h<;>
    first
     |exact⟨_,g.bind (by simp only[binOp,IL];exact(ZT n _ a l c s p).bind .pure),h⟩
     |exact h.elim
  ·exact h.elim
 ·obtain⟨r,i,f⟩:=h;exact⟨_,i,f⟩
 ·split at h
  ·obtain⟨r,i,f⟩:=h;exact⟨_,i,f⟩
  ·obtain⟨r,i,f⟩:=h;exact⟨_,i,f⟩
  ·obtain⟨r,i,f⟩:=h;exact⟨_,i,f⟩
 ·exact h.elim
end
theorem PB(a:List Value)(off n:Nat):((a.drop off).take n).toArray=(a.toArray).extract off (off+n):=by
 apply ym;simp[List.extract_eq_take_drop]
section
variable {C:BE} {ev:Operand->Option Value} {e:Operand->Value}
theorem nh(c:C.Ok):∀{b:List Field} {a:List (Nat×Nat)},placesOf C.T (b.map fun f=>(f.offset,f.type))=some a->
  aF C.P (b.mapM fun f=>(do pure (f.offset,<-sizeOf f.type):Sem (Nat×Nat))) a
 |[],a,h=>by cases h;exact .pure
 |f::r,a,h=>by
  simp only[List.map_cons,placesOf]at h;split at h
  ·rename_i j e;split at h
   ·rename_i g d;cases h;rw[List.mapM_cons];exact aF.bind ((dQ c e).bind .pure) ((nh c d).bind .pure)
   ·cases h
  ·cases h
theorem Ia(d:C.Ok){t:TypeId}{j:TI}(f:C.T.get t=some j)(g:∀b,j.cU≠.struct b)(c:∀n e,j.cU≠.array n e)(h3:j.cU≠.other)
  {a:Array Value} {off:Nat} {v:Value} (h:a[off]?=some v):aF C.P (part t a off) v:=by
 refine((ku d f).2.2 g c h3).bind ?_;rw[h];exact .pure
theorem PC(b:C.Ok){t:TypeId}{j:TI}(c:C.T.get t=some j)(h:(∃a,j.cU=.struct a)∨∃n e,j.cU=.array n e)
  {d:Array Value} {off:Nat}:aF C.P (part t d off) (.agg (d.extract off (off+j.size))):=by
 have f:aF C.P (isAgg t) true:=by
  rcases h with⟨a,h⟩|⟨n,e,h⟩
  ·exact(ku b c).1 a h
  ·exact(ku b c).2.1 n e h
 exact f.bind ((dQ b c).bind .pure)
theorem JS(I:C.Ok)(G:∀x v,ev x=some v->e x=v){o:Oper}{K:Value->Prop}(h:(BF C.P C.T o.op ev).holds K):
  ∃v,rT C.P (execOp e o) v/\K v:=by
 have M:∀t q,(C.T.get t).map (·.cU)=some q->iM (C.P.underlying t)=q:=fun t q h=>by
  cases F:C.T.get t with
  |none=>rw[F]at h;cases h
  |some i=>rw[F]at h;cases h;exact I.cU F
 cases hop:o.op<;>rw[hop]at h<;>simp only[BF]at h<;>simp only[execOp,hop]
 case move x=>
  split at h
  ·rename_i v A;rw[G _ _ A];exact⟨v,fun _=>rfl,h⟩
  ·exact h.elim
 case assign x=>
  split at h
  ·rename_i v A;rw[G _ _ A];exact⟨v,fun _=>rfl,h⟩
  ·exact h.elim
 case pick c a b=>
  split at h
  ·rename_i t x y O h2 h3;rw[G _ _ O,G _ _ h2,G _ _ h3];cases t
   ·exact⟨y,fun _=>rfl,h⟩
   ·exact⟨x,fun _=>rfl,h⟩
  ·exact h.elim
 case nilCheck x=>
  split at h
  ·rename_i p hp;obtain⟨a,rfl,B⟩:=h;rw[G _ _ hp];exact⟨_,fun _=>rfl,B⟩
  ·exact h.elim
 case fieldAddr s x f=>
  split at h
  ·rename_i a ha;rw[G _ _ ha];split at h
   ·rename_i i F;split at h
    ·rename_i fs Y;split at h
     ·rename_i off t ad;split at h
      ·rename_i j R;cases hz:wA j.size 0 with
       |true=>rw[hz]at h;exact h.elim
       |false=>
        rw[hz]at h;have E:=I.cU F;rw[Y]at E;obtain⟨gs,hg,rfl⟩:=oH E;simp only[qO,yX]at ad;obtain⟨g,a4,a0⟩:=ad;cases a0;refine⟨_,aF.next ((aM hg).bind ?_),h⟩;have ah:gs[f]?=some g:=by simpa using a4
        simp only[ah];refine aF.bind (v:=a) .pure (aF.bind (v:=a.add g.offset) ?_ .pure);unfold fieldPlace;refine(dQ I R).bind ?_;have:j.size≠0:=fun e=>by rw[e]at hz;cases hz
        rw[if_neg this];exact .pure
      ·exact h.elim
     ·exact h.elim
    ·exact h.elim
   ·exact h.elim
  ·exact h.elim
 case indexAddr t x ix=>
  split at h
  ·rename_i k n hn;rw[G _ _ hn];split at h
   ·rename_i p len cap S;rw[G _ _ S];split at h
    ·rename_i i F;split at h
     ·rename_i el D;split at h
      ·rename_i j R;obtain⟨a,⟨rfl,h0,O⟩,B⟩:=h;have E:=I.cU F;rw[D]at E;have H:=jK E;refine⟨_,aF.next ?_,B⟩;unfold Instr.indexAt;refine aF.bind (v:=(k,n)) .pure ?_;refine(aM H).bind ?_;refine aF.bind (v:=(some a,len,el)) .pure ?_;intro w;have:=dQ I R w;simp only[Sem.run_bind,aM H w,Result.andThen_ok];cases hl:decide (len<=1)<;>simp[h0,O,this]
      ·exact h.elim
     ·exact h.elim
    ·exact h.elim
   ·rename_i a S;rw[G _ _ S];split at h
    ·rename_i i F;split at h
     ·rename_i m el D;split at h
      ·rename_i j R;obtain⟨⟨h0,O⟩,B⟩:=h;have E:=I.cU F;rw[D]at E;have H:=rU E;refine⟨_,aF.next ?_,B⟩;unfold Instr.indexAt;refine aF.bind (v:=(k,n)) .pure ?_;refine(aM H).bind ?_;refine aF.bind (v:=(some a,m,el)) .pure ?_;intro w;have:=dQ I R w;simp only[Sem.run_bind,aM H w,Result.andThen_ok];cases hl:decide (m<=1)<;>simp[h0,O,this]
      ·exact h.elim
     ·exact h.elim
    ·exact h.elim
   ·exact h.elim
  ·exact h.elim
 case index t x ix=>
  split at h
  ·rename_i k n hn;rw[G _ _ hn];split at h
   ·rename_i s S;rw[G _ _ S];split at h
    ·rename_i i F;split at h
     ·rename_i D;obtain⟨b,⟨h0,O⟩,B⟩:=h;have E:=I.cU F;rw[D]at E;have H:=uv E;refine⟨_,aF.next ?_,B⟩;unfold Instr.index;refine aF.bind (v:=(k,n)) .pure ?_;refine(aM H).bind ?_;have hb:s[n.toNat]?=some b:=by
       rw[Array.getElem?_eq_some_iff]at O;obtain⟨bq,hg⟩:=O;have a6:n.toNat<s.size:=bq;rw[getElem?_pos s n.toNat a6];exact congrArg some hg
      simp only[h0,if_true,hb];exact .pure
     ·exact h.elim
    ·exact h.elim
   ·rename_i cs S;rw[G _ _ S];split at h
    ·rename_i i F;split at h
     ·rename_i m el D;split at h
      ·rename_i j R;split at h
       ·rename_i s hs;have E:=I.cU F;rw[D]at E;have H:=rU E;have am:(∃y,(0<=n/\n<(m:Int)/\cs[n.toNat]?=some (s.enc y))/\K (s.enc y))->(∀fs,j.cU≠.struct fs)->(∀n e,j.cU≠.array n e)->j.cU≠.other->j.size=1->
          ∃v,rT C.P (do pure (.value (<-Instr.index t (.agg cs) (.int k n)))) v/\K v:=by
         rintro⟨y,⟨h0,O,h2⟩,B⟩ d1 d2 d3 bk;refine⟨_,aF.next ?_,B⟩;unfold Instr.index;refine aF.bind (v:=(k,n)) .pure ?_;refine(aM H).bind ?_;simp only[h0,O,and_self,if_true];refine(dQ I R).bind ?_;rw[bk,Nat.mul_one];exact Ia I R d1 d2 d3 h2
        split at h
        ·exact h.elim
        ·exact h.elim
        ·exact h.elim
        ·rename_i d1 d2 d3;cases hz:wA j.size 1 with
         |false=>rw[hz]at h;exact h.elim
         |true=>
          rw[hz]at h;exact am h d1 d2 d3 (zG hz)
       ·exact h.elim
      ·exact h.elim
     ·exact h.elim
    ·exact h.elim
   ·exact h.elim
  ·exact h.elim
 case field s x f=>
  split at h
  ·rename_i cs S;rw[G _ _ S];split at h
   ·rename_i i F;split at h
    ·rename_i fs Y;split at h
     ·rename_i off t ad;split at h
      ·rename_i j R;have E:=I.cU F;rw[Y]at E;obtain⟨gs,hg,rfl⟩:=oH E;simp only[qO,yX]at ad;obtain⟨g,a4,a0⟩:=ad;cases a0;have ah:gs[f]?=some g:=by simpa using a4
       have am:∀v,aF C.P (part g.type ⟨cs⟩ g.offset) v->K v->∃v,rT C.P (do pure (.value (<-Instr.field s (.agg ⟨cs⟩) f))) v/\K v:=by
        intro v A B;refine⟨v,aF.next ((aM hg).bind ?_),B⟩;simp only[ah];exact aF.bind (v:=(⟨cs⟩:Array Value)) .pure A
       split at h
       ·rename_i b0 ap;refine am _ (PC I R (.inl ⟨_,ap⟩)) ?_;rw[<-PB];exact h
       ·rename_i n' e' ap;refine am _ (PC I R (.inr ⟨_,_,ap⟩)) ?_;rw[<-PB];exact h
       ·exact h.elim
       ·rename_i d1 d2 d3;split at h
        ·rename_i v A;exact am v (Ia I R d1 d2 d3 (by simpa using A)) h
        ·exact h.elim
      ·exact h.elim
     ·exact h.elim
    ·exact h.elim
   ·exact h.elim
  ·exact h.elim
 case slice t x V hi0 mx=>
  split at h
  ·exact h.elim
  ·split at h
   ·rename_i l r hl hr;have ay:(V=none/\l=none)∨∃y k m,V=some y/\e y=.int k m/\l=some m:=by
     cases V with
     |none=>cases hl;exact .inl ⟨rfl,rfl⟩
     |some y=>
      simp only[JR]at hl;split at hl
      ·rename_i k m hm;cases hl;exact .inr ⟨y,k,m,rfl,G _ _ hm,rfl⟩
      ·cases hl
    have ax:(hi0=none/\r=none)∨∃y k m,hi0=some y/\e y=.int k m/\r=some m:=by
     cases hi0 with
     |none=>cases hr;exact .inl ⟨rfl,rfl⟩
     |some y=>
      simp only[JR]at hr;split at hr
      ·rename_i k m hm;cases hr;exact .inr ⟨y,k,m,rfl,G _ _ hm,rfl⟩
      ·cases hr
    have J:∀(bb:Bool) (len cap:Nat) (V F:Option Value) (a b:Nat),(V=none->a=0)->(∀v,V=some v->∃k m,v=.int k m/\0<=m/\a=m.toNat/\m<=(b:Int))->
      (F=none->b=len)->(∀v,F=some v->∃k m,v=.int k m/\0<=m/\b=m.toNat/\m<=(cap:Int))->
      aF C.P (wx bb len cap V F none) (a,b,cap):=by
     intro bb len cap V F a b O h2 h3 h4 w;cases F with
     |none=>
      have e1:=h3 rfl;subst e1;cases V with
      |none=>rw[O rfl];simp[wx]
      |some v=>
       obtain⟨k,m,rfl,x1,rfl,x2⟩:=h2 v rfl;simp[wx,vK,asIntOf,x1,x2]
     |some u=>
      obtain⟨k',W,rfl,y1,rfl,y2⟩:=h4 u rfl;cases V with
      |none=>rw[O rfl];simp[wx,vK,asIntOf,y1,y2]
      |some v=>
       obtain⟨k,m,rfl,x1,rfl,x2⟩:=h2 v rfl;have x3:¬max W 0<m:=by omega
       simp[wx,vK,asIntOf,x1,y1,y2,x3]
    split at h
    ·rename_i p len cap S;rw[G _ _ S];split at h
     ·rename_i i F;split at h
      ·rename_i el D;split at h
       ·rename_i j R;have E:=I.cU F;rw[D]at E;have H:=jK E;have fin:∀(a b:Nat) (v:Value),aF C.P (wx true len cap (V.map e) (hi0.map e) none) (a,b,cap)->
          v=.slice (if cap=a then p else p.map (·.add (a*j.size))) (b-a) (cap-a)->K v->
          ∃v,rT C.P (do pure (.value (<-w7 t (.slice p len cap) (V.map e) (hi0.map e) (xk e none)))) v/\K v:=by
         intro a b v hb A B;refine⟨v,aF.next ?_,B⟩;unfold w7;refine(aM H).bind ?_;simp only[xi,Option.map_none];refine(aM H).bind ?_;refine hb.bind ?_;subst A;exact(dQ I R).bind .pure
        have ab:(if cap=0 then p else p.map (·.add (0*j.size)))=p:=by
         cases p<;>simp[Addr.add]
        rcases ay with⟨rfl,rfl⟩|⟨y,k,m,rfl,hy,rfl⟩<;>rcases ax with⟨rfl,rfl⟩|⟨y',k',W,rfl,hy',rfl⟩
        ·exact fin 0 len _ (J _ _ _ _ _ _ _ (fun _=>rfl) (by simp) (fun _=>rfl) (by simp)) (by rw[ab];rfl) h
        ·obtain⟨⟨U,Z⟩,B⟩:=h;exact fin 0 W.toNat _ (J _ _ _ _ _ _ _ (fun _=>rfl) (by simp) (by simp) (fun v A=>by cases A;exact⟨k',W,hy',U,rfl,Z⟩)) (by rw[ab];rfl) B
        ·obtain⟨⟨U,Z⟩,B⟩:=h;exact fin m.toNat len _ (J _ _ _ _ _ _ _ (by simp) (fun v A=>by cases A;exact⟨k,m,hy,U,rfl,Z⟩) (fun _=>rfl) (by simp)) rfl B
        ·obtain⟨⟨U,Z,a3⟩,B⟩:=h;exact fin m.toNat W.toNat _ (J _ _ _ _ _ _ _ (by simp) (fun v A=>by cases A;exact⟨k,m,hy,U,rfl,by omega⟩) (by simp) (fun v A=>by cases A;exact⟨k',W,hy',by omega,rfl,a3⟩)) rfl B
       ·exact h.elim
      ·exact h.elim
     ·exact h.elim
    ·rename_i s S;rw[G _ _ S];split at h
     ·rename_i i F;split at h
      ·rename_i D;have E:=I.cU F;rw[D]at E;have H:=uv E;have fin:∀(a b:Nat) (v:Value),aF C.P (wx false s.size s.size (V.map e) (hi0.map e) none) (a,b,s.size)->
         v=.string (s.extract a b)->K v->
         ∃v,rT C.P (do pure (.value (<-w7 t (.string s) (V.map e) (hi0.map e) (xk e none)))) v/\K v:=by
        intro a b v hb A B;refine⟨v,aF.next ?_,B⟩;unfold w7;refine(aM H).bind ?_;simp only[xi,Option.map_none];refine(aM H).bind ?_;subst A;intro w;simp[hb w]
       rcases ay with⟨rfl,rfl⟩|⟨y,k,m,rfl,hy,rfl⟩<;>rcases ax with⟨rfl,rfl⟩|⟨y',k',W,rfl,hy',rfl⟩
       ·exact fin 0 s.size _ (J _ _ _ _ _ _ _ (fun _=>rfl) (by simp) (fun _=>rfl) (by simp)) rfl h
       ·obtain⟨⟨U,Z⟩,B⟩:=h;exact fin 0 W.toNat _ (J _ _ _ _ _ _ _ (fun _=>rfl) (by simp) (by simp) (fun v A=>by cases A;exact⟨k',W,hy',U,rfl,Z⟩)) rfl B
       ·obtain⟨⟨U,Z⟩,B⟩:=h;exact fin m.toNat s.size _ (J _ _ _ _ _ _ _ (by simp) (fun v A=>by cases A;exact⟨k,m,hy,U,rfl,Z⟩) (fun _=>rfl) (by simp)) rfl B
       ·obtain⟨⟨U,Z,a3⟩,B⟩:=h;exact fin m.toNat W.toNat _ (J _ _ _ _ _ _ _ (by simp) (fun v A=>by cases A;exact⟨k,m,hy,U,rfl,by omega⟩) (by simp) (fun v A=>by cases A;exact⟨k',W,hy',by omega,rfl,a3⟩)) rfl B
      ·exact h.elim
     ·exact h.elim
    ·rename_i a S;rw[G _ _ S];split at h
     ·rename_i i F;split at h
      ·rename_i n el D;split at h
       ·rename_i j R;have E:=I.cU F;rw[D]at E;have H:=rU E;have fin:∀(a' b:Nat) (v:Value),aF C.P (wx false n n (V.map e) (hi0.map e) none) (a',b,n)->
          v=.slice (some (if n=a' then a else a.add (a'*j.size))) (b-a') (n-a')->K v->
          ∃v,rT C.P (do pure (.value (<-w7 t (.pointer (some a)) (V.map e) (hi0.map e) (xk e none)))) v/\K v:=by
         intro a' b v hb A B;refine⟨v,aF.next ?_,B⟩;unfold w7;refine(aM H).bind ?_;simp only[Option.map_none];refine aF.bind (v:=a) .pure ?_;refine hb.bind ?_;subst A;exact(dQ I R).bind .pure
        have ab:(if n=0 then a else a.add (0*j.size))=a:=by simp[Addr.add]
        rcases ay with⟨rfl,rfl⟩|⟨y,k,m,rfl,hy,rfl⟩<;>rcases ax with⟨rfl,rfl⟩|⟨y',k',W,rfl,hy',rfl⟩
        ·exact fin 0 n _ (J _ _ _ _ _ _ _ (fun _=>rfl) (by simp) (fun _=>rfl) (by simp)) (by rw[ab];rfl) h
        ·obtain⟨⟨U,Z⟩,B⟩:=h;exact fin 0 W.toNat _ (J _ _ _ _ _ _ _ (fun _=>rfl) (by simp) (by simp) (fun v A=>by cases A;exact⟨k',W,hy',U,rfl,Z⟩)) (by rw[ab];rfl) B
        ·obtain⟨⟨U,Z⟩,B⟩:=h;exact fin m.toNat n _ (J _ _ _ _ _ _ _ (by simp) (fun v A=>by cases A;exact⟨k,m,hy,U,rfl,Z⟩) (fun _=>rfl) (by simp)) rfl B
        ·obtain⟨⟨U,Z,a3⟩,B⟩:=h;exact fin m.toNat W.toNat _ (J _ _ _ _ _ _ _ (by simp) (fun v A=>by cases A;exact⟨k,m,hy,U,rfl,by omega⟩) (by simp) (fun v A=>by cases A;exact⟨k',W,hy',by omega,rfl,a3⟩)) rfl B
       ·exact h.elim
      ·exact h.elim
     ·exact h.elim
    ·exact h.elim
   ·exact h.elim
 case extract x n=>
  split at h
  ·rename_i vs S;rw[G _ _ S];split at h
   ·rename_i v A;refine⟨v,aF.next ?_,h⟩;have:(⟨vs⟩:Array Value)[n]?=some v:=by simpa using A
    simp only[Instr.extract,this];exact .pure
   ·exact h.elim
  ·exact h.elim
 case binOp op t x y u=>
  split at h
  ·rename_i a b ha hb;rw[G _ _ ha,G _ _ hb];obtain⟨v,A,B⟩:=UV (P:=C.P) (x:=x) (y:=y) (M t) h;exact⟨v,A.next,B⟩
  ·exact h.elim
 case unOp op t x=>
  split at h
  ·rename_i v A;rw[G _ _ A];unfold unV at h;split at h
   ·split at h
    ·exact⟨_,aF.next .pure,h⟩
    ·exact h.elim
   ·split at h
    ·exact⟨_,aF.next .pure,h⟩
    ·exact⟨_,aF.next .pure,h⟩
    ·exact h.elim
   ·exact h.elim
  ·exact h.elim
 case convert s d x=>
  split at h
  ·rename_i v ks A br;rw[G _ _ A];have hs:=Hi (M _ _ br);unfold abR at h;split at h
   ·split at h
    ·rename_i n _ k B;have H:=Hi (M _ _ B);refine⟨_,aF.next ?_,h⟩;unfold convert;refine(aM hs).bind ((aM H).bind ?_);exact .pure
    ·exact h.elim
   ·exact h.elim
  ·exact h.elim
 case build t parts=>
  split at h
  ·rename_i vs bl;have hp:(parts.map fun(i,x)=>(i,e x)).toList=vs:=by
    have:=HZ G bl;simpa using this
   split at h
   ·rename_i i F;obtain⟨z,hz,bd⟩:=rJ I F;have ao:i.zero.toArray=z.cells:=by rw[<-bd]
    cases hbig:vM 24 i.size with
    |true=>
     rw[hbig]at h;obtain⟨v,A,B⟩:=h;have a8:(parts.map fun(i,x)=>(i,e x))=vs.toArray:=by rw[<-hp]
     refine⟨v,aF.next ?_,B⟩;show aF C.P (va t (parts.map fun(i,x)=>(i,e x))) v;rw[a8];exact A
    |false=>
    rw[hbig]at h;simp only[cond_false]at h;split at h
    ·rename_i fs Y;have E:=I.cU F;rw[Y]at E;obtain⟨gs,hg,rfl⟩:=oH E;split at h
     ·rename_i ps a7;split at h
      ·rename_i cells Q;refine⟨_,aF.next (hz.bind ((aM hg).bind ?_)),h⟩;have a9:aF C.P (gs.mapM fun f=>(do pure (f.offset,<-sizeOf f.type):Sem (Nat×Nat))) ps.toArray:=by
        rw[vk];intro w;have:=nh I a7 w;rw[map_eq_pure_bind,Sem.run_bind,this];rfl
       refine a9.bind ?_;have a5:wo (fun n=>ps.toArray[n]?) z.cells (parts.map fun(i,x)=>(i,e x)).toList=some cells:=by
        rw[hp,<-ao];simpa using Q
       rw[a5];exact .pure
      ·exact h.elim
     ·exact h.elim
    ·rename_i n el Y;have E:=I.cU F;rw[Y]at E;have H:=rU E;split at h
     ·rename_i j R;split at h
      ·rename_i cells Q;refine⟨_,aF.next (hz.bind ((aM H).bind ((dQ I R).bind ?_))),h⟩;have a5:wo (fun i=>some (i*j.size,j.size)) z.cells (parts.map fun(i,x)=>(i,e x)).toList=some cells:=by
        rw[hp,<-ao];exact Q
       rw[a5];exact .pure
      ·exact h.elim
     ·exact h.elim
    ·exact h.elim
   ·exact h.elim
  ·exact h.elim
 case makeFunc fn first captured=>
  split at h
  ·rename_i a b ha hb;have O:first.map e=a.toArray:=by apply ym;simpa using CH G ha
   have h2:captured.map e=b.toArray:=by apply ym;simpa using CH G hb
   refine⟨_,aF.next ?_,h⟩;rw[O,h2];exact .pure
  ·exact h.elim
 case call c=>
  split at h
  ·rename_i b hb;have L:∀{v:Value},aF C.P (builtin b c.argTypes o.type (c.args.map fun| .const _=>true|_=>false) (c.args.map e)) (.value v)->
     rT C.P (do let d<-resolve e c o.type;invoke d.target d.args) v:=by
    intro v A w;have:=A w;unfold resolve;rw[hb];exact this
   have N:∀{vs:List Value},pL ev c.args.toList=some vs->c.args.map e=vs.toArray:=fun A=>by
    apply ym;simpa using CH G A
   have X:∀{s:Sem Value} {v:Value},aF C.P s v->aF C.P (do pure (Next.value (<-s))) (.value v):=fun hs=>hs.bind .pure;split at h
   case h_1=>
    split at h
    ·rename_i t ts x O h2;split at h
     ·rename_i v A;have ha:c.args.map e=#[v]:=by
       apply ym;rw[vL,h2];simp[G _ _ A]
      have ht:c.argTypes[0]?=some t:=by
       rw[<-y8,O];rfl
      unfold adU at h;split at h
      ·rename_i p n cap;split at h
       ·rename_i el D;have H:=jK (M _ _ D);refine⟨_,L ?_,h⟩;rw[ha];refine X ?_;intro w;simp[Builtin.len_,ht,underlying,H,goInt]
       ·exact h.elim
      ·rename_i s;split at h
       ·rename_i D;have H:=uv (M _ _ D);refine⟨_,L ?_,h⟩;rw[ha];refine X ?_;intro w;simp[Builtin.len_,ht,underlying,H,goInt]
       ·exact h.elim
      ·exact h.elim
     ·exact h.elim
    ·exact h.elim
   case h_2=>
    split at h
    ·rename_i t ts x O h2;split at h
     ·rename_i v A;have ha:c.args.map e=#[v]:=by
       apply ym;rw[vL,h2];simp[G _ _ A]
      have ht:c.argTypes[0]?=some t:=by
       rw[<-y8,O];rfl
      unfold adV at h;split at h
      ·rename_i p n cap;split at h
       ·rename_i el D;have H:=jK (M _ _ D);refine⟨_,L ?_,h⟩;rw[ha];refine X ?_;intro w;simp[Builtin.cap_,ht,underlying,H,goInt]
       ·exact h.elim
      ·exact h.elim
     ·exact h.elim
    ·exact h.elim
   case h_3=>
    split at h
    ·rename_i k a k' b A;refine⟨_,L ?_,h⟩;rw[N A];refine X ?_;intro w;simp[Builtin.min_,Builtin.min2]
    ·exact h.elim
   case h_4=>
    split at h
    ·rename_i k a k' b A;refine⟨_,L ?_,h⟩;rw[N A];refine X ?_;intro w;simp[Builtin.max_,Builtin.max2]
    ·exact h.elim
   case h_5=>
    split at h
    ·rename_i k a b A;refine⟨_,L ?_,h⟩;rw[N A];exact X .pure
    ·exact h.elim
   case h_6=>
    split at h
    ·rename_i k a b A;refine⟨_,L ?_,h⟩;rw[N A];exact X .pure
    ·exact h.elim
   all_goals exact h.elim
  ·exact h.elim
 all_goals exact h.elim
end
def aj(h:Heap)(a:Addr):Nat->List Value->Prop
 |_,[]=>True
 |n,v::r=>cellOf h (a.add n)=some v/\aj h a (n+1) r
structure Ak where
 a:Addr
 ty:Ty
 n:Nat
def Ak.holds(r:Ak)(h:Heap)(y:r.ty.den):Prop:=
 match r.ty,y with
 | .sc s,y=>cellOf h r.a=some (s.enc y)
 | .agg l,y=>aj h r.a 0 (AT l y)
 | .arr s,y=>y.length=r.n/\aj h r.a 0 (y.map s.enc)
def uH(T:lM)(op:Op)(ev:Operand->Option Value):Option Ak:=
 match op with
 | .load t x=>match ev x with
  |some (.pointer (some a))=>match T.get t with
   |some i=>match i.cU with
    | .struct _=>match i.ty with
     | .agg l=>bif wA l.length i.size then some ⟨a,i.ty,i.size⟩else none
     |_=>none
    | .array _ _=>match i.ty with
     | .arr _=>some ⟨a,i.ty,i.size⟩
     |_=>none
    | .other=>none
    |_=>match i.ty with
     | .sc _=>some ⟨a,i.ty,1⟩
     |_=>none
   |none=>none
  |_=>none
 |_=>none
theorem Ib:∀(l:List Sc) (x:Mm l),(AT l x).length=l.length
 |[],_=>rfl
 |[_],_=>rfl
 |_::t::r,x=>by simp only[AT,q9];rw[Ib (t::r) x.2];rfl
theorem run_loadCells{P:Program}{w:World}{a:Addr}:∀(vs:List Value) (i:Nat) (b:Array Value),aj w.heap a i vs->
  (loadCellsFrom a i vs.length b).run P w=.ok (b++vs.toArray) w
 |[],i,b,_=>by simp[loadCellsFrom]
 |v::r,i,b,h=>by
  simp only[q9,loadCellsFrom,Sem.run_bind,run_load,Mk,h.1,Result.andThen_ok];rw[run_loadCells r (i+1) (b.push v) h.2];simp
theorem CI{C:BE}(m:C.Ok){ev:Operand->Option Value}{e:Operand->Value}(H:∀x v,ev x=some v->e x=v){o:Oper}{r:Ak}
  (b:uH C.T o.op ev=some r) {y:r.ty.den} {w:World} (d:r.holds w.heap y):(execOp e o).run C.P w=.ok (.value (r.ty.enc y)) w:=by
 unfold uH at b;split at b
 ·rename_i t x u;simp only[execOp,u];split at b
  ·rename_i a B;rw[H _ _ B];split at b
   ·rename_i i k;have f:(∀v,(loadVar t a).run C.P w=.ok v w->(do let s<-vS t (.pointer (some a));pure (Next.value s):Sem Next).run C.P w=.ok (.value v) w):=by
     intro v D;have:vS t (.pointer (some a))=loadVar t a:=rfl;rw[this,Sem.run_bind,D];rfl
    split at b
    ·rename_i A h;split at b
     ·rename_i l g;cases hb:wA l.length i.size with
      |false=>rw[hb]at b;cases b
      |true=>
       rw[hb]at b;simp only[cond_true,zM.injEq]at b;subst b;have j:=zG hb;have c:∀(ty:Ty) (y:ty.den),ty=.agg l->Ak.holds ⟨a,ty,i.size⟩ w.heap y->(loadVar t a).run C.P w=.ok (ty.enc y) w:=by
        rintro ty y rfl d;unfold loadVar;rw[Sem.run_bind,(ku m k).1 A h w];simp only[Result.andThen_ok,if_true,Sem.run_bind,dQ m k w];have p:=run_loadCells (P:=C.P) (w:=w) (a:=a) (AT l y) 0 #[] d;rw[Ib,j]at p;unfold loadCells;rw[p];simp
       exact f _ (c i.ty y g d)
     ·cases b
    ·rename_i n F h;split at b
     ·rename_i s g;cases b;have c:∀(ty:Ty) (y:ty.den),ty=.arr s->Ak.holds ⟨a,ty,i.size⟩ w.heap y->(loadVar t a).run C.P w=.ok (ty.enc y) w:=by
       rintro ty y rfl ⟨g,d⟩;unfold loadVar;rw[Sem.run_bind,(ku m k).2.1 n F h w];simp only[Result.andThen_ok,if_true,Sem.run_bind,dQ m k w];have p:=run_loadCells (P:=C.P) (w:=w) (a:=a) (y.map s.enc) 0 #[] d;rw[List.length_map,g]at p;unfold loadCells;rw[p];simp
      exact f _ (c i.ty y g d)
     ·cases b
    ·cases b
    ·rename_i G z E;split at b
     ·rename_i s g;cases b;have c:∀(ty:Ty) (y:ty.den),ty=.sc s->Ak.holds ⟨a,ty,1⟩ w.heap y->(loadVar t a).run C.P w=.ok (ty.enc y) w:=by
       rintro ty y rfl d;have q:cellOf w.heap a=some (s.enc y):=d;unfold loadVar;rw[Sem.run_bind,(ku m k).2.2 G z E w];simp[Mk,q]
      exact f _ (c i.ty y g d)
     ·cases b
   ·cases b
  ·cases b
 ·cases b
def Typed(t:Ty)(K:Value->Heap->Prop)(v:Value)(h:Heap):Prop:=∃x:t.den,v=t.enc x/\K (t.enc x) h
def JT(t:Rt)(K:Value->Heap->Prop)(v:Value)(h:Heap):Prop:=∃x:t.den,v=t.enc x/\K (t.enc x) h
def JU(K:Value->Heap->Prop)(v:Value)(h:Heap):Prop:=∃a:Addr,v=.pointer (some a)/\K (.pointer (some a)) h
def adX(T:lM)(t:TypeId)(tup:List (TypeId×List Ty)):Option Rt:=
 match tup.find? (fun p=>wA p.1 t)with
 |some p=>some (.many p.2)
 |none=>match T.get t with
  |some i=>some (.one i.ty)
  |none=>none
structure Ctx extends BE where
 tup:List (TypeId×List Ty)
 fns:List Bool
structure Ctx.Ok (C:Ctx):Prop extends BE.Ok C.toBE where
 fns:(C.P.funcs.toList.map fun f=>!(f.name== "runtime.NumGoroutine")&&f.body.isSome)=C.fns
def UW(C:Ctx)(g:FuncId)(args:List Value)(t:TypeId)(K:Value->Heap->Prop)(h:Heap):Prop:=
 match C.fns[g]? with
 |some true=>match adX C.T t C.tup with
  |some r=>ac C.P g args.toArray h (JT r K)
  |none=>False
 |_=>False
def JV(C:Ctx)(o:Oper)(ev:Operand->Option Value)(K:Value->Heap->Prop)(h:Heap):Prop:=
 match o.op with
 | .store t a x=>match ev a,ev x with
  |some p,some v=>ag C.P (Instr.storeAt t p v) h fun _ h'=>K undef h'
  |_,_=>False
 | .alloc t=>ag C.P (Instr.alloc t true (.tuple #[])) h (JU K)
 | .box t x=>match ev x with
  |some v=>ag C.P (Instr.box t v) h (JU K)
  |none=>False
 | .makeSlice t l c=>match ev l,ev c with
  |some l,some c=>ag C.P (Instr.makeSlice t l c) h (Typed (.sc .slc) K)
  |_,_=>False
 | .buildSlice t n parts=>match EU ev parts.toList with
  |some ps=>ag C.P (Instr.buildSlice t n ps.toArray) h (Typed (.sc .slc) K)
  |none=>False
 | .makeMap t none=>ag C.P (Instr.makeMap t none) h (Typed (.sc .mp) K)
 | .lookup t x ix ok=>match ev x,ev ix,adX C.T o.type C.tup with
  |some m,some k,some r=>ag C.P (Instr.lookup t m k ok) h (JT r K)
  |_,_,_=>False
 | .mapUpdate t m k x=>match ev m,ev k,ev x with
  |some m,some k,some v=>ag C.P (Instr.mapUpdate t m k v) h fun _ h'=>K undef h'
  |_,_,_=>False
 | .convert s d x=>match ev x,C.T.get o.type with
  |some v,some i=>ag C.P (convert s d v) h (Typed i.ty K)
  |_,_=>False
 | .binOp op t x y _=>match ev x,ev y,C.T.get o.type with
  |some a,some b,some i=>ag C.P (do eqGuard op t x y a b;binOp op t a b) h (Typed i.ty K)
  |some a,some b,none=>ag C.P (do eqGuard op t x y a b;binOp op t a b) h (Typed (.sc .bool) K)
  |_,_,_=>False
 | .slice t x lo hi mx=>match optVal ev lo,optVal ev hi,optVal ev mx,ev x with
  |some l,some r,some m,some v=>ag C.P (w7 t v l r m) h (Typed (.sc .slc) K)
  |_,_,_,_=>False
 | .call c=>match c.callee with
  | .builtin .append=>match pL ev c.args.toList with
   |some vs=>ag C.P (Builtin.append_ c.argTypes o.type vs.toArray) h (Typed (.sc .slc) K)
   |none=>False
  | .builtin .copy=>match pL ev c.args.toList with
   |some vs=>ag C.P (Builtin.copy_ c.argTypes o.type vs.toArray) h (Typed (.sc (.int .i64)) K)
   |none=>False
  | .builtin .clear=>match pL ev c.args.toList with
   |some vs=>ag C.P (Builtin.clear_ c.argTypes o.type vs.toArray) h K
   |none=>False
  | .builtin .len=>match pL ev c.args.toList with
   |some vs=>ag C.P (Builtin.len_ c.argTypes o.type vs.toArray) h (Typed (.sc (.int .i64)) K)
   |none=>False
  | .builtin .unsafeString=>match pL ev c.args.toList with
   |some vs=>ag C.P (Builtin.unsafeString_ c.argTypes o.type vs.toArray) h (Typed (.sc .str) K)
   |none=>False
  | .builtin .delete=>match pL ev c.args.toList with
   |some vs=>ag C.P (Builtin.delete_ c.argTypes o.type vs.toArray) h K
   |none=>False
  | .value f=>match ev f,pL ev c.args.toList with
   |some (.func (.func g) ⟨first⟩ ⟨caps⟩),some vs=>UW C g (first++vs++caps) o.type K h
   |_,_=>False
  |_=>False
 |_=>False
where
 optVal (ev:Operand->Option Value):Option Operand->Option (Option Value)
  |none=>some none
  |some x=>match ev x with
   |some v=>some (some v)
   |none=>none
section
variable {P:Program} {h:Heap} {K:Value->Heap->Prop}
theorem fH{s:Sem Value}(b:ag P s h K):BC P (do pure (.value (<-s))) h K:=
 ag.bind (b.mono fun _ _ a=>ag.pure' a)
theorem PD{s:Sem Unit}(a:ag P s h fun _ h'=>K undef h'):BC P (do s;pure .skip) h K:=
 ag.bind (a.mono fun _ _ b=>ag.pure' b)
theorem Typed.out{t:Ty}{v:Value}{h:Heap}(x:Typed t K v h):K v h:=by obtain⟨y,rfl,a⟩:=x;exact a
theorem JT.out{t:Rt}{v:Value}{h:Heap}(x:JT t K v h):K v h:=by obtain⟨y,rfl,a⟩:=x;exact a
theorem JU.out{v:Value}{h:Heap}(x:JU K v h):K v h:=by obtain⟨y,rfl,a⟩:=x;exact a
end
theorem Sv{C:Ctx}(f:C.Ok){g:FuncId}{args:List Value}{t:TypeId}{K:Value->Heap->Prop}{h:Heap}(b:UW C g args t K h):
  BC C.P (callFunc g args.toArray) h K:=by
 unfold UW at b;split at b
 ·rename_i d;split at b
  ·rename_i r i;have a:=congrArg (·[g]?) f.fns;simp only[qO,d]at a;cases hf:C.P.funcs.toList[g]? with
   |none=>rw[hf]at a;cases a
   |some fn=>
    rw[hf]at a;simp only[qL,zM.injEq,qz,Bool.not_eq_true']at a;have c:C.P.funcs[g]?=some fn:=by simpa using hf
    have e:fn.body.isNone=false:=by cases hbb:fn.body<;>simp[hbb]at a⊢
    unfold callFunc;refine ag.bind (ag.ZO ?_);simp only[c,a.1,e];exact ag.pure' (b.mono fun v h' x=>x.out)
  ·exact b.elim
 ·exact b.elim
theorem UX{C:Ctx}(X:C.Ok){ev:Operand->Option Value}{e:Operand->Value}(A:∀x v,ev x=some v->e x=v){o:Oper}
  {K:Value->Heap->Prop} {h:Heap} (j:JV C o ev K h):BC C.P (execOp e o) h K:=by
 have G:∀{x:Option Operand} {r:Option Value},JV.optVal ev x=some r->x.map e=r:=by
  intro x r H;cases x with
  |none=>cases H;rfl
  |some y=>
   simp only[JV.optVal]at H;split at H
   ·rename_i v B;cases H;rw[qL,A _ _ B]
   ·cases H
 unfold JV at j;split at j
 ·rename_i t a x q;simp only[execOp,q];split at j
  ·rename_i p v V B;rw[A _ _ V,A _ _ B];exact PD j
  ·exact j.elim
 ·rename_i t q;simp only[execOp,q];exact fH (j.mono fun _ _ x=>x.out)
 ·rename_i t x q;simp only[execOp,q];split at j
  ·rename_i v B;rw[A _ _ B];exact fH (j.mono fun _ _ x=>x.out)
  ·exact j.elim
 ·rename_i t l c q;simp only[execOp,q];split at j
  ·rename_i v u B S;rw[A _ _ B,A _ _ S];exact fH (j.mono fun _ _ x=>x.out)
  ·exact j.elim
 ·rename_i t n parts q;simp only[execOp,q];split at j
  ·rename_i U L;have:(parts.map fun(i,x)=>(i,e x))=U.toArray:=by
    apply ym;have:=HZ A L;simpa using this
   rw[this];exact fH (j.mono fun _ _ x=>x.out)
  ·exact j.elim
 ·rename_i t q;simp only[execOp,q];exact fH (j.mono fun _ _ x=>x.out)
 ·rename_i t x ix ok q;simp only[execOp,q];split at j
  ·rename_i m k r J F R;rw[A _ _ J,A _ _ F];exact fH (j.mono fun _ _ x=>x.out)
  ·exact j.elim
 ·rename_i t m k x q;simp only[execOp,q];split at j
  ·rename_i m' Y v J F B;rw[A _ _ J,A _ _ F,A _ _ B];exact PD j
  ·exact j.elim
 ·rename_i s d x q;simp only[execOp,q];split at j
  ·rename_i v i B Q;rw[A _ _ B];exact fH (j.mono fun _ _ x=>x.out)
  ·exact j.elim
 ·rename_i op t x y u q;simp only[execOp,q];split at j
  ·rename_i a b i N M Q;rw[A _ _ N,A _ _ M];exact fH (j.mono fun _ _ x=>x.out)
  ·rename_i a b N M Q;rw[A _ _ N,A _ _ M];exact fH (j.mono fun _ _ x=>x.out)
  ·exact j.elim
 ·rename_i t x lo Q Z q;simp only[execOp,q];split at j
  ·rename_i l r m v T R J B;rw[G T,G R,G J,A _ _ B];exact fH (j.mono fun _ _ x=>x.out)
  ·exact j.elim
 ·rename_i c q;simp only[execOp,q];have w:∀{vs:List Value},pL ev c.args.toList=some vs->c.args.map e=vs.toArray:=fun B=>by
   apply ym;simpa using CH A B
  split at j
  ·rename_i D;split at j
   ·rename_i vs z;unfold resolve;rw[D,w z];exact fH (j.mono fun _ _ x=>x.out)
   ·exact j.elim
  ·rename_i D;split at j
   ·rename_i vs z;unfold resolve;rw[D,w z];exact fH (j.mono fun _ _ x=>x.out)
   ·exact j.elim
  ·rename_i D;split at j
   ·rename_i vs z;unfold resolve;rw[D,w z];exact fH j
   ·exact j.elim
  ·rename_i D;split at j
   ·rename_i vs z;unfold resolve;rw[D,w z];exact fH (j.mono fun _ _ x=>x.out)
   ·exact j.elim
  ·rename_i D;split at j
   ·rename_i vs z;unfold resolve;rw[D,w z];exact fH (j.mono fun _ _ x=>x.out)
   ·exact j.elim
  ·rename_i D;split at j
   ·rename_i vs z;unfold resolve;rw[D,w z];exact fH j
   ·exact j.elim
  ·rename_i f D;split at j
   ·rename_i g first E vs W z
    unfold resolve;rw[D,w z];simp only[A _ _ W];have:=Sv X j;have I:(⟨first⟩:Array Value)++vs.toArray++(⟨E⟩:Array Value)=(first++vs++E).toArray:=by simp
    have O:BC C.P (callFunc g ((⟨first⟩:Array Value)++vs.toArray++(⟨E⟩:Array Value))) h K:=by rw[I];exact this
    simp only[Deferred.ofValue];exact O
   ·exact j.elim
  ·exact j.elim
 ·exact j.elim
def put(n:Nat)(a:Option Tmp)(K:Env->Heap->Prop)(ρ:Env)(v:Value)(h:Heap):Prop:=
 match a with
 |some d=>bif vM d n then K (.val d v::ρ) h else False
 |none=>K ρ h
theorem uI{n:Nat}{b:Option Tmp}{K:Env->Heap->Prop}{ρ:Env}{v:Value}{h:Heap}(c:put n b K ρ v h){a:Act}(e:Fits n a ρ):
  ∃ρ',Fits n (a.put b v) ρ'/\Ext ρ ρ' a (a.put b v)/\K ρ' h:=by
 unfold put at c;cases b with
 |none=>exact⟨ρ,e,Ext.refl _ _,c⟩
 |some d=>
  simp only at c;cases hb:vM d n with
  |false=>rw[hb]at c;exact c.elim
  |true=>rw[hb]at c;exact⟨_,e.put hb v,Ext.put v v,c⟩
def ZU(C:Ctx)(n:Nat)(o:Oper)(K:Env->Heap->Prop)(ρ:Env)(h:Heap):Prop:=
 match BF C.P C.T o.op ρ.eval with
 | .no=>match uH C.T o.op ρ.eval with
  |some r=>∃y:r.ty.den,r.holds h y/\put n o.dst K ρ (r.ty.enc y) h
  |none=>JV C o ρ.eval (put n o.dst K ρ) h
 |p=>p.holds fun v=>put n o.dst K ρ v h
def JW(ops:Array Oper)(o:Oper)(ρ:Env)(a skip:Env->Prop):Prop:=
 match o.guard with
 |none=>a ρ
 |some (j,want)=>match(ops[j]?).bind (·.dst)with
  |some d=>match ρ.get d with
   |some (.bool b)=>Br b (bif want then a (.val d (.bool true)::ρ)else skip (.val d (.bool true)::ρ)) (bif want then skip (.val d (.bool false)::ρ)else a (.val d (.bool false)::ρ))
   |some (.tuple _)=>skip ρ
   |_=>False
  |none=>False
theorem Fits.known{n:Nat}{a:Act}{ρ:Env}(c:Fits n a ρ){d:Nat}{v:Value}(e:ρ.get d=some v):Fits n a (.val d v::ρ)/\Ext ρ (.val d v::ρ) a a:=by
 refine⟨⟨c.size,c.defers,fun t x b=>?_⟩,⟨[.val d v],rfl,fun _ _=>rfl⟩⟩;simp only[Env.get]at b;cases hb:wA d t with
 |false=>rw[hb]at b;exact c.get t x b
 |true=>
  rw[hb]at b;have:=zG hb;subst this;rw[cond_true]at b;exact c.get _ x (e.trans b)
theorem Ic{ops:Array Oper}{o:Oper}{ρ:Env}{e skip:Env->Prop}{n:Nat}{a:Act}(g:Fits n a ρ)(c:JW ops o ρ e skip):
  ∃ρ',Fits n a ρ'/\Ext ρ ρ' a a/\((Region.wanted o (yielded ops a.tmps)=true/\e ρ')∨(Region.wanted o (yielded ops a.tmps)=false/\skip ρ')):=by
 unfold JW at c;unfold Region.wanted;split at c
 ·rename_i l;rw[l];exact⟨ρ,g,Ext.refl _ _,.inl ⟨rfl,c⟩⟩
 ·rename_i j f l;rw[l];split at c
  ·rename_i d p;split at c
   ·rename_i b i;have m:yielded ops a.tmps j=some b:=by
     unfold yielded;rw[p];simp[g.get _ _ i]
    simp only[m];obtain⟨k,h⟩:=g.known i;cases b<;>cases f<;>simp only[Br,cond_true,cond_false]at c
    ·exact⟨_,k,h,.inl ⟨rfl,c⟩⟩
    ·exact⟨_,k,h,.inr ⟨rfl,c⟩⟩
    ·exact⟨_,k,h,.inr ⟨rfl,c⟩⟩
    ·exact⟨_,k,h,.inl ⟨rfl,c⟩⟩
   ·rename_i vs i;have m:yielded ops a.tmps j=none:=by
     unfold yielded;rw[p];simp[g.get _ _ i]
    simp only[m];exact⟨ρ,g,Ext.refl _ _,.inr ⟨by simp,c⟩⟩
   ·exact c.elim
  ·exact c.elim
theorem Xh{C:Ctx}(i:C.Ok){n:Nat}{o:Oper}{K:Env->Heap->Prop}{ρ:Env}{a:Act}{w:World}(j:Fits n a ρ)(d:ZU C n o K ρ w.heap)
  {Q:Exit->Act->World->Prop} {next:Act->World->Prop}
  (k:∀a' w' ρ',Fits n a' ρ'->Ext ρ ρ' a a'->cV w w'->K ρ' w'.heap->next a' w'):o.wp C.P a w next Q:=by
 have g:∀x v,ρ.eval x=some v->a.eval x=v:=fun x v h=>j.eval h;have b:∀v w',cV w w'->put n o.dst K ρ v w'.heap->next (a.put o.dst v) w':=fun v w' m s=>by
  obtain⟨ρ',t,l,h3⟩:=uI s j;exact k _ _ _ t l m h3
 have c:(BF C.P C.T o.op ρ.eval).holds (fun v=>put n o.dst K ρ v w.heap)->o.wp C.P a w next Q:=fun h=>by
  obtain⟨v,q,f⟩:=JS i.toOk g h;unfold Oper.wp;rw[q w];exact b v w (cV.refl w) f
 unfold ZU at d;split at d
 ·split at d
  ·rename_i r e;obtain⟨y,p,f⟩:=d;unfold Oper.wp;rw[CI i.toOk g e p];exact b _ w (cV.refl w) f
  ·exact afp (UX i g d) b
 ·exact c d
def Hj(C:Ctx)(n:Nat)(ops:Array Oper)(o:Oper)(K:Env->Heap->Prop)(ρ:Env)(h:Heap):Prop:=
 JW ops o ρ (fun ρ=>ZU C n o K ρ h) (fun ρ=>put n o.dst K ρ undef h)
theorem JX{C:Ctx}(q:C.Ok){n:Nat}{ops:Array Oper}{o:Oper}{i:Nat}(k:ops[i]?=some o){K:Env->Heap->Prop}{ρ:Env}{a:Act}{w:World}
  (p:Fits n a ρ) (m:Hj C n ops o K ρ w.heap) {Q:Exit->Act->World->Prop} {next:Act->World->Prop}
  (c:∀a' w' ρ',Fits n a' ρ'->Ext ρ ρ' a a'->cV w w'->K ρ' w'.heap->next a' w'):wpOp C.P ops Q i next a w:=by
 obtain⟨ρ',e,d,h3⟩:=Ic p m;unfold wpOp;simp only[k];rcases h3 with⟨hw,hr⟩|⟨hw,hr⟩
 ·simp only[hw,if_true];exact .inl (Xh q e hr fun a' w' b h x2 x3 g=>c _ _ _ h (d.trans x2) x3 g)
 ·simp only[hw,zf,if_false];obtain⟨b,l,j,f⟩:=uI hr e;exact c _ _ _ l (d.trans j) (cV.refl w) f
def ZV(C:Ctx)(n:Nat)(ops:Array Oper)(K:Env->Heap->Prop):List Oper->Env->Heap->Prop
 |[],ρ,h=>K ρ h
 |o::r,ρ,h=>Hj C n ops o (ZV C n ops K r) ρ h
def Out(n:Nat)(Q:Exit->Env->Heap->Prop)(ρ:Env)(a:Act)(w:World):Exit->Act->World->Prop:=fun e a' w'=>
 ∃ρ',Fits n a' ρ'/\Ext ρ ρ' a a'/\cV w w'/\Q e ρ' w'.heap
theorem Ns{C:Ctx}(c:C.Ok){n:Nat}{ops:Array Oper}{K:Env->Heap->Prop}{Q:Exit->Act->World->Prop}{ρ0:Env}{a0:Act}{w0:World}
  (b:∀a w ρ,Fits n a ρ->Ext ρ0 ρ a0 a->cV w0 w->K ρ w.heap->Q .normal a w):
  ∀(r:List Oper) (i:Nat),(∀j,r[j]?=ops[i+j]?)->∀(ρ:Env) (a:Act) (w:World),Fits n a ρ->Ext ρ0 ρ a0 a->cV w0 w->ZV C n ops K r ρ w.heap->
   wpOps C.P ops Q (List.range' i r.length) a w
 |[],i,_,ρ,a,w,hf,hx,hl,hs=>b a w ρ hf hx hl hs
 |o::r,i,hr,ρ,a,w,hf,hx,hl,hs=>by
  have h0:ops[i]?=some o:=by simpa using(hr 0).symm
  rw[q9,List.range'_succ,wpOps_cons];refine JX c h0 hf hs fun a' w' ρ' f e h3 d=>?_;exact Ns c b r (i+1) (fun j=>by have:=hr (j+1);simpa[Nat.add_assoc,Nat.add_comm 1 j]using this) ρ' a' w' f (hx.trans e) (hl.trans h3) d
abbrev av:=List (Addr×Value)
def av.ok:av->Heap->Prop
 |[],_=>True
 |p::r,h=>cellOf h p.1=some p.2/\av.ok r h
def lW(a:Addr):Nat->List Value->av->av
 |_,[],L=>L
 |n,v::r,L=>(a.add n,v)::lW a (n+1) r L
theorem ni{a:Addr}{h:Heap}:∀{vs:List Value} {n:Nat} {L:av},(lW a n vs L).ok h↔aj h a n vs/\L.ok h
 |[],_,L=>by simp[lW,aj]
 |v::r,n,L=>by simp only[lW,av.ok,aj,ni (vs:=r),and_assoc]
def Ak.held(r:Ak)(y:r.ty.den)(L:av):av:=
 match r.ty,y with
 | .sc s,y=>(r.a,s.enc y)::L
 | .agg l,y=>lW r.a 0 (AT l y) L
 | .arr s,y=>lW r.a 0 (y.map s.enc) L
theorem Ak.acO{r:Ak}{y:r.ty.den}{L:av}{b:Heap}(h0:r.holds b y){m:Heap}:(r.held y L).ok m↔r.holds m y/\L.ok m:=by
 obtain⟨a,ty,n⟩:=r;cases ty with
 |sc s=>exact Iff.rfl
 |agg l=>exact ni
 |arr s=>exact ni.trans ⟨fun x=>⟨⟨h0.1,x.1⟩,x.2⟩,fun x=>⟨x.1.2,x.2⟩⟩
structure fK where
 op:Nat
 r:Ak
 y:r.ty.den
def flat:List fK->av
 |[]=>[]
 |p::r=>p.r.held p.y (flat r)
def fK.ok(p:fK)(w:World):Prop:=p.r.holds w.heap p.y
def waits(ops:Array Oper)(j i:Nat):Bool:=match ops[j]? with
 |some o=>o.after.any fun e=>Region.binds .any e&&wA e.on i
 |none=>false
def keep(ops:Array Oper)(j:Nat):List fK->List fK
 |[]=>[]
 |p::r=>bif waits ops j p.op then keep ops j r else p::keep ops j r
theorem pZ{ops:Array Oper}{j:Nat}:∀{L:List fK},∀p∈keep ops j L,p∈L
 |[],p,h=>by cases h
 |q::r,p,h=>by
  unfold keep at h;cases hw:waits ops j q.op with
  |true=>rw[hw]at h;exact qR _ (pZ p h)
  |false=>
   rw[hw]at h;rcases q8.1 h with rfl|h
   ·exact qW
   ·exact qR _ (pZ p h)
theorem CJ{ops:Array Oper}{j:Nat}:∀{L:List fK} {p:fK},p∈L->waits ops j p.op=false->p∈keep ops j L
 |q::r,p,h,hw=>by
  unfold keep;rcases q8.1 h with rfl|h
  ·rw[hw];exact qW
  ·cases hq:waits ops j q.op with
   |true=>exact CJ h hw
   |false=>exact qR _ (CJ h hw)
theorem IM{ops:Array Oper}{j:Nat}{p:fK}:∀{M:List fK},p∈keep ops j M->waits ops j p.op=false
 |[],h=>by cases h
 |q::r,h=>by
  unfold keep at h;cases hq:waits ops j q.op with
  |true=>rw[hq]at h;exact IM h
  |false=>
   rw[hq]at h;rcases q8.1 h with rfl|h
   ·exact hq
   ·exact IM h
theorem EV{ops:Array Oper}{j:Nat}{L b:List fK}(c:∀p∈b,p∈L):∀p∈keep ops j b,p∈keep ops j L:=
 fun p a=>CJ (c p (pZ p a)) (IM a)
def lm(P:Program)(ops:Array Oper)(Q:Exit->Act->World->Prop):Nat->List fK->Array Bool->Act->World->Prop
 |0,_,listed,a,w=>Region.ready .any ops listed=[]/\Q .normal a w
 |fuel+1,L,listed,a,w=>
  (Region.ready .any ops listed=[]->Q .normal a w)/\
  ∀i∈Region.ready .any ops listed,wpOp P ops Q i (fun a' w'=>(∀p∈keep ops i L,p.ok w')/\lm P ops Q fuel (keep ops i L) (listed.setIfInBounds i true) a' w') a w
theorem JY{P:Program}{ops:Array Oper}{Q:Exit->Act->World->Prop}:∀(b:Nat) (L:List fK) (c:Array Bool) (a:Act) (w:World),lm P ops Q b L c a w->wpAny P .any ops Q b c a w
 |0,_,_,_,_,h=>h
 |b+1,_,_,_,_,h=>⟨h.1,fun i d=>wpOp_mono (fun a' w' h'=>JY b _ _ a' w' h'.2) (h.2 i d)⟩
theorem CK{P:Program}{ops:Array Oper}{Q:Exit->Act->World->Prop}:∀(b:Nat) {L d:List fK} (c:Array Bool) (a:Act) (w:World),(∀p∈d,p∈L)->lm P ops Q b L c a w->lm P ops Q b d c a w
 |0,_,_,_,_,_,_,h=>h
 |b+1,_,_,_,_,_,hs,h=>⟨h.1,fun i f=>wpOp_mono (fun a' w' h'=>⟨fun p e=>h'.1 p (EV hs p e),CK b _ a' w' (EV hs) h'.2⟩) (h.2 i f)⟩
theorem PE{P:Program}{ops:Array Oper}{Q:Exit->Act->World->Prop}{i:Nat}{s:Oper}{v:Value}{T:World->Prop}{N:List fK}(Y:ops[i]?=some s)(B:∀(j:Nat) (o:Oper) cs b,ops[j]?=some o->o.op≠.select cs b)
  (Z:∀c a w,Q (.panic c) (a.put s.dst v) w->Q (.panic c) a w) (hN:∀p∈N,p.op=i) (hT:∀w,(∀p∈N,p.ok w)->T w):
  ∀(f:Nat) (L:List fK) (d:Array Bool) (a:Act) (w:World),
   (∀j r,ops[j]?=some r->j≠i->d.getD j true=false->(∀e∈r.after,Region.binds .any e=true->e.on≠i)->s.apart ops r=true)->
   i∈Region.ready .any ops d->YieldsIf P ops T s v a->(∀p∈N,p.ok w)->(∀p∈L,p.ok w)->
   lm P ops Q f (N++L) (d.setIfInBounds i true) (a.put s.dst v) w->lm P ops Q (f+1) L d a w:=by
 intro f;have A:∀(f:Nat) (L:List fK) (d:Array Bool) (a:Act) (w:World),YieldsIf P ops T s v a->(∀p∈N,p.ok w)->(∀p∈L,p.ok w)->
   lm P ops Q f (N++L) (d.setIfInBounds i true) (a.put s.dst v) w->
   wpOp P ops Q i (fun a' w'=>(∀p∈keep ops i L,p.ok w')/\lm P ops Q f (keep ops i L) (d.setIfInBounds i true) a' w') a w:=fun f L d a w G n O H=>
  G.wpOp Y (hT w n) ⟨fun p g=>O p (pZ p g),CK f _ _ _ (fun p g=>wq _ (pZ p g)) H⟩
 induction f with
 |zero=>
  intro L d a w _ D G n O H;refine⟨fun h=>(by rw[h]at D;cases D),fun j S=>?_⟩;by_cases l:j=i
  ·subst l;exact A 0 L d a w G n O H
  ·have:=ready_mono S l;rw[H.1]at this;cases this
 |succ f ih=>
  intro L d a w q D G n O H;refine⟨fun h=>(by rw[h]at D;cases D),fun j S=>?_⟩;by_cases l:j=i
  ·subst l;exact A (f+1) L d a w G n O H
  ·have F:=H.2 j (ready_mono S l);obtain⟨x,r,u,I⟩:=mem_ready.1 S;have z:∀e∈r.after,Region.binds .any e=true->e.on≠i:=fun e he K V=>by
    have F:=I e he K;have h0:=(mem_ready.1 D).1;rw[V]at F;rcases Nat.lt_or_ge i d.size with h'|h'
    ·simp[h']at h0 F;rw[h0]at F;cases F
    ·simp[Array.getElem?_eq_none h']at F
   have R:(r.after.any fun e=>Region.binds .any e&&wA e.on i)=false:=by
    cases hc:r.after.any fun e=>Region.binds .any e&&wA e.on i with
    |false=>rfl
    |true=>
     obtain⟨k,X,K⟩:=Array.any_eq_true.1 hc;simp only[qz]at K;exact absurd (zG K.2) (z _ (Array.getElem_mem X) K.1)
   have E:waits ops j i=false:=by
    unfold waits;rw[u];exact R
   have y:∀p,p∈N->p∈keep ops j (N++L):=fun p g=>CJ (List.mem_append_left _ g) (by rw[hN p g];exact E);have m:∀p,p∈keep ops j L->p∈keep ops j (N++L):=EV fun p g=>wq _ g;have h2:=wpOp_putIf u (q j r u l x z) (fun cs b=>B i s cs b Y) (fun cs b=>B j r cs b u) Z G F;have t:∀k ok,ops[k]?=some ok->k≠i->(d.setIfInBounds j true).getD k true=false->
     (∀e∈ok.after,Region.binds .any e=true->e.on≠i)->s.apart ops ok=true:=fun k ok X W M U=>by
    refine q k ok X W ?_ U;by_cases J:j=k
    ·subst J;exact x
    ·rw[getD_set_ne true J]at M;exact M
   refine wpOp_mono (fun a' w' h3=>⟨fun p g=>h3.2.1 p (m p g),ih (keep ops j L) (d.setIfInBounds j true) a' w' t (ready_mono D (Ne.symm l)) h3.1 (fun p g=>h3.2.1 p (y p g)) (fun p g=>h3.2.1 p (m p g)) ?_⟩) h2;rw[Array.setIfInBounds_comm _ _ l];refine CK _ _ _ _ (fun p g=>?_) h3.2.2;rcases List.mem_append.1 g with g|g
   ·exact y p g
   ·exact m p g
theorem AV{P:Program}{ops:Array Oper}{Q:Exit->Act->World->Prop}{i:Nat}{e:Oper}{v:Value}{T:World->Prop}{N:List fK}{d:Nat}{L:List fK}{b:Array Bool}{a:Act}{w:World}(g:ops[i]?=some e)
  (q:Region.noSelect ops=true) (r:Region.free .any ops b i=true) (l:(Region.ready .any ops b).contains i=true)
  (j:∀c a w,Q (.panic c) (a.put e.dst v) w->Q (.panic c) a w) (k:∀p∈N,p.op=i) (o:∀w,(∀p∈N,p.ok w)->T w) (m:YieldsIf P ops T e v a) (f:∀p∈N,p.ok w) (n:∀p∈L,p.ok w)
  (h:lm P ops Q d (N++L) (b.setIfInBounds i true) (a.put e.dst v) w):lm P ops Q (d+1) L b a w:=
 PE g (Region.noSelect_spec q) j k o d L b a w (Region.free_spec g r) (by simpa using l) m f n h
theorem Mn:∀{L:List fK} {w0:World},(∀p∈L,p.ok w0)->∀{m:Heap},(flat L).ok m->∀p∈L,p.r.holds m p.y
 |[],_,_,_,_,p,a=>by cases a
 |q::r,w0,h0,m,h,p,a=>by
  have h:=(Ak.acO (h0 q qW)).1 h;rcases q8.1 a with rfl|a
  ·exact h.1
  ·exact Mn (fun p a=>h0 p (qR _ a)) h.2 p a
def abS:Op->Bool
 | .move _| .assign _| .pick .. | .nilCheck _| .fieldAddr .. | .indexAddr .. | .index .. | .field .. | .extract .. | .binOp .. | .unOp .. | .convert .. | .build .. | .makeFunc .. | .load .. =>true
 | .slice _ _ _ _ none=>true
 | .call c=>match c.callee with
  | .builtin .len| .builtin .cap| .builtin .min| .builtin .max| .builtin .real| .builtin .imag=>true
  |_=>false
 |_=>false
def nH(ops:Array Oper)(a:Array Bool):List Nat->Option Nat
 |[]=>none
 |i::r=>match ops[i]? with
  |some o=>bif abS o.op&&Region.free .any ops a i then some i else nH ops a r
  |none=>nH ops a r
def UY(C:Ctx)(n:Nat)(ops:Array Oper)(i:Nat)(o:Oper)(L:List fK)(K:List fK->Env->Heap->Prop)(ρ:Env)(h:Heap):Prop:=
 JW ops o ρ (fun ρ=>match BF C.P C.T o.op ρ.eval with
  | .no=>match uH C.T o.op ρ.eval with
   |some r=>∃y:r.ty.den,r.holds h y/\put n o.dst (K (⟨i,r,y⟩::L)) ρ (r.ty.enc y) h
   |none=>False
  |p=>p.holds fun v=>put n o.dst (K L) ρ v h) (fun ρ=>put n o.dst (K L) ρ undef h)
def PF(C:Ctx)(n:Nat)(ops:Array Oper)(K:Nat->Env->Heap->Prop)(ρ:Env)(h:Heap):List Nat->Prop
 |[]=>True
 |[i]=>match ops[i]? with
  |some o=>Hj C n ops o (K i) ρ h
  |none=>False
 |i::j::r=>(match ops[i]? with
  |some o=>Hj C n ops o (K i) ρ h
  |none=>False)/\PF C n ops K ρ h (j::r)
def uJ(C:Ctx)(n:Nat)(ops:Array Oper)(K:Env->Heap->Prop):Nat->Array Bool->List fK->Env->Heap->Prop
 |0,listed,_,ρ,h=>bif (Region.ready .any ops listed).isEmpty then K ρ h else False
 |k+1,listed,L,ρ,h=>match nH ops listed (Region.ready .any ops listed)with
  |some i=>match ops[i]? with
   |some o=>UY C n ops i o L (uJ C n ops K k (listed.setIfInBounds i true)) ρ h
   |none=>False
  |none=>match Region.ready .any ops listed with
   |[]=>K ρ h
   |i::r=>PF C n ops (fun i ρ h=>(flat (keep ops i L)).ok h/\uJ C n ops K k (listed.setIfInBounds i true) (keep ops i L) ρ h) ρ h (i::r)
theorem sU{ops:Array Oper}{a:Array Bool}:∀{rs:List Nat} {i:Nat},nH ops a rs=some i->i∈rs/\Region.free .any ops a i=true
 |[],_,h=>by cases h
 |j::r,i,h=>by
  simp only[nH]at h;split at h
  ·rename_i o b;cases hb:(abS o.op&&Region.free .any ops a j)with
   |true=>
    rw[hb]at h;cases h;simp only[qz]at hb;exact⟨qW,hb.2⟩
   |false=>
    rw[hb]at h;have:=sU h;exact⟨qR _ this.1,this.2⟩
  ·have:=sU h;exact⟨qR _ this.1,this.2⟩
theorem Nt{C:Ctx}{n:Nat}{ops:Array Oper}{K:Nat->Env->Heap->Prop}{ρ:Env}{h:Heap}:∀{l:List Nat},PF C n ops K ρ h l->∀i∈l,∃o,ops[i]?=some o/\Hj C n ops o (K i) ρ h
 |[],_,i,hi=>by cases hi
 |[j],ha,i,hi=>by
  simp only[qG]at hi;subst hi;simp only[PF]at ha;split at ha
  ·rename_i o a;exact⟨o,a,ha⟩
  ·exact ha.elim
 |j::k::r,ha,i,hi=>by
  obtain⟨b,c⟩:=ha;rcases q8.1 hi with rfl|hi
  ·split at b
   ·rename_i o a;exact⟨o,a,b⟩
   ·exact b.elim
  ·exact Nt c i hi
section
variable {C:Ctx} {n:Nat} {ops:Array Oper} {K:Env->Heap->Prop} {Q:Exit->Act->World->Prop} {ρ0:Env} {a0:Act} {w0:World}
theorem Nu(J:C.Ok)(I:Region.noSelect ops=true)
  (O:∀a w ρ,Fits n a ρ->Ext ρ0 ρ a0 a->cV w0 w->K ρ w.heap->Q .normal a w) (D:∀c a w,¬Q (.panic c) a w):
  ∀(k:Nat) (b:Array Bool) (L:List fK) (ρ:Env) (a:Act) (w:World),Fits n a ρ->Ext ρ0 ρ a0 a->cV w0 w->(∀p∈L,p.ok w)->
   uJ C n ops K k b L ρ w.heap->lm C.P ops Q k L b a w
 |0,b,L,ρ,a,w,hf,hx,hl,hL,h=>by
  simp only[uJ]at h;cases hb:(Region.ready .any ops b).isEmpty with
  |false=>rw[hb]at h;exact h.elim
  |true=>rw[hb]at h;exact⟨by simpa using hb,O _ _ _ hf hx hl h⟩
 |k+1,b,L,ρ,a,w,hf,hx,hl,hL,h=>by
  have G:=Nu J I O D k;simp only[uJ]at h;split at h
  ·rename_i i H;obtain⟨A,f⟩:=sU H;have e:(Region.ready .any ops b).contains i=true:=by simpa using A
   split at h
   ·rename_i o u;unfold UY at h;obtain⟨ρ',M,S,h3⟩:=Ic hf h;have q:∀c a w (v:Value),Q (.panic c) (Act.put a o.dst v) w->Q (.panic c) a w:=fun c a w v hq=>absurd hq (D c _ w);have Z:∀x v,Env.eval ρ' x=some v->a.eval x=v:=fun x v h=>M.eval h;rcases h3 with⟨t,g⟩|⟨t,g⟩
    ·have s:(BF C.P C.T o.op (Env.eval ρ')).holds (fun v=>put n o.dst (uJ C n ops K k (b.setIfInBounds i true) L) ρ' v w.heap)->
       lm C.P ops Q (k+1) L b a w:=fun d=>by
      obtain⟨v,hv,W⟩:=JS J.toOk Z d;obtain⟨m,F,E,z⟩:=uI W M;exact AV (N:=[]) (T:=fun _=>True) u I f e (fun c a w=>q c a w v) (fun p d=>by cases d) (fun _ _=>trivial) (.inl ⟨t,fun w _=>hv w⟩) (fun p d=>by cases d) hL
       (G _ L m _ w F (hx.trans (S.trans E)) hl hL z)
     split at g
     ·split at g
      ·rename_i r B;obtain⟨y,X,W⟩:=g;obtain⟨m,F,E,z⟩:=uI W M;have V:∀p∈[(⟨i,r,y⟩:fK)],p.ok w:=fun p d=>by rw[qG]at d;subst d;exact X
       refine AV (N:=[⟨i,r,y⟩]) (T:=fun w=>r.holds w.heap y) u I f e (fun c a w=>q c a w _) (fun p d=>by rw[qG]at d;subst d;rfl)
        (fun w h=>h ⟨i,r,y⟩ (qG.2 rfl)) (.inl ⟨t,fun w t=>CI J.toOk Z B t⟩) V hL ?_
       refine G _ (⟨i,r,y⟩::L) m _ w F (hx.trans (S.trans E)) hl (fun p d=>?_) z;rcases q8.1 d with rfl|d
       ·exact X
       ·exact hL p d
      ·exact g.elim
     ·exact s g
    ·obtain⟨m,F,E,z⟩:=uI g M;exact AV (N:=[]) (T:=fun _=>True) u I f e (fun c a w=>q c a w undef) (fun p d=>by cases d) (fun _ _=>trivial) (.inr ⟨t,rfl⟩) (fun p d=>by cases d) hL
      (G _ L m _ w F (hx.trans (S.trans E)) hl hL z)
   ·exact h.elim
  ·split at h
   ·rename_i g;exact⟨fun _=>O _ _ _ hf hx hl h,fun i H=>by rw[g]at H;cases H⟩
   ·rename_i i r g;refine⟨fun h0=>absurd (g▸h0) (by simp),fun j Y=>?_⟩;rw[g]at Y;obtain⟨o,u,R⟩:=Nt h j Y;have l:∀p∈keep ops j L,p.ok w:=fun p d=>hL p (pZ p d);exact JX J u hf R fun a' w' ρ' x1 x2 x3 U=>⟨Mn l U.1,G _ (keep ops j L) ρ' a' w' x1 (hx.trans x2) (hl.trans x3) (Mn l U.1) U.2⟩
end
def sched(ops:Array Oper):Nat->Array Bool->Option (List (Nat×Bool))
 |0,listed=>bif (Region.ready .any ops listed).isEmpty then some []else none
 |k+1,listed=>match nH ops listed (Region.ready .any ops listed)with
  |some i=>(sched ops k (listed.setIfInBounds i true)).map ((i,true)::·)
  |none=>match Region.ready .any ops listed with
   |[]=>some []
   |[i]=>(sched ops k (listed.setIfInBounds i true)).map ((i,false)::·)
   |_::_::_=>none
def rV(C:Ctx)(n:Nat)(ops:Array Oper)(K:Env->Heap->Prop):List (Nat×Bool)->List fK->Env->Heap->Prop
 |[],_,ρ,h=>K ρ h
 |(i,true)::r,L,ρ,h=>match ops[i]? with
  |some o=>UY C n ops i o L (rV C n ops K r) ρ h
  |none=>False
 |(i,false)::r,L,ρ,h=>match ops[i]? with
  |some o=>Hj C n ops o (fun ρ h=>(flat (keep ops i L)).ok h/\rV C n ops K r (keep ops i L) ρ h) ρ h
  |none=>False
theorem Nv{C:Ctx}{n:Nat}{ops:Array Oper}{K:Env->Heap->Prop}:∀(k:Nat) (a:Array Bool) (l:List (Nat×Bool)),sched ops k a=some l->
  uJ C n ops K k a=rV C n ops K l
 |0,a,l,hs=>by
  simp only[sched]at hs;cases hb:(Region.ready .any ops a).isEmpty with
  |false=>rw[hb]at hs;cases hs
  |true=>
   rw[hb]at hs;cases hs;funext L ρ h;simp only[uJ,hb,rV,cond_true]
 |k+1,a,l,hs=>by
  have d:=fun i=>Nv (C:=C) (n:=n) (ops:=ops) (K:=K) k (a.setIfInBounds i true);funext L ρ h;unfold sched at hs;unfold uJ;cases hi:nH ops a (Region.ready .any ops a)with
  |some i=>
   rw[hi]at hs;obtain⟨b,c,rfl⟩:=yX.1 hs;simp only[rV,d i b c]
  |none=>
   rw[hi]at hs;generalize e:Region.ready .any ops a=rd at hs
   match rd,hs with
   |[],hs=>cases hs;simp only[rV]
   |[i],hs=>
    obtain⟨b,c,rfl⟩:=yX.1 hs;simp only[PF,rV,d i b c]
def Mo(C:Ctx)(n:Nat)(ops:Array Oper)(a:Bool)(K:Env->Heap->Prop)(ρ:Env)(h:Heap):Prop:=
 match a with
 |false=>ZV C n ops K ops.toList ρ h
 |true=>bif Region.noSelect ops then(match sched ops ops.size (vt ops.size false)with
  |some l=>rV C n ops K l [] ρ h
  |none=>uJ C n ops K ops.size (vt ops.size false) [] ρ h)else False
theorem PG{C:Ctx}(g:C.Ok){n:Nat}{id:Nat}{ops:Array Oper}{b:Bool}{Q:Exit->Env->Heap->Prop}{ρ:Env}{a:Act}{w:World}(i:Fits n a ρ)
  (h:Mo C n ops b (Q .normal) ρ w.heap):(Code.region id ops b).wp C.P (fun e a' w'=>(∀c,e≠.panic c)/\Out n Q ρ a w e a' w') a w:=by
 cases b with
 |false=>
  refine wp_region ?_;have:=Ns g (Q:=fun e a' w'=>(∀c,e≠.panic c)/\Out n Q ρ a w e a' w') (K:=Q .normal) (ρ0:=ρ) (a0:=a) (w0:=w) (fun a' w' ρ' f x2 x3 d=>⟨fun c e=>(by cases e),ρ',f,x2,x3,d⟩)
   ops.toList 0 (fun j=>by simp) ρ a w i (Ext.refl _ _) (cV.refl _) h
  rw[List.range_eq_range'];simpa using this
 |true=>
  simp only[Mo]at h;cases hb:Region.noSelect ops with
  |false=>rw[hb]at h;exact h.elim
  |true=>
   rw[hb]at h;have h:uJ C n ops (Q .normal) ops.size (vt ops.size false) [] ρ w.heap:=by
    simp only[cond_true]at h;split at h
    ·rename_i l k;rw[Nv _ _ _ k];exact h
    ·exact h
   refine wp_region_any g.mixed (JY _ [] _ _ _ ?_);exact Nu g hb (Q:=fun e a' w'=>(∀c,e≠.panic c)/\Out n Q ρ a w e a' w') (ρ0:=ρ) (a0:=a) (w0:=w) (fun a' w' ρ' f x2 x3 d=>⟨fun c e=>(by cases e),ρ',f,x2,x3,d⟩)
    (fun c a w o=>o.1 c rfl) _ _ [] ρ a {w with drawn:=w.drawn+1} i (Ext.refl _ _) ⟨rfl,rfl,rfl,Nat.le_succ _⟩ (fun p m=>by cases m) h
def bf{σ:Type}(rest:σ->Heap->Prop)(B:(σ->Heap->Prop)->Prop):Prop:=∃R:σ->Heap->Prop,(∀s h,R s h->rest s h)/\B R
def aJ{σ:Type}(B:σ->(σ->Heap->Prop)->Heap->Prop)(s:σ)(h:Heap):Prop:=
 ∃(τ:Type) (V:τ->σ) (I:τ->Heap->Prop) (μ:τ->Nat) (t0:τ),s=V t0/\I t0 h/\∀t h,I t h->B (V t) (fun b h'=>∃a,b=V a/\I a h'/\μ a<μ t) h
theorem Xi{P:Program}{c:Code}{Q:Exit->Act->World->Prop}{a:Act}{w:World}{σ:Type}(R:σ->Act->World->Prop)(μ:σ->World->Nat)(t:σ)(h0:R t a w)
  (g:∀s a w,R s a w->c.wp P (Exit.then (fun a' w'=>∃m,R m a' w'/\μ m w'<μ s w) Q) a w):(Code.loop c).wp P Q a w:=by
 intro b k cs;have o:∀n s a w,μ s w=n->R s a w->
   ∃e a' w',Q e a' w'/\Arrives P (lone (b.at a (.code c::.inLoop c::k)) cs w) b k cs e a' w':=by
  intro n
  induction n using Nat.strongRecOn with
  |_ n ih=>
   intro s a w u A;obtain⟨e,j,h,f,d⟩:=g s a w A b (.inLoop c::k) cs;cases e with
   |normal=>
    obtain⟨m,q,r⟩:=f;obtain⟨y,z,v,p,i⟩:=ih (μ m h) (u▸r) m j h rfl q;exact⟨y,z,v,p,.of_steps (Steps.trans d (.one step_inLoop)) i⟩
   |exit id=>exact⟨_,j,h,f,.pass (x:=.inLoop c) rfl (fun _ _=>.inl (by simp)) d⟩
   |goto l=>exact⟨_,j,h,f,.pass (x:=.inLoop c) rfl (fun _ _=>.inl (by simp)) d⟩
   |ret=>exact⟨_,j,h,f,.pass (x:=.inLoop c) rfl (fun _ _=>.inl (by simp)) d⟩
   |panic ch=>exact⟨_,j,h,f,.pass (x:=.inLoop c) rfl (fun _ _=>.inl (by simp)) d⟩
   |outgrown=>exact⟨_,j,h,f,.pass (x:=.inLoop c) rfl (fun _ _=>.inl (by simp)) d⟩
 obtain⟨e,a',w',f,d⟩:=o _ t a w rfl h0;exact⟨e,a',w',f,.of_steps (.one step_loop) d⟩
inductive an where
 |n
 |two (a b:an)
 |inn (a:an)
 |loop (σ:dL) (κ:cY) (a:an)
 |join (σ:dL) (κ:cY) (a:an)
 |scope (l:Nat) (σ:dL) (κ:cY) (pre rest:List an) (fwd:List (Nat×List an))
 |fwd (a:an) (fwd:List (Nat×List an))
def an.fst:an->an
 | .two a _=>a
 |_=>.n
def an.snd:an->an
 | .two _ b=>b
 |_=>.n
def an.sub:an->an
 | .inn a=>a
 |_=>.n
abbrev QT:=Exit->Env->Heap->Prop
def JZ(σ:dL)(κ:cY)(ρ:Env)(K:σ.den->Heap->Prop)(Q:QT):QT
 | .normal,ρ',h=>bif within σ κ ρ' (ρ'.length-ρ.length)then(match σ.read ρ' with|some s=>K s h|none=>False)else False
 |e,ρ',h=>Q e ρ' h
def Hk(next:Env->Heap->Prop)(Q:QT):QT
 | .normal,ρ,h=>next ρ h
 |e,ρ,h=>Q e ρ h
def Xj(id:Nat)(Q:QT):QT
 | .exit i,ρ,h=>bif wA i id then Q .normal ρ h else Q (.exit i) ρ h
 |e,ρ,h=>Q e ρ h
abbrev Rec:=Code->an->QT->Env->Heap->Prop
def Al(rec:Rec):List Code->List an->QT->Env->Heap->Prop
 |[],_,Q,ρ,h=>Q .normal ρ h
 |c::cs,[],Q,ρ,h=>rec c .n (Hk (Al rec cs [] Q) Q) ρ h
 |c::cs,x::xs,Q,ρ,h=>rec c x (Hk (Al rec cs xs Q) Q) ρ h
def chain:Code->Nat->Option (List Code×List Code)
 | .seq a b,l=>match chain a l with
  |some (p,r)=>some (p,r++[b])
  |none=>match chain b l with
   |some (p,r)=>some (a::p,r)
   |none=>none
 | .label l',l=>bif wA l' l then some ([],[])else none
 |_,_=>none
def abT(a:List (Nat×List an))(l:Nat):Option (List an):=
 match a with
 |[]=>none
 |p::r=>bif wA p.1 l then some p.2 else abT r l
def Hl(rec:Rec)(c:Code)(a:List (Nat×List an))(Q:QT):Nat->QT
 |0=>fun _ _ _=>False
 |g+1=>fun e ρ h=>match e with
  | .goto l=>match abT a l with
   |some xs=>match chain c l with
    |some (_,r)=>Al rec r xs (Hl rec c a Q g) ρ h
    |none=>False
   |none=>Q (.goto l) ρ h
  |e=>Q e ρ h
def UZ(l:Nat)(σ:dL)(κ:cY)(ρ:Env)(K:σ.den->Heap->Prop)(Q:QT):QT
 | .goto l',ρ',h=>bif wA l' l then(bif within σ κ ρ' (ρ'.length-ρ.length)then(match σ.read ρ' with|some s=>K s h|none=>False)else False)else Q (.goto l') ρ' h
 |e,ρ',h=>Q e ρ' h
def PH(c:Code)(Q:QT):QT
 | .goto l,ρ,h=>match findLabel c l with
  |none=>Q (.goto l) ρ h
  |some _=>False
 |e,ρ,h=>Q e ρ h
def PI(C:Ctx)(n:Nat)(rec:Rec)(c:Code)(d:an)(Q:QT)(ρ:Env)(h:Heap):Prop:=
 match d with
 | .join σ κ a=>bf (fun s h=>Q .normal (σ.vals s (κ.over ρ)) h) (fun K=>rec c a (JZ σ κ ρ K Q) ρ h)
 |d=>match c with
  | .skip=>Q .normal ρ h
  | .label _=>Q .normal ρ h
  | .region _ ops draw=>Mo C n ops draw (Q .normal) ρ h
  | .seq a b=>rec a d.fst (Hk (rec b d.snd Q) Q) ρ h
  | .cond x a b=>match ρ.eval x with
   |some (.bool t)=>Br t (rec a d.fst Q ρ h) (rec b d.snd Q ρ h)
   |_=>False
  | .block id c=>rec c d.sub (Xj id Q) ρ h
  | .exit id=>Q (.exit id) ρ h
  | .goto l=>Q (.goto l) ρ h
  | .ret=>Q .ret ρ h
  | .loop c=>match d with
   | .loop σ κ a=>match σ.read ρ with
    |some s0=>aJ (fun s K h=>rec c a (JZ σ κ (σ.vals s (κ.over ρ)) K Q) (σ.vals s (κ.over ρ)) h) s0 h
    |none=>False
   |_=>False
  | .scope c=>match d with
   | .scope l σ κ pre rest fwd=>match chain c l with
    |some (p,r)=>Al rec p pre (Hk (fun ρ' h'=>match σ.read ρ' with
     |some s0=>aJ (fun s K h=>Al rec r rest (Hl rec c fwd (UZ l σ κ (σ.vals s (κ.over ρ')) K (PH c Q)) 4) (σ.vals s (κ.over ρ')) h) s0 h'
     |none=>False) (PH c Q)) ρ h
    |none=>False
   | .fwd a fwd=>rec c a (Hl rec c fwd (PH c Q) 4) ρ h
   |_=>False
  |_=>False
def vc(C:Ctx)(n:Nat):Nat->Rec
 |0=>fun _ _ _ _ _=>False
 |f+1=>PI C n (vc C n f)
def Hm(C:Ctx)(n:Nat)(rec:Rec):Prop:=∀(c:Code) (b:an) (Q:QT) (ρ:Env) (a:Act) (w:World),Fits n a ρ->rec c b Q ρ w.heap->c.wp C.P (Out n Q ρ a w) a w
section
variable {C:Ctx} {n:Nat} {Q:QT} {ρ ρ':Env} {a a':Act} {w w':World}
theorem Out.base{e:Exit}{b:Act}{c:World}(j:Ext ρ ρ' a a')(f:cV w w')(h:Out n Q ρ' a' w' e b c):Out n Q ρ a w e b c:=by
 obtain⟨d,k,i,h3,g⟩:=h;exact⟨d,k,j.trans i,f.trans h3,g⟩
theorem Out.then{next:Env->Heap->Prop}{N:Act->World->Prop}{f:Exit->Act->World->Prop}{e:Exit}{b:Act}{c:World}(h:Out n (Hk next Q) ρ a w e b c)
  (k:∀ρ',Fits n b ρ'->Ext ρ ρ' a b->cV w c->next ρ' c.heap->N b c) (l:Out n Q ρ a w e b c->e≠.normal->f e b c):Exit.then N f e b c:=by
 obtain⟨d,j,i,h3,g⟩:=h;cases e<;>first|exact k d j i h3 g|exact l ⟨d,j,i,h3,g⟩ (by simp)
def nj(P:Program):List Code->(Exit->Act->World->Prop)->Act->World->Prop
 |[],Q,a,w=>Q .normal a w
 |c::cs,Q,a,w=>c.wp P (Exit.then (nj P cs Q) Q) a w
theorem jV{P:Program}{Q d:Exit->Act->World->Prop}(b:∀e a w,Q e a w->d e a w):∀(l:List Code) (a:Act) (w:World),nj P l Q a w->nj P l d a w
 |[],_,_,h=>b _ _ _ h
 |c::cs,a,w,h=>wp_mono h fun e a w h=>by
  cases e<;>first|exact jV b cs a w h|exact b _ _ _ h
theorem oI{rec:Rec}(d:Hm C n rec):∀(l:List Code) (xs:List an) (Q:QT) (ρ:Env) (a:Act) (w:World),Fits n a ρ->Al rec l xs Q ρ w.heap->nj C.P l (Out n Q ρ a w) a w
 |[],_,Q,ρ,a,w,hf,h=>⟨ρ,hf,Ext.refl _ _,cV.refl _,h⟩
 |c::cs,[],Q,ρ,a,w,hf,h=>by
  refine wp_mono (d c .n _ ρ a w hf h) fun e a' w' b=>b.then (fun ρ' g x2 x3 f=>?_) (fun b _=>b);exact jV (fun e a w h=>h.base x2 x3) cs a' w' (oI d cs [] Q ρ' a' w' g f)
 |c::cs,x::xs,Q,ρ,a,w,hf,h=>by
  refine wp_mono (d c x _ ρ a w hf h) fun e a' w' b=>b.then (fun ρ' g x2 x3 f=>?_) (fun b _=>b);exact jV (fun e a w h=>h.base x2 x3) cs a' w' (oI d cs xs Q ρ' a' w' g f)
end
theorem AW{P:Program}{b:Code}{Q:Exit->Act->World->Prop}:∀(l:List Code) (a:Act) (w:World),nj P (l++[b]) Q a w->nj P l (Exit.then (b.wp P Q) Q) a w
 |[],a,w,h=>by
  refine wp_mono h fun e a w h=>?_;cases e<;>exact h
 |c::cs,a,w,h=>wp_mono h fun e a w h=>by
  cases e<;>first|exact AW cs a w h|exact h
theorem rK:∀{c:Code} {l:Nat} {p r:List Code},chain c l=some (p,r)->∃k,findLabel c l=some k/\
  (∀{P:Program} {Q:Exit->Act->World->Prop} {a:Act} {w:World},nj P r Q a w->k.wp P Q a w)/\
  (∀{P:Program} {Q:Exit->Act->World->Prop} {a:Act} {w:World},nj P p (Exit.then (nj P r Q) Q) a w->c.wp P Q a w)
 | .seq x y,l,p,r,h=>by
  simp only[chain]at h;split at h
  ·rename_i s m d;cases h;obtain⟨k,j,i,h3⟩:=rK d;refine⟨.seq k y,by simp[findLabel,j],fun{P Q a w} h=>wp_seq (i (AW m a w h)),fun{P Q a w} h=>wp_seq (h3 ?_)⟩;refine jV (fun e a w g=>?_) p a w h;cases e<;>first|exact AW m a w g|exact g
  ·rename_i d;split at h
   ·rename_i s m n;cases h;obtain⟨k,j,i,h3⟩:=rK n;have o:findLabel x l=none:=by
     clear j i h3 n
     induction x with
     |seq a b iha ihb=>
      simp only[chain]at d;split at d
      ·cases d
      ·rename_i q;split at d
       ·cases d
       ·rename_i f;simp[findLabel,iha q,ihb f]
     |label l'=>
      simp only[chain]at d;cases f:wA l' l with
      |true=>rw[f]at d;cases d
      |false=>
       have:¬l'=l:=fun e=>by subst e;simp at f
       simp[findLabel,this]
     |_=>rfl
    refine⟨k,by simp[findLabel,o,j],i,fun{P Q a w} h=>wp_seq (wp_mono h fun e a w g=>?_)⟩;cases e<;>first|exact h3 g|exact g
   ·cases h
 | .label l',l,p,r,h=>by
  simp only[chain]at h;cases f:wA l' l with
  |false=>rw[f]at h;cases h
  |true=>
   rw[f]at h;cases h;have:=zG f;subst this;exact⟨.skip,by simp[findLabel],fun h=>wp_skip h,fun h=>wp_label h⟩
 | .skip,_,_,_,h=>by cases h
 | .region ..,_,_,_,h=>by cases h
 | .cond ..,_,_,_,h=>by cases h
 | .block ..,_,_,_,h=>by cases h
 | .loop _,_,_,_,h=>by cases h
 | .rangeFunc ..,_,_,_,h=>by cases h
 | .exit _,_,_,_,h=>by cases h
 | .scope _,_,_,_,h=>by cases h
 | .goto _,_,_,_,h=>by cases h
 | .ret,_,_,_,h=>by cases h
 | .refuse _,_,_,_,h=>by cases h
section
variable {P:Program} {c:Code} {Q:Exit->Act->World->Prop} {b:Frame} {k:List Item} {cs:List Frame}
def Reach(P:Program)(c:Code)(Q:Exit->Act->World->Prop)(b:Frame)(k:List Item)(d:List Frame)(a:Act)(w:World)(r:Code):Prop:=
 ∃e a' w',Q e a' w'/\Arrives P (lone (b.at a (.code r::.inScope c::k)) d w) b k d e a' w'
def Good(P:Program)(c:Code)(Q:Exit->Act->World->Prop)(b:Frame)(k:List Item)(d:List Frame):Exit->Act->World->Prop
 | .goto l,a,w=>match findLabel c l with
  |some r=>Reach P c Q b k d a w r
  |none=>Q (.goto l) a w
 |e,a,w=>Q e a w
theorem PJ{m:Machine}{e:Exit}{a:Act}{w:World}(f:Good P c Q b k cs e a w)(d:Arrives P m b (.inScope c::k) cs e a w):
  ∃e a' w',Q e a' w'/\Arrives P m b k cs e a' w':=by
 cases e with
 |normal=>exact⟨.normal,a,w,f,Steps.trans d (.one step_inScope)⟩
 |exit id=>exact⟨.exit id,a,w,f,fun h i=>d h (by simp[exitTo,i])⟩
 |goto l=>
  simp only[Good]at f;cases hf:findLabel c l with
  |none=>
   rw[hf]at f;exact⟨.goto l,a,w,f,fun h i=>d h (by simp[gotoIn,hf,i])⟩
  |some r=>
   rw[hf]at f;obtain⟨o,p,n,j,g⟩:=f;exact⟨o,p,n,j,.of_steps (d _ (by simp[gotoIn,hf])) g⟩
 |ret=>exact⟨_,a,w,f,d⟩
 |panic ch=>exact⟨_,a,w,f,d⟩
 |outgrown=>exact⟨_,a,w,f,d⟩
theorem PK{r:Code}{a:Act}{w:World}(h:r.wp P (Good P c Q b k cs) a w):Reach P c Q b k cs a w r:=by
 obtain⟨e,a',w',f,d⟩:=h b (.inScope c::k) cs;exact PJ f d
theorem DR{a:Act}{w:World}(h:∀b k cs,c.wp P (Good P c Q b k cs) a w):(Code.scope c).wp P Q a w:=by
 intro b k cs;obtain⟨e,l,m,g,d⟩:=h b k cs b (.inScope c::k) cs;obtain⟨f,a',w',j,i⟩:=PJ g d;exact⟨f,a',w',j,.of_steps (.one step_scope) i⟩
end
section
variable {C:Ctx} {n:Nat} {rec:Rec}
theorem CL(t:Hm C n rec){c:Code}{m:List (Nat×List an)}{s:QT}{q:Exit->Act->World->Prop}{b:Frame}{k:List Item}{u:List Frame}{ρ:Env}{a0:Act}{w0:World}
  (j:∀e d i f,Fits n i d->Ext ρ d a0 i->cV w0 f->s e d f.heap->Good C.P c q b k u e i f):
  ∀(g:Nat) (e:Exit) (d:Env) (i:Act) (f:World),Fits n i d->Ext ρ d a0 i->cV w0 f->Hl rec c m s g e d f.heap->Good C.P c q b k u e i f
 |0,_,_,_,_,_,_,_,h=>h.elim
 |g+1,e,d,i,f,hf,hx,hl,h=>by
  cases e with
  |goto l=>
   simp only[Hl]at h;split at h
   ·split at h
    ·rename_i p r o;obtain⟨F,E,y,_⟩:=rK o;simp only[Good,E];refine PK (y ?_);refine jV (fun e a w v=>?_) _ _ _ (oI t _ _ _ d i f hf h);obtain⟨D,B,z,x,A⟩:=v;exact CL t j g e D a w B (hx.trans z) (hl.trans x) A
    ·exact h.elim
   ·exact j _ _ _ _ hf hx hl h
  |normal=>exact j _ _ _ _ hf hx hl h
  |exit id=>exact j _ _ _ _ hf hx hl h
  |ret=>exact j _ _ _ _ hf hx hl h
  |panic ch=>exact j _ _ _ _ hf hx hl h
  |outgrown=>exact j _ _ _ _ hf hx hl h
theorem nT{c:Code}{Q:QT}{b:Frame}{k:List Item}{o:List Frame}{ρ:Env}{a0:Act}{w0:World}{e:Exit}{a:Env}{i:Act}{j:World}
  (f:Fits n i a) (g:Ext ρ a a0 i) (d:cV w0 j) (h:PH c Q e a j.heap):Good C.P c (Out n Q ρ a0 w0) b k o e i j:=by
 cases e with
 |goto l=>
  simp only[PH]at h;simp only[Good];split at h
  ·rename_i m;simp only[m];exact⟨a,f,g,d,h⟩
  ·exact h.elim
 |normal=>exact⟨a,f,g,d,h⟩
 |exit id=>exact⟨a,f,g,d,h⟩
 |ret=>exact⟨a,f,g,d,h⟩
 |panic ch=>exact⟨a,f,g,d,h⟩
 |outgrown=>exact⟨a,f,g,d,h⟩
theorem Nw{a:Act}{σ:dL}{κ:cY}{ρ:Env}{s:σ.den}(b:Fits n a ρ)(c:σ.read ρ=some s):Fits n a (σ.vals s (κ.over ρ))/\Ext ρ (σ.vals s (κ.over ρ)) a a:=
 b.pY b (fun _ _ _=>rfl) c
theorem Sw(M:Hm C n rec){c:Code}{l:Nat}{σ:dL}{κ:cY}{pre rest:List an}{F:List (Nat×List an)}{p r:List Code}(U:chain c l=some (p,r)){Q:QT}{ρ:Env}{a:Act}{w:World}(hf:Fits n a ρ)
  (h:Al rec p pre (Hk (fun ρ' h'=>match σ.read ρ' with
     |some O=>aJ (fun s K h=>Al rec r rest (Hl rec c F (UZ l σ κ (σ.vals s (κ.over ρ')) K (PH c Q)) 4) (σ.vals s (κ.over ρ')) h) O h'
     |none=>False) (PH c Q)) ρ w.heap):(Code.scope c).wp C.P (Out n Q ρ a w) a w:=by
 refine DR fun b k cs=>?_;obtain⟨kk,h1,h2,h3⟩:=rK U;refine h3 (jV (fun e a' w' y=>?_) _ _ _ (oI M _ _ _ ρ a w hf h));refine y.then (fun ρ' S x2 x3 G=>?_) (fun y _=>?_)
 ·split at G
  ·rename_i O L;obtain⟨τ,V,I,μ,t0,e0,hI,i⟩:=G;subst e0;have g:=Nw (κ:=κ) S L;have x:∀(m:Nat) (t:τ) (v:Act) (o:World),μ t=m->I t o.heap->Fits n v (σ.vals (V t) (κ.over ρ'))->Ext ρ' (σ.vals (V t) (κ.over ρ')) a' v->cV w' o->
     nj C.P r (Good C.P c (Out n Q ρ a w) b k cs) v o:=by
    intro m
    induction m using Nat.strongRecOn with
    |_ m ih=>
     intro t v o Y E B d f;refine jV (fun e a2 w2 y=>?_) _ _ _ (oI M _ _ _ _ v o B (i t o.heap E));obtain⟨Z,A,J,z,D⟩:=y;refine CL M (ρ:=σ.vals (V t) (κ.over ρ')) (a0:=v) (w0:=o) (fun e T a3 w3 j u z3 z4=>?_) 4 e Z a2 w2 A J z D;cases e with
     |goto l'=>
      simp only[UZ]at z4;cases hb:wA l' l with
      |false=>
       rw[hb]at z4;exact nT j (x2.trans (d.trans u)) (x3.trans (f.trans z3)) z4
      |true=>
       rw[hb]at z4;have:=zG hb;subst this;simp only[Good,h1];cases hw:within σ κ T (T.length-(σ.vals (V t) (κ.over ρ')).length)with
       |false=>rw[hw]at z4;exact z4.elim
       |true=>
        rw[hw]at z4;simp only[cond_true]at z4;split at z4
        ·rename_i s' H;have q:∀t,σ.has t=false->(κ.over []).eG t=false->a3.tmps[t]?=a'.tmps[t]?:=fun t N R=>by
          rw[u.within hw t N R,d.pY t N R]
         obtain⟨u1,u2⟩:=S.pY (κ:=κ) j q H;obtain⟨W,e1,X,i2⟩:=z4;subst e1;exact PK (h2 (ih _ (by rw[<-Y];exact i2) W a3 w3 rfl X u1 u2 (f.trans z3)))
        ·exact z4.elim
     |normal=>exact nT j (x2.trans (d.trans u)) (x3.trans (f.trans z3)) z4
     |exit id=>exact nT j (x2.trans (d.trans u)) (x3.trans (f.trans z3)) z4
     |ret=>exact nT j (x2.trans (d.trans u)) (x3.trans (f.trans z3)) z4
     |panic ch=>exact nT j (x2.trans (d.trans u)) (x3.trans (f.trans z3)) z4
     |outgrown=>exact nT j (x2.trans (d.trans u)) (x3.trans (f.trans z3)) z4
   exact x _ t0 a' w' rfl hI g.1 g.2 (cV.refl _)
  ·exact G.elim
 ·obtain⟨ρ1,A,J,z,D⟩:=y;exact nT A J z D
theorem acP(hC:C.Ok)(o:Hm C n rec):Hm C n (PI C n rec):=by
 intro c ab Q ρ a w j h;have u:∀{σ:dL} {κ:cY} {K:σ.den->Heap->Prop} {e:Exit} {a':Act} {w':World},Out n (JZ σ κ ρ K Q) ρ a w e a' w'->(∀s h,K s h->Q .normal (σ.vals s (κ.over ρ)) h)->Out n Q ρ a w e a' w':=by
  intro σ κ K e a' w' g U;obtain⟨ρ',f,x2,x3,d⟩:=g;cases e with
  |normal=>
   simp only[JZ]at d;cases hw:within σ κ ρ' (ρ'.length-ρ.length)with
   |false=>rw[hw]at d;exact d.elim
   |true=>
    rw[hw]at d;simp only[cond_true]at d;split at d
    ·rename_i s hs;obtain⟨J,E⟩:=j.pY (κ:=κ) f (x2.within hw) hs;exact⟨_,J,E,x3,U _ _ d⟩
    ·exact d.elim
  |exit id=>exact⟨ρ',f,x2,x3,d⟩
  |goto l=>exact⟨ρ',f,x2,x3,d⟩
  |ret=>exact⟨ρ',f,x2,x3,d⟩
  |panic ch=>exact⟨ρ',f,x2,x3,d⟩
  |outgrown=>exact⟨ρ',f,x2,x3,d⟩
 unfold PI at h;split at h
 ·rename_i σ κ x;obtain⟨K,hK,Z⟩:=h;exact wp_mono (o c x _ ρ a w j Z) fun e a' w' g=>u g hK
 ·split at h
  ·exact wp_skip ⟨ρ,j,Ext.refl _ _,cV.refl _,h⟩
  ·exact wp_label ⟨ρ,j,Ext.refl _ _,cV.refl _,h⟩
  ·exact wp_mono (PG hC j h) fun e a' w' g=>g.2
  ·rename_i x y;refine wp_seq (wp_mono (o x _ _ ρ a w j h) fun e a' w' g=>g.then (fun ρ' f x2 x3 d=>?_) (fun g _=>g));exact wp_mono (o y _ _ ρ' a' w' f d) fun e Y ad g=>g.base x2 x3
  ·rename_i x y z;split at h
   ·rename_i t S;refine wp_cond_split (j.eval S) (fun e=>?_) (fun e=>?_)
    ·subst e;exact o y _ _ ρ a w j h
    ·subst e;exact o z _ _ ρ a w j h
   ·exact h.elim
  ·rename_i id x;refine wp_block (wp_mono (o x _ _ ρ a w j h) fun e a' w' g=>?_);obtain⟨ρ',f,x2,x3,d⟩:=g;cases e with
   |exit i=>
    simp only[Exit.inBlock];simp only[Xj]at d;cases hb:wA i id with
    |true=>
     rw[hb]at d;rw[if_pos (zG hb)];exact⟨ρ',f,x2,x3,d⟩
    |false=>
     rw[hb]at d;rw[if_neg (fun e=>by subst e;simp at hb)];exact⟨ρ',f,x2,x3,d⟩
   |normal=>exact⟨ρ',f,x2,x3,d⟩
   |goto l=>exact⟨ρ',f,x2,x3,d⟩
   |ret=>exact⟨ρ',f,x2,x3,d⟩
   |panic ch=>exact⟨ρ',f,x2,x3,d⟩
   |outgrown=>exact⟨ρ',f,x2,x3,d⟩
  ·exact wp_exit ⟨ρ,j,Ext.refl _ _,cV.refl _,h⟩
  ·exact wp_goto ⟨ρ,j,Ext.refl _ _,cV.refl _,h⟩
  ·exact wp_ret ⟨ρ,j,Ext.refl _ _,cV.refl _,h⟩
  ·rename_i x;split at h
   ·rename_i σ κ y _;split at h
    ·rename_i s0 H;obtain⟨τ,V,I,μ,t0,O,hI,q⟩:=h;subst O;have m:=Nw (κ:=κ) j H;refine Xi (σ:=τ) (fun t D B=>Fits n D (σ.vals (V t) (κ.over ρ))/\Ext ρ (σ.vals (V t) (κ.over ρ)) a D/\cV w B/\I t B.heap) (fun t _=>μ t) t0 ⟨m.1,m.2,cV.refl _,hI⟩ ?_;rintro t D B ⟨G,v,z3,z4⟩;refine wp_mono (o x y _ _ D B G (q t _ z4)) fun e P w2 g=>?_;obtain⟨ρ',f,x2,x3,d⟩:=g;cases e with
     |normal=>
      simp only[JZ]at d;cases hw:within σ κ ρ' (ρ'.length-(σ.vals (V t) (κ.over ρ)).length)with
      |false=>rw[hw]at d;exact d.elim
      |true=>
       rw[hw]at d;simp only[cond_true]at d;split at d
       ·rename_i s' F;have A:∀t,σ.has t=false->(κ.over []).eG t=false->P.tmps[t]?=a.tmps[t]?:=fun t M L=>by
         rw[x2.within hw t M L,v.pY t M L]
        obtain⟨J,E⟩:=j.pY (κ:=κ) f A F;obtain⟨R,T,W,X⟩:=d;subst T;exact⟨R,⟨J,E,z3.trans x3,W⟩,X⟩
       ·exact d.elim
     |exit id=>exact⟨ρ',f,v.trans x2,z3.trans x3,d⟩
     |goto l=>exact⟨ρ',f,v.trans x2,z3.trans x3,d⟩
     |ret=>exact⟨ρ',f,v.trans x2,z3.trans x3,d⟩
     |panic ch=>exact⟨ρ',f,v.trans x2,z3.trans x3,d⟩
     |outgrown=>exact⟨ρ',f,v.trans x2,z3.trans x3,d⟩
    ·exact h.elim
   ·exact h.elim
  ·rename_i x;split at h
   ·split at h
    ·rename_i p r N;exact Sw o N j h
    ·exact h.elim
   ·refine DR fun b k cs=>wp_mono (o x _ _ ρ a w j h) fun e a' w' g=>?_;obtain⟨ρ',f,x2,x3,d⟩:=g;exact CL o (ρ:=ρ) (a0:=a) (w0:=w) (fun e ρ3 a3 w3 G v z3 z4=>nT G v z3 z4) 4 e ρ' a' w' f x2 x3 d
   ·exact h.elim
  ·exact h.elim
theorem PL(a:C.Ok):∀f,Hm C n (vc C n f)
 |0=>fun _ _ _ _ _ _ _ h=>h.elim
 |f+1=>acP a (PL a f)
end
def EW(C:Ctx)(ρ:Env):List ResultVar->(List Value->Prop)->Heap->Prop
 |[],K,_=>K []
 | .tmp t::r,K,h=>match ρ.get t with
  |some v=>EW C ρ r (fun vs=>K (v::vs)) h
  |none=>False
 | .cell a t::r,K,h=>match uH C.T (.load t (.tmp a)) ρ.eval with
  |some q=>∃y:q.ty.den,q.holds h y/\EW C ρ r (fun vs=>K (q.ty.enc y::vs)) h
  |none=>False
def EX:List Value->Value
 |[v]=>v
 |vs=>.tuple vs.toArray
def afK(C:Ctx)(rs:List ResultVar)(R:Value->Heap->Prop):QT
 | .normal,ρ,h=>EW C ρ rs (fun vs=>R (EX vs) h) h
 | .ret,ρ,h=>EW C ρ rs (fun vs=>R (EX vs) h) h
 |_,_,_=>False
def EY:Nat->List Value->Env
 |_,[]=>[]
 |n,v::r=>.val n v::EY (n+1) r
def fnV(C:Ctx)(d:Func)(a:Nat)(b:an)(args:List Value)(R:Value->Heap->Prop)(h:Heap):Prop:=
 match d.body with
 |some c=>vc C d.ntmps a c b (afK C d.results.toList R) (EY 0 args) h
 |none=>False
theorem Ka:∀{args:List Value} {n t:Nat} {v:Value},(EY n args).get t=some v->n<=t/\args[t-n]?=some v
 |[],_,_,_,h=>by cases h
 |u::r,n,t,v,h=>by
  simp only[EY,Env.get]at h;cases hb:wA n t with
  |true=>
   rw[hb]at h;have:=zG hb;subst this;simpa using h
  |false=>
   rw[hb]at h;obtain⟨c,a⟩:=Ka (args:=r) h;refine⟨by omega,?_⟩;obtain⟨k,b⟩:∃k,t-n=k+1:=⟨t-(n+1),by omega⟩
   rw[b,List.getElem?_cons_succ];have:t-(n+1)=k:=by omega
   rw[<-this];exact a
theorem ZW{C:BE}(h:C.Ok){ev:Operand->Option Value}{e:Operand->Value}(f:∀x v,ev x=some v->e x=v){t:TypeId}{x:Operand}{q:Ak}
  (g:uH C.T (.load t x) ev=some q) {y:q.ty.den} {w:World} (d:q.holds w.heap y):(vS t (e x)).run C.P w=.ok (q.ty.enc y) w:=by
 have c:(do pure (Next.value (<-vS t (e x))):Sem Next).run C.P w=.ok (.value (q.ty.enc y)) w:=CI h f (o:=⟨none,.load t x,0, "",#[],none⟩) g d;rw[Sem.run_bind]at c;cases hr:(vS t (e x)).run C.P w with
 |halt a b=>rw[hr]at c;cases c
 |ok v w'=>
  rw[hr]at c;simp only[Result.andThen_ok]at c;cases c;rfl
theorem EZ{C:Ctx}(k:C.Ok){n:Nat}{a:Act}{ρ:Env}(f:Fits n a ρ):∀{rs:List ResultVar} {K:List Value->Prop} {w:World},EW C ρ rs K w.heap->
  ∃vs,(rs.mapM (fun| .tmp t=>pure (a.tmps.getD t undef)| .cell x t=>(do loadVar t (<-asAddr (a.tmps.getD x undef)):Sem Value)):Sem (List Value)).run C.P w=.ok vs w/\K vs
 |[],K,w,h=>⟨[],rfl,h⟩
 | .tmp t::r,K,w,h=>by
  simp only[EW]at h;split at h
  ·rename_i v s;obtain⟨vs,l,g⟩:=EZ k f h;refine⟨v::vs,?_,g⟩;have i:a.tmps.getD t undef=v:=by simp[Array.getD_eq_getD_getElem?,f.get t v s]
   rw[List.mapM_cons,Sem.run_bind,Sem.run_pure,Result.andThen_ok,Sem.run_bind,l,i];rfl
  ·exact h.elim
 | .cell x t::r,K,w,h=>by
  simp only[EW]at h;split at h
  ·rename_i q d;obtain⟨y,p,h⟩:=h;obtain⟨vs,l,g⟩:=EZ k f h;refine⟨q.ty.enc y::vs,?_,g⟩;have m:=ZW k.toOk (e:=a.eval) (fun x v h=>f.eval h) d p;have o:∃c,a.eval (.tmp x)=.pointer (some c):=by
    unfold uH at d;simp only at d;split at d
    ·rename_i c b;exact⟨c,f.eval b⟩
    ·cases d
   obtain⟨c,b⟩:=o;have i:a.tmps.getD x undef=.pointer (some c):=b;rw[b]at m;rw[List.mapM_cons,Sem.run_bind];simp only[i];have j:(do loadVar t (<-asAddr (.pointer (some c))):Sem Value).run C.P w=.ok (q.ty.enc y) w:=m;rw[j,Result.andThen_ok,Sem.run_bind,l];rfl
  ·exact h.elim
theorem acQ{C:Ctx}(n:C.Ok){f:FuncId}{b:Func}(x:C.P.funcs[f]?=some b){a:Nat}{i:an}{args:List Value}(z:args.length<=b.ntmps){R:Value->Heap->Prop}{h:Heap}
  (j:fnV C b a i args R h):ac C.P f args.toArray h R:=by
 rintro w rfl;unfold fnV at j;split at j
 ·rename_i c s;refine calls_of_wp x s ?_;have d:Fits b.ntmps {tmps:=args.toArray++vt (b.ntmps-args.toArray.size) undef,defers:=[]} (EY 0 args):=by
   refine⟨by simp;omega,rfl,fun t v u=>?_⟩;obtain⟨_,g⟩:=Ka u;rw[Nat.sub_zero]at g;have k:t<args.length:=(qn.1 g).1;simp only[Array.getElem?_append,List.size_toArray,k,if_true,List.getElem?_toArray];exact g
  refine wp_mono (PL n a c i _ _ _ w d j) fun e a' w' p=>?_;obtain⟨ρ',m,x2,x3,l⟩:=p;have fin:EW C ρ' b.results.toList (fun vs=>R (EX vs) w'.heap) w'.heap->a'.defers=[]/\∃v,(results b a'.tmps).run C.P w'=.ok v w'/\(∃o,Ending.returned v=.returned o/\cV w w'/\R o w'.heap):=fun q=>by
   obtain⟨vs,y,g⟩:=EZ n m q;refine⟨m.defers,EX vs,?_,EX vs,rfl,x3,g⟩;unfold results;rw[vk,map_eq_pure_bind,bind_assoc,Sem.run_bind];refine(congrArg (fun r=>Result.andThen r _) y).trans ?_;simp only[Result.andThen_ok,pure_bind,Sem.run_pure];cases vs with
   |nil=>rfl
   |cons v r=>cases r<;>rfl
  cases e<;>first|exact fin l|exact l.elim
 ·exact j.elim
theorem au{C:Ctx}(i:C.Ok){f:FuncId}{b:Func}(g:C.P.funcs[f]?=some b)(a:an){args:List Value}{R:Value->Heap->Prop}{h:Heap}{Q:Prop}(c:Q)
  (d:xd args.length b.ntmps=true:=by kernel_rfl) (e:fnV C b 300 a args R h=Q:=by kernel_rfl):ac C.P f args.toArray h R:=acQ i g (zF d) (cast e.symm c)
def az(P:Program)(s:Sem Value)(r:Rt)(h:Heap)(K:r.den->Heap->Prop):Prop:=ag P s h fun v h'=>∃x:r.den,v=r.enc x/\K x h'
def aK(P:Program)(s:Sem Value)(h:Heap)(K:Addr->Heap->Prop):Prop:=ag P s h fun v h'=>∃a:Addr,v=.pointer (some a)/\K a h'
def af(P:Program)(f:FuncId)(args:Array Value)(r:Rt)(h:Heap)(K:r.den->Heap->Prop):Prop:=ac P f args h fun v h'=>∃x:r.den,v=r.enc x/\K x h'
def gb(C:Ctx)(g:FuncId)(args:List Value)(r:Rt)(h:Heap)(K:r.den->Heap->Prop):Prop:=
 match C.fns[g]? with
 |some true=>af C.P g args.toArray r h K
 |_=>False
theorem ee{C:Ctx}{g:FuncId}{args:List Value}{r:Rt}{h:Heap}{K:r.den->Heap->Prop}(a:C.fns[g]?=some true)(b:af C.P g args.toArray r h K):gb C g args r h K:=by
 unfold gb;rw[a];exact b
end Go.Vc
abbrev cD:=List (List UInt8)
abbrev aX:=List UInt8
abbrev dJ:=List (List Int)
abbrev aC:=List Int
abbrev aO:=Option Go.Addr
abbrev aW:=List Go.Value
abbrev AX:=Go.Value->Go.Vc.Heap->Prop
abbrev cA:=Go.FuncId×Array Go.Value×Array Go.Value
abbrev Go.Vc.an.tn(a:Go.Vc.an):Go.Vc.an:=.two .n a
