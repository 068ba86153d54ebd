/- Lemmas for the proof of the law; no condition. -/
import Derived.Calls
import Derived.Orders
import Derived.Scope
import Derived.KernelRfl
import Derived.Laws.Sem
import Derived.OrdersHeld
set_option linter.unusedVariables false
set_option linter.unusedSimpArgs false
open Nat renaming beq -> wM, ble -> xi, blt -> vX, eq_of_beq_eq_true -> zO, le_of_ble_eq_true -> zN, le_refl -> qm
open Bool renaming and_eq_true -> qC, false_eq_true -> zn, or_eq_false_iff -> yA, or_eq_true -> wu, or_false -> xl
open List renaming cons_append -> zB, getElem?_eq_some_iff -> qn, getElem?_map -> qR, length_cons -> zh, mem_append_right -> zW, mem_cons -> q8, mem_cons_of_mem -> qD, mem_cons_self -> qI, mem_singleton -> qB
open BitVec renaming ofInt -> qE
open Go.IntKind renaming i64 -> xz
open Go.Instr renaming build -> vY, fill -> wF, loadAt -> xf, slice -> xq, sliceAt -> yx, sliceBound -> vU, sliceBounds -> wH
open Option renaming map_eq_some_iff -> vf, map_some -> q9, some -> zP
open Array renaming ext' -> yG, mapM_eq_mapM_toList -> vw, replicate -> vE, toList_map -> vV
namespace Go.Vc
open Go
abbrev Heap:=Array Obj
def cellOf(h:Heap)(a:Addr):Option Value:=
 match h[a.block]? with
 |some (.cells c _ _)=>if a.spot.isSome then none else c[a.off]?
 |_=>none
def Ur(h:Heap)(a:Addr):Bool:=
 match h[a.block]? with
 |some (.cells _ _ (lo,hi))=>lo<=a.off&&a.off<hi
 |_=>false
def Us(h:Heap)(a:Addr)(v:Value):Heap:=
 h.modify a.block λ
  | .cells c elem frozen=>.cells (if a.spot.isSome then c else c.setIfInBounds a.off v) elem frozen
  |o=>o
def shapeOf(h:Heap)(r:Nat):Option (TypeId×Nat):=match h[r]? with|some (.cells c elem _)=>some (elem,c.size)|_=>none
theorem ZR(w:World)(r:Nat):w.shape? r=shapeOf w.heap r:=rfl
theorem Kw(w:World)(a:Addr):w.cell? a=cellOf w.heap a:=rfl
theorem acY(w:World)(a:Addr):w.frozen? a=Ur w.heap a:=rfl
theorem acZ(w:World)(a:Addr)(v:Value):(w.setCell a v).heap=Us w.heap a v:=rfl
structure dG (w w':World):Prop where
 os:w'.os=w.os
 tape:w'.tape=w.tape
 output:w'.output=w.output
 drawn:w.drawn<=w'.drawn
theorem dG.refl(w:World):dG w w:=⟨rfl,rfl,rfl,qm _⟩
theorem dG.trans{a b c:World}(h:dG a b)(k:dG b c):dG a c:=⟨k.os.trans h.os,k.tape.trans h.tape,k.output.trans h.output,Nat.le_trans h.drawn k.drawn⟩
def aq(P:Program)(f:FuncId)(args:Array Value)(h:Heap)(R:Value->Heap->Prop):Prop:=
 ∀w,w.heap=h->Calls P f args w λe w'=>∃v,e=.returned v/\dG w w'/\R v w'.heap
theorem aq.mono{P:Program}{f:FuncId}{args:Array Value}{h:Heap}{R a:Value->Heap->Prop}(c:aq P f args h R)
  (g:∀v h',R v h'->a v h'):aq P f args h a:=λw b=>
 (c w b).mono λ_ _ ⟨v,e,d,r⟩=>⟨v,e,d,g _ _ r⟩
def az{α:Type}(P:Program)(s:Sem α)(h:Heap)(K:α->Heap->Prop):Prop:=
 ∀w,w.heap=h->∃v w',s.run P w=.ok v w'/\dG w w'/\K v w'.heap
variable {α β:Type} {P:Program} {h:Heap}
theorem az.pure'{K:α->Heap->Prop}{a:α}(c:K a h):az P (Pure.pure a) h K:=λw b=>⟨a,w,rfl,dG.refl w,by rw[b];exact c⟩
theorem az.bind{s:Sem α}{f:α->Sem β}{K:β->Heap->Prop}(i:az P s h λv h'=>az P (f v) h' K):az P (s>>=f) h K:=by intro w e;obtain⟨v,w',l,j,k⟩:=i w e;obtain⟨g,b,a,d,c⟩:=k w' rfl;exact⟨g,b,by rw[Sem.run_bind,l];exact a,j.trans d,c⟩
theorem az.mono{s:Sem α}{K d:α->Heap->Prop}(f:az P s h K)(g:∀v h',K v h'->d v h'):az P s h d:=λw e=>
 let⟨v,w',a,b,c⟩:=f w e;⟨v,w',a,b,g _ _ c⟩
theorem az.ZS{K:Program->Heap->Prop}(b:K P h):az P program h K:=λw a=>⟨P,w,rfl,dG.refl w,by rw[a];exact b⟩
theorem az.ael{a:Addr}{v v0:Value}{m:Mode}{K:Unit->Heap->Prop}(c:v.oneCell'=true)(e:cellOf h a=some v0)(d:Ur h a=false)(f:K () (Us h a v)):
  az P (store a v m) h K:=λw b=>
 ⟨(),w.setCell a v,by rw[run_store _ _ _ _ _ c,Kw,b,e];simp[acY,b,d],⟨rfl,rfl,rfl,qm _⟩,by rw[acZ,b];exact f⟩
theorem az.pE{o:Obj}{K:Nat->Heap->Prop}(b:K h.size (h.push o)):az P (newObj o) h K:=λw a=>
 ⟨w.heap.size,_,run_newObj P w o,⟨rfl,rfl,rfl,qm _⟩,by simp only[a];exact b⟩
theorem az.He{n:Nat}{K:Unit->Heap->Prop}(b:K () h):az P (askRoom n) h K:=λw a=>⟨(),w,run_askRoom P w n,dG.refl w,by rw[a];exact b⟩
theorem az.Kx{q:Question}{K:Nat->Heap->Prop}(b:(q.forced=true->K 0 h)/\(q.forced=false->∀n,K (q.cut n) h)):az P (choose q) h K:=by
 intro w a;cases hq:q.forced with
 |true=>exact⟨0,w,by rw[run_choose,hq];rfl,dG.refl w,by rw[a];exact b.1 hq⟩
 |false=>exact⟨q.cut (w.tape w.drawn q),{w with drawn:=w.drawn+1},by rw[run_choose,hq];rfl,⟨rfl,rfl,rfl,Nat.le_succ _⟩,by show K _ w.heap;rw[a];exact b.2 hq _⟩
theorem az.aem{r:Nat}{K:Option (TypeId×Nat)->Heap->Prop}(b:K (shapeOf h r) h):az P (shape r) h K:=λw a=>
 ⟨_,w,run_shape P w r,dG.refl w,by rw[a,ZR,a];exact b⟩
def AM(P:Program)(s:Sem Next)(h:Heap)(K:Value->Heap->Prop):Prop:=
 az P s h λa h'=>match a with
  | .value v=>K v h'
  | .skip=>K undef h'
  | .enter f args=>aq P f args h' K
  |_=>False
theorem afQ{P:Program}{o:Oper}{a:Act}{w:World}{K:Value->Heap->Prop}{Q:Exit->Act->World->Prop}
  (k:AM P (execOp a.eval o) w.heap K) {next:Act->World->Prop}
  (g:∀v w',dG w w'->K v w'.heap->next (a.put o.dst v) w'):o.wp P a w next Q:=by
 obtain⟨j,w',i,d,b⟩:=k w rfl;unfold Oper.wp;rw[i];cases j<;>simp only at b<;>simp only[Oper.upon]
 case value v=>exact g _ _ d b
 case skip=>exact g _ _ d b
 case enter f args=>
  refine(b w' rfl).mono ?_;rintro e h ⟨v,rfl,c,r⟩;exact g _ _ (d.trans c) r
structure Sl where
 ptr:Option Addr
 len:Nat
 cap:Nat
 deriving Inhabited
inductive Sc where
 |int (k:IntKind)|bool|str|ptr|slc|flt (k:FloatKind)|cpx (k:FloatKind)|mp|fn|any|adr
@[reducible] def Sc.den:Sc->Type
 | .int _=>Int
 | .bool=>Bool
 | .str=>ByteArray
 | .ptr=>Option Addr
 | .slc=>Sl
 | .flt _=>Nat
 | .cpx _=>Nat×Nat
 | .mp=>Option Nat
 | .fn=>FuncId×Array Value×Array Value
 | .any=>Value
 | .adr=>Addr
@[reducible] def Sc.enc:(s:Sc)->s.den->Value
 | .int k,n=>.int k n
 | .bool,x=>.bool x
 | .str,x=>.string x
 | .ptr,a=>.pointer a
 | .slc,x=>.slice x.ptr x.len x.cap
 | .flt k,n=>.float k n
 | .cpx k,x=>.complex k x.1 x.2
 | .mp,r=>.map r
 | .fn,x=>.func (.func x.1) x.2.1 x.2.2
 | .any,v=>v
 | .adr,a=>.pointer (some a)
def AN:IntKind->IntKind->Bool
 | .i8,.i8| .i16,.i16| .i32,.i32| .i64,.i64| .u8,.u8| .u16,.u16| .u32,.u32| .u64,.u64=>true
 |_,_=>false
theorem GB:∀{a b:IntKind},AN a b=true->a=b:=by intro a b;cases a<;>cases b<;>simp[AN]
def DC:FloatKind->FloatKind->Bool
 | .f32,.f32| .f64,.f64=>true
 |_,_=>false
theorem DD:∀{a b:FloatKind},DC a b=true->a=b:=by intro a b;cases a<;>cases b<;>simp[DC]
def Sc.dec:(s:Sc)->Value->Option s.den
 | .int k,.int k' n=>bif AN k k' then some n else none
 | .bool,.bool x=>some x
 | .str,.string x=>some x
 | .ptr,.pointer a=>some a
 | .slc,.slice a l c=>some ⟨a,l,c⟩
 | .flt k,.float k' n=>bif DC k k' then some n else none
 | .cpx k,.complex k' a b=>bif DC k k' then some (a,b)else none
 | .mp,.map r=>some r
 | .fn,.func (.func g) f c=>some (g,f,c)
 | .any,v=>some v
 | .adr,.pointer (some a)=>some a
 |_,_=>none
theorem Sc.pF{s:Sc}{v:Value}{x:s.den}(h:s.dec v=some x):v=s.enc x:=by
 cases s<;>cases v<;>simp only[Sc.dec]at h<;>try(first|(cases h;done)|(cases h;rfl))
 case int.int k k' n=>
  cases hk:AN k k'<;>simp[hk]at h;have:=GB hk;subst this;subst h;rfl
 case flt.float k k' n=>
  cases hk:DC k k'<;>simp[hk]at h;have:=DD hk;subst this;subst h;rfl
 case cpx.complex k k' a b=>
  cases hk:DC k k'<;>simp[hk]at h;have:=DD hk;subst this;subst h;rfl
 case fn.func g f c=>
  cases g<;>first|(cases h;done)|skip
  obtain⟨l⟩:=f;cases l<;>first|(cases h;done)|(cases h;rfl)
 case adr.pointer a=>
  cases a<;>first|(cases h;done)|(cases h;rfl)
@[reducible] def Ky:List Sc->Type
 |[]=>Unit
 |[s]=>s.den
 |s::t::r=>s.den×Ky (t::r)
@[reducible] def Ae:(l:List Sc)->Ky l->List Value
 |[],_=>[]
 |[s],x=>[s.enc x]
 |s::t::r,x=>s.enc x.1::Ae (t::r) x.2
def Ut:(l:List Sc)->List Value->Option (Ky l)
 |[],[]=>some ()
 |[s],[v]=>s.dec v
 |s::t::r,v::vs=>match s.dec v with
  |some x=>match Ut (t::r) vs with
   |some y=>some (x,y)
   |none=>none
  |none=>none
 |_,_=>none
theorem WP:∀{l:List Sc} {vs:List Value} {x:Ky l},Ut l vs=some x->vs=Ae l x:=by
 intro l vs
 fun_induction Ut l vs with
 |case1=>intro x _;rfl
 |case2 s v=>intro x h;simp only[Ae];rw[Sc.pF h]
 |case3 s t r v vs x hx y hy ih=>intro z h;cases h;simp only[Ae];rw[Sc.pF hx,ih hy]
 |case4=>intro x h;cases h
 |case5=>intro x h;cases h
 |case6=>intro x h;cases h
inductive Ty where
 |sc (s:Sc)
 |agg (l:List Sc)
 |arr (s:Sc)
@[reducible] def Ty.den:Ty->Type
 | .sc s=>s.den
 | .agg l=>Ky l
 | .arr s=>List s.den
@[reducible] def Ty.enc:(t:Ty)->t.den->Value
 | .sc s,x=>s.enc x
 | .agg l,x=>.agg (Ae l x).toArray
 | .arr s,x=>.agg (x.map s.enc).toArray
def Ty.dec:(t:Ty)->Value->Option t.den
 | .sc s,v=>s.dec v
 | .agg l,.agg ⟨cs⟩=>Ut l cs
 |_,_=>none
theorem Ty.pF{t:Ty}{v:Value}{x:t.den}(h:t.dec v=some x):v=t.enc x:=by
 unfold Ty.dec at h;split at h
 ·exact Sc.pF h
 ·have:=WP h;subst this;rfl
 ·cases h
@[reducible] def Uu:List Ty->Type
 |[]=>Unit
 |[s]=>s.den
 |s::t::r=>s.den×Uu (t::r)
@[reducible] def abZ:(l:List Ty)->Uu l->List Value
 |[],_=>[]
 |[s],x=>[s.enc x]
 |s::t::r,x=>s.enc x.1::abZ (t::r) x.2
inductive Rt where
 |one (t:Ty)
 |many (l:List Ty)
@[reducible] def Rt.den:Rt->Type
 | .one t=>t.den
 | .many l=>Uu l
@[reducible] def Rt.enc:(r:Rt)->r.den->Value
 | .one t,x=>t.enc x
 | .many l,x=>.tuple (abZ l x).toArray
inductive pG where
 |val (t:Nat) (x:Value)
 |kil (lo hi:Nat)
abbrev Env:=List pG
def pG.ff:pG->Nat->Bool
 | .val s _,t=>wM s t
 | .kil lo hi,t=>xi lo t&&vX t hi
def Env.get:Env->Nat->Option Value
 |[],_=>none
 | .val s x::r,t=>bif wM s t then some x else Env.get r t
 | .kil lo hi::r,t=>bif xi lo t&&vX t hi then none else Env.get r t
def Env.ff:Env->Nat->Bool
 |[],_=>false
 |e::r,t=>e.ff t||Env.ff r t
theorem Env.ZT(e:pG)(r:Env)(t:Nat)(h:e.ff t=false):Env.get (e::r) t=Env.get r t:=by
 cases e<;>simp only[pG.ff]at h<;>simp[Env.get,h]
theorem Env.get_append{δ ρ:Env}{t:Nat}(h:δ.ff t=false):Env.get (δ++ρ) t=Env.get ρ t:=by
 induction δ with
 |nil=>rfl
 |cons e r ih=>
  simp only[Env.ff,yA]at h;rw[zB,Env.ZT _ _ _ h.1,ih h.2]
theorem Env.Af{δ ρ:Env}{t:Nat}:Env.ff (δ++ρ) t=(δ.ff t||ρ.ff t):=by
 induction δ with
 |nil=>simp[Env.ff]
 |cons e r ih=>simp[Env.ff,ih,Bool.or_assoc]
structure Fits (n:Nat) (a:Act) (ρ:Env):Prop where
 size:a.tmps.size=n
 defers:a.defers=[]
 get:∀t x,ρ.get t=some x->a.tmps[t]?=some x
def Ext(ρ b:Env)(a c:Act):Prop:=∃δ:Env,b=δ++ρ/\∀t,δ.ff t=false->c.tmps[t]?=a.tmps[t]?
theorem Ext.refl(ρ:Env)(a:Act):Ext ρ ρ a a:=⟨[],rfl,λ_ _=>rfl⟩
theorem Ext.trans{ρ e b:Env}{a f c:Act}(h:Ext ρ e a f)(k:Ext e b f c):Ext ρ b a c:=by obtain⟨δ,rfl,h⟩:=h;obtain⟨g,rfl,k⟩:=k;refine⟨g++δ,by simp,λt d=>?_⟩;rw[Env.Af,yA]at d;rw[k t d.1,h t d.2]
def Env.eval(ρ:Env):Operand->Option Value
 | .tmp t=>ρ.get t
 | .const v=>some v
 | .global g=>some (.pointer (some ⟨g,0,none⟩))
 | .func f=>some (.func (.func f) #[] #[])
theorem Fits.eval{n:Nat}{a:Act}{ρ:Env}(h:Fits n a ρ){x:Operand}{v:Value}(b:ρ.eval x=some v):a.eval x=v:=by
 cases x<;>simp only[Env.eval]at b<;>simp only[Act.eval]
 case tmp t=>have:=h.get t v b;simp[Array.getD_eq_getD_getElem?,this]
 all_goals (injection b)
theorem Fits.put{n:Nat}{a:Act}{ρ:Env}(h:Fits n a ρ){d:Nat}(f:vX d n=true)(v:Value):Fits n (a.put (some d) v) (.val d v::ρ):=by
 have c:d<n:=zN f;refine⟨by simp[Act.put,h.size],h.defers,λt x b=>?_⟩;simp only[Env.get]at b;simp only[Act.put,Array.getElem?_setIfInBounds];cases hb:wM d t with
 |true=>
  rw[hb]at b;have:d=t:=zO hb;subst this;simp at b;simp[h.size,c,b]
 |false=>
  rw[hb]at b;have:d≠t:=λe=>by subst e;simp at hb
  simp only[this,if_false];exact h.get t x b
theorem Ext.put{ρ:Env}{a:Act}{d:Nat}(v u:Value):Ext ρ (.val d u::ρ) a (a.put (some d) v):=by
 refine⟨[.val d u],rfl,λt b=>?_⟩;simp only[Env.ff,pG.ff,xl]at b;have:d≠t:=λe=>by subst e;simp at b
 simp[Act.put,this]
abbrev dY:=List (Nat×Ty)
@[reducible] def dY.den:dY->Type
 |[]=>Unit
 |[s]=>s.2.den
 |s::t::r=>s.2.den×dY.den (t::r)
def dY.vals:(σ:dY)->σ.den->Env->Env
 |[],_,ρ=>ρ
 |[s],x,ρ=>.val s.1 (s.2.enc x)::ρ
 |s::t::r,x,ρ=>.val s.1 (s.2.enc x.1)::dY.vals (t::r) x.2 ρ
def dY.read:(σ:dY)->Env->Option σ.den
 |[],_=>some ()
 |[s],ρ=>match ρ.get s.1 with
  |some v=>s.2.dec v
  |none=>none
 |s::t::r,ρ=>match ρ.get s.1 with
  |some v=>match s.2.dec v with
   |some x=>match dY.read (t::r) ρ with
    |some y=>some (x,y)
    |none=>none
   |none=>none
  |none=>none
def dY.has:dY->Nat->Bool
 |[],_=>false
 |s::r,t=>wM s.1 t||dY.has r t
abbrev dz:=List (Nat×Nat)
def dz.over:dz->Env->Env
 |[],ρ=>ρ
 |(lo,hi)::r,ρ=>.kil lo hi::dz.over r ρ
def dz.has:dz->Nat->Nat->Bool
 |[],_,_=>false
 |(lo,hi)::r,a,b=>(xi lo a&&xi b hi)||dz.has r a b
def within(σ:dY)(κ:dz):Env->Nat->Bool
 |_,0=>true
 |[],_+1=>true
 | .val t _::r,n+1=>(dY.has σ t||dz.has κ t (t+1))&&within σ κ r n
 | .kil lo hi::r,n+1=>dz.has κ lo hi&&within σ κ r n
theorem dz.ZU{κ:dz}{a b:Nat}(h:κ.has a b=true){t:Nat}(e:a<=t)(f:t<b)(ρ:Env):∃δ:Env,κ.over ρ=δ++ρ/\δ.ff t=true:=by
 induction κ with
 |nil=>simp[dz.has]at h
 |cons p r ih=>
  obtain⟨c,d⟩:=p;simp only[dz.has,wu,qC]at h;obtain⟨δ,i⟩:∃δ:Env,dz.over r ρ=δ++ρ:=by
   clear ih h
   induction r with
   |nil=>exact⟨[],rfl⟩
   |cons q r ih=>obtain⟨δ,h⟩:=ih;exact⟨.kil q.1 q.2::δ,by show pG.kil q.1 q.2::dz.over r ρ=_;rw[h];rfl⟩
  rcases h with h|h
  ·have k:=zN h.1;have l:=zN h.2;refine⟨.kil c d::δ,by simp[dz.over,i],?_⟩;have g:xi c t=true:=Nat.ble_eq_true_of_le (by omega);have x2:vX t d=true:=by unfold vX;exact Nat.ble_eq_true_of_le (by omega)
   simp[Env.ff,pG.ff,g,x2]
  ·obtain⟨j,e,f⟩:=ih h;exact⟨.kil c d::j,by simp[dz.over,e],by simp[Env.ff,f]⟩
theorem dz.Oh(κ:dz)(ρ:Env):κ.over ρ=κ.over []++ρ:=by
 induction κ with
 |nil=>rfl
 |cons p r ih=>obtain⟨b,a⟩:=p;simp[dz.over,ih]
theorem dY.Hg:∀(σ:dY) (x:σ.den) (ρ:Env),σ.vals x ρ=σ.vals x []++ρ
 |[],_,ρ=>rfl
 |[s],x,ρ=>rfl
 |s::t::r,x,ρ=>by simp only[dY.vals];rw[dY.Hg (t::r) x.2 ρ];rfl
theorem dY.vx:∀(σ:dY) (x:σ.den) (t:Nat),(σ.vals x []).ff t=σ.has t
 |[],_,_=>rfl
 |[s],x,t=>by simp[dY.vals,Env.ff,pG.ff,dY.has]
 |s::u::r,x,t=>by
  have:=dY.vx (u::r) x.2 t;simp only[dY.vals,Env.ff,pG.ff,this];rfl
theorem dY.Oi:∀(σ:dY) (x:σ.den) (e:Env) (t:Nat),σ.has t=true->((σ.vals x [])++e).get t=(σ.vals x []).get t
 |[],_,_,_,h=>by cases h
 |[s],x,e,t,h=>by
  simp only[dY.has,xl]at h;simp[dY.vals,Env.get,h]
 |s::u::r,x,e,t,h=>by
  simp only[dY.vals,zB,Env.get];cases hb:wM s.1 t with
  |true=>rfl
  |false=>
   have h':dY.has (u::r) t=true:=by have a:(wM s.1 t||dY.has (u::r) t)=true:=h;rw[hb]at a;exact a
   simpa using dY.Oi (u::r) x.2 e t h'
theorem dz.LL{κ:dz}{a b t:Nat}(h:κ.has a b=true)(e:a<=t)(f:t<b):(κ.over []).ff t=true:=by obtain⟨δ,d,c⟩:=dz.ZU h e f [];rw[d];simpa using c
theorem pH{σ:dY}{κ:dz}:∀{δ ρ:Env},within σ κ (δ++ρ) δ.length=true->∀t,σ.has t=false->(κ.over []).ff t=false->δ.ff t=false
 |[],_,_,_,_,_=>rfl
 | .val s x::r,ρ,h,t,h1,h2=>by
  simp only[zB,zh,within,qC,wu]at h;simp only[Env.ff,pG.ff,yA];refine⟨?_,pH h.2 t h1 h2⟩;cases hb:wM s t with
  |false=>rfl
  |true=>
   have:s=t:=zO hb;subst this;rcases h.1 with h|h
   ·rw[h]at h1;cases h1
   ·rw[dz.LL h (qm _) (Nat.lt_succ_self _)]at h2;cases h2
 | .kil lo hi::r,ρ,h,t,h1,h2=>by
  simp only[zB,zh,within,qC]at h;simp only[Env.ff,pG.ff,yA];refine⟨?_,pH h.2 t h1 h2⟩;cases hb:(xi lo t&&vX t hi)with
  |false=>rfl
  |true=>
   simp only[qC]at hb;have a:=zN hb.1;have b:t<hi:=zN hb.2;rw[dz.LL h.1 a b]at h2;cases h2
theorem dY.Oj:∀{σ:dY} {ρ:Env} {x:σ.den} {t:Nat} {v:Value},σ.read ρ=some x->(σ.vals x []).get t=some v->ρ.get t=some v∨False
 |[],_,_,_,_,_,h=>by simp[dY.vals,Env.get]at h
 |[s],ρ,x,t,v,h,hv=>by
  simp only[dY.read]at h;split at h
  ·rename_i u c;simp only[dY.vals,Env.get]at hv;cases hb:wM s.1 t with
   |true=>
    rw[hb]at hv;have:=zO hb;simp at hv;subst hv;rw[<-Ty.pF h,<-this];exact .inl c
   |false=>rw[hb]at hv;simp at hv
  ·cases h
 |s::u::r,ρ,x,t,v,h,hv=>by
  simp only[dY.read]at h;split at h
  ·rename_i z d;split at h
   ·rename_i y a;split at h
    ·rename_i w b;cases h;simp only[dY.vals,Env.get]at hv;cases hb:wM s.1 t with
     |true=>
      rw[hb]at hv;have:=zO hb;simp at hv;subst hv;rw[<-Ty.pF a,<-this];exact .inl d
     |false=>
      rw[hb]at hv;exact dY.Oj (σ:=u::r) b hv
    ·cases h
   ·cases h
  ·cases h
theorem Fits.pI{n:Nat}{a d:Act}{σ:dY}{κ:dz}{ρ g:Env}{x:σ.den}(i:Fits n a ρ)(h:Fits n d g)
  (b:∀t,σ.has t=false->(κ.over []).ff t=false->d.tmps[t]?=a.tmps[t]?) (j:σ.read g=some x):
  Fits n d (σ.vals x (κ.over ρ))/\Ext ρ (σ.vals x (κ.over ρ)) a d:=by
 rw[dY.Hg,dz.Oh];refine⟨⟨h.size,h.defers,λt v c=>?_⟩,⟨σ.vals x []++κ.over [],by simp,λt f=>?_⟩⟩
 ·cases h1:σ.has t with
  |true=>
   have:∀(e:Env),((σ.vals x [])++e).get t=(σ.vals x []).get t:=λe=>dY.Oi σ x e t h1;rw[this]at c;rcases dY.Oj j c with h2|h2
   ·exact h.get t v h2
   ·exact h2.elim
  |false=>
   rw[Env.get_append (by rw[dY.vx];exact h1)]at c;cases h2:(κ.over []).ff t with
   |true=>
    have:∀(e:Env),((κ.over [])++e).get t=none:=by
     intro e;clear b c
     induction κ with
     |nil=>simp[dz.over,Env.ff]at h2
     |cons p r ih=>
      obtain⟨k,l⟩:=p;simp only[dz.over,Env.ff,pG.ff]at h2;simp only[dz.over,zB,Env.get];cases hb:(xi k t&&vX t l)with
      |true=>rfl
      |false=>rw[hb]at h2;simp at h2;simpa using ih h2
    rw[this]at c;cases c
   |false=>
    rw[Env.get_append h2]at c;rw[b t h1 h2];exact i.get t v c
 ·rw[Env.Af,yA,dY.vx]at f;exact b t f.1 f.2
theorem Ext.within{a e:Act}{σ:dY}{κ:dz}{ρ c:Env}(g:Ext ρ c a e)(d:within σ κ c (c.length-ρ.length)=true):
  ∀t,σ.has t=false->(κ.over []).ff t=false->e.tmps[t]?=a.tmps[t]?:=by
 obtain⟨δ,rfl,i⟩:=g;have b:(δ++ρ).length-ρ.length=δ.length:=by simp
 rw[b]at d;exactλt f h=>i t (pH d t f h)
theorem Ext.pI{a b:Act}{σ:dY}{κ:dz}{ρ:Env}{x:σ.den}(e:Ext ρ (σ.vals x (κ.over ρ)) a b):
  ∀t,σ.has t=false->(κ.over []).ff t=false->b.tmps[t]?=a.tmps[t]?:=by
 obtain⟨δ,c,g⟩:=e;rw[dY.Hg,dz.Oh,<-List.append_assoc]at c;have:=List.append_cancel_right c;subst this;exactλt d f=>g t (by rw[Env.Af,dY.vx,d,f];rfl)
inductive CY where
 |int (k:IntKind)|bool|str|flt|cpx|mp|fn|other
 |slice (e:TypeId)|array (n:Nat) (e:TypeId)|struct (fs:List (Nat×TypeId))|ptr (e:TypeId)
def iY:Option TypeDesc->CY
 |some (.int k)=>.int k
 |some .bool=>.bool
 |some .string=>.str
 |some (.float _)=>.flt
 |some (.complex _)=>.cpx
 |some (.map ..)=>.mp
 |some (.func ..)=>.fn
 |some (.slice e)=>.slice e
 |some (.array n e)=>.array n e
 |some (.struct fs)=>.struct (fs.toList.map λf=>(f.offset,f.type))
 |some (.pointer e)=>.ptr e
 |_=>.other
structure TI where
 db:CY
 ty:Ty
 size:Nat
 bytes:Nat
 zero:List Value
abbrev km:=List TI
def km.seen(P:Program)(t:TypeId):CY×Option (Nat×Nat×Option (List Value)):=
 (iY (P.underlying t),(P.info? t).map λi=>(i.size,i.bytes,i.zero.map (·.cells.toList)))
def km.told(i:TI):CY×Option (Nat×Nat×Option (List Value)):=(i.db,some (i.size,i.bytes,some i.zero))
def km.get:km->Nat->Option TI
 |[],_=>none
 |i::_,0=>some i
 |_::r,t+1=>km.get r t
structure AO where
 P:Program
 T:km
structure AO.Ok (C:AO):Prop where
 tbl:(List.range C.T.length).map (km.seen C.P)=C.T.map km.told
 mixed:C.P.follows .mixedOrders=true
theorem km.get_eq:∀(T:km) (t:Nat),T.get t=T[t]?
 |[],_=>rfl
 |_::_,0=>rfl
 |_::r,t+1=>by simp[km.get,km.get_eq r t]
theorem AO.Ok.at{C:AO}(h:C.Ok){t:Nat}{i:TI}(a:C.T.get t=some i):km.seen C.P t=km.told i:=by rw[km.get_eq]at a;have b:t<C.T.length:=(qn.1 a).1;have:=congrArg (·[t]?) h.tbl;simp[b]at this;rw[this,(qn.1 a).2]
def Br(b:Bool)(A B:Prop):Prop:=match b with
 |true=>A
 |false=>B
inductive PV:Type 1 where
 |no
 |val (v:Value)
 |cond (c:Prop) (v:Value)
 |ex (X:Type) (c:X->Prop) (v:X->Value)
 |br (b:Bool) (x y:Value)
def PV.holds(p:PV)(K:Value->Prop):Prop:=match p with
 | .no=>False
 | .val v=>K v
 | .cond c v=>c/\K v
 | .ex _ c v=>∃x,c x/\K (v x)
 | .br b x y=>Br b (K x) (K y)
def rK(P:Program)(s:Sem Next)(v:Value):Prop:=∀w,s.run P w=.ok (.value v) w
def aK{α:Type}(P:Program)(s:Sem α)(v:α):Prop:=∀w,s.run P w=.ok v w
def ko(P:Program)(op:BinOp)(t:TypeId)(x y:Operand)(a b r:Value):Prop:=aK P (do eqGuard op t x y a b;binOp op t a b) r
def aca:Operand->Bool
 | .tmp _=>true
 |_=>false
def ZV(P:Program)(t:TypeId)(x y:Operand)(d:Option CY)(op:BinOp):Value->Value->PV
 | .int k a,.int k' b=>
  match op with
  | .shl=>.cond (0<=b) (.int k (k.wrap (a*2^min b.toNat k.bits)))
  | .shr=>.cond (0<=b) (.int k (a.fdiv (2^min b.toNat k.bits)))
  |_=>bif AN k k' then
   match op with
   | .add=>.val (.int k (k.wrap (a+b)))
   | .sub=>.val (.int k (k.wrap (a-b)))
   | .mul=>.val (.int k (k.wrap (a*b)))
   | .quo=>.cond (b≠0) (.int k (k.wrap (a.tdiv b)))
   | .rem=>.cond (b≠0) (.int k (a.tmod b))
   | .and=>.val (.int k (k.wrap (qE k.bits a&&&qE k.bits b).toNat))
   | .or=>.val (.int k (k.wrap (qE k.bits a|||qE k.bits b).toNat))
   | .xor=>.val (.int k (k.wrap (qE k.bits a^^^qE k.bits b).toNat))
   | .andNot=>.val (.int k (k.wrap (qE k.bits a&&&~~~qE k.bits b).toNat))
   | .eql=>.val (.bool (a==b))
   | .neq=>.val (.bool (a !=b))
   | .lss=>.val (.bool (decide (a<b)))
   | .leq=>.val (.bool (decide (a<=b)))
   | .gtr=>.val (.bool (decide (a>b)))
   | .geq=>.val (.bool (decide (a>=b)))
   |_=>.no
  else .no
 | .float k a,.float k' b=>bif DC k k' then
   match op with
   | .add=>.ex Nat (λr=>k.format.add a b=some r) (λr=>.float k r)
   | .sub=>.ex Nat (λr=>k.format.sub a b=some r) (λr=>.float k r)
   | .mul=>.ex Nat (λr=>k.format.mul a b=some r) (λr=>.float k r)
   | .quo=>.ex Nat (λr=>k.format.div a b=some r) (λr=>.float k r)
   | .eql=>.val (.bool (k.format.order a b==some .eq))
   | .neq=>.val (.bool (k.format.order a b !=some .eq))
   | .lss=>.val (.bool (k.format.order a b==some .lt))
   | .gtr=>.val (.bool (k.format.order a b==some .gt))
   |_=>.no
  else .no
 | .string a,.string b=>
  match op with
  | .eql=>.val (.bool (a.toList==b.toList))
  | .neq=>.val (.bool (!(a.toList==b.toList)))
  | .lss=>.val (.bool (Op.bytesLess a.toList b.toList))
  | .leq=>.val (.bool (Op.bytesLess a.toList b.toList||a.toList==b.toList))
  | .gtr=>.val (.bool (!(Op.bytesLess a.toList b.toList||a.toList==b.toList)))
  | .geq=>.val (.bool (!(Op.bytesLess a.toList b.toList)))
  | .add=>.cond (((a.size+b.size:Nat):Int)<=xz.max) (.string (a++b))
  |_=>.no
 | .bool a,.bool b=>
  match d with
  |some .bool=>match op with
   | .eql=>.val (.bool (a==b))
   | .neq=>.val (.bool (!(a==b)))
   |_=>.no
  |_=>.no
 | .pointer a,.pointer b=>bif aca y then .ex Bool (λr=>ko P op t x y (.pointer a) (.pointer b) (.bool r)) (λr=>.bool r)else
  match b with
  |none=>match d with
   |some (.ptr _)=>match op with
    | .eql=>.val (.bool a.isNone)
    | .neq=>.val (.bool (!a.isNone))
    |_=>.no
   |_=>.no
  |some _=>.no
 | .slice a _ _,.slice none _ _=>
  match d with
  |some (.slice _)=>match op with
   | .eql=>.val (.bool a.isNone)
   | .neq=>.val (.bool (!a.isNone))
   |_=>.no
  |_=>.no
 | .agg a,.agg b=>.ex Bool (λr=>ko P op t x y (.agg a) (.agg b) (.bool r)) (λr=>.bool r)
 | .complex k a b,.complex k' c e=>
  match op with
  | .eql| .neq=>.ex Bool (λr=>ko P op t x y (.complex k a b) (.complex k' c e) (.bool r)) (λr=>.bool r)
  |_=>.ex (Nat×Nat) (λr=>ko P op t x y (.complex k a b) (.complex k' c e) (.complex k r.1 r.2)) (λr=>.complex k r.1 r.2)
 |_,_=>.no
def ZW(P:Program)(t:TypeId)(x y:Operand)(d:Option CY)(op:BinOp)(a:Value):Value->PV
 | .nilIface=>.ex Bool (λr=>ko P op t x y a .nilIface (.bool r)) (λr=>.bool r)
 |b=>ZV P t x y d op a b
def unV(op:UnOp):Value->PV
 | .bool b=>match op with
  | .not=>.val (.bool !b)
  |_=>.no
 | .int k n=>match op with
  | .neg=>.val (.int k (k.wrap (0-n)))
  | .xor=>.val (.int k (k.wrap (qE k.bits (if k.signed then-1 else k.max)^^^qE k.bits n).toNat))
  |_=>.no
 |_=>.no
def pz(ev:Operand->Option Value):List Operand->Option (List Value)
 |[]=>some []
 |x::r=>match ev x with
  |some v=>match pz ev r with
   |some vs=>some (v::vs)
   |none=>none
  |none=>none
def DE(ev:Operand->Option Value):List (Nat×Operand)->Option (List (Nat×Value))
 |[]=>some []
 |(n,x)::r=>match ev x with
  |some v=>match DE ev r with
   |some vs=>some ((n,v)::vs)
   |none=>none
  |none=>none
def placesOf(T:km):List (Nat×TypeId)->Option (List (Nat×Nat))
 |[]=>some []
 |(off,t)::r=>match T.get t with
  |some j=>match placesOf T r with
   |some ps=>some ((off,j.size)::ps)
   |none=>none
  |none=>none
def It(ev:Operand->Option Value):Option Operand->Option (Option Int)
 |none=>some none
 |some x=>match ev x with
  |some (.int _ n)=>some (some n)
  |_=>none
def aen(d:Option CY):Value->PV
 | .slice _ n _=>match d with
  |some (.slice _)=>.val (.int .i64 n)
  |_=>.no
 | .string s=>match d with
  |some .str=>.val (.int .i64 s.size)
  |_=>.no
 |_=>.no
def aeo(d:Option CY):Value->PV
 | .slice _ _ n=>match d with
  |some (.slice _)=>.val (.int .i64 n)
  |_=>.no
 |_=>.no
def acb(d:Option CY):Value->PV
 | .int _ n=>match d with
  |some (.int k)=>.val (.int k (k.wrap n))
  |_=>.no
 |_=>.no
def AP(P:Program)(T:km)(op:Op)(ev:Operand->Option Value):PV:=
 match op with
 | .move x| .assign x=>match ev x with
  |some v=>.val v
  |none=>.no
 | .pick c a b=>match ev c,ev a,ev b with
  |some (.bool t),some x,some y=>.br t x y
  |_,_,_=>.no
 | .nilCheck x=>match ev x with
  |some (.pointer p)=>.ex Addr (λa=>p=some a) (λa=>.pointer (some a))
  |_=>.no
 | .fieldAddr s x f=>match ev x with
  |some (.pointer (some a))=>match T.get s with
   |some i=>match i.db with
    | .struct fs=>match fs[f]? with
     |some (off,t)=>match T.get t with
      |some j=>bif wM j.size 0 then .no else .val (.pointer (some (a.add off)))
      |none=>.no
     |none=>.no
    |_=>.no
   |none=>.no
  |_=>.no
 | .indexAddr t x ix=>match ev ix with
  |some (.int _ n)=>match ev x with
   |some (.slice p len _)=>match T.get t with
    |some i=>match i.db with
     | .slice e=>match T.get e with
      |some j=>.ex Addr (λa=>p=some a/\0<=n/\n<(len:Int)) (λa=>.pointer (some (a.add (n.toNat*j.size))))
      |none=>.no
     |_=>.no
    |none=>.no
   |some (.pointer (some a))=>match T.get t with
    |some i=>match i.db with
     | .array m e=>match T.get e with
      |some j=>.cond (0<=n/\n<(m:Int)) (.pointer (some (a.add (n.toNat*j.size))))
      |none=>.no
     |_=>.no
    |none=>.no
   |_=>.no
  |_=>.no
 | .index t x ix=>match ev ix with
  |some (.int _ n)=>match ev x with
   |some (.string s)=>match T.get t with
    |some i=>match i.db with
     | .str=>.ex UInt8 (λb=>0<=n/\s.data[n.toNat]?=some b) (λb=>.int .u8 b.toNat)
     |_=>.no
    |none=>.no
   |some (.agg cs)=>match T.get t with
    |some i=>match i.db with
     | .array m e=>match T.get e with
      |some j=>match j.ty with
       | .sc s=>match j.db with
        | .struct _=>.no
        | .array _ _=>.no
        | .other=>.no
        |_=>bif wM j.size 1 then .ex s.den (λy=>0<=n/\n<(m:Int)/\cs[n.toNat]?=some (s.enc y)) (λy=>s.enc y)else .no
       |_=>.no
      |none=>.no
     |_=>.no
    |none=>.no
   |_=>.no
  |_=>.no
 | .field s x f=>match ev x with
  |some (.agg ⟨cs⟩)=>match T.get s with
   |some i=>match i.db with
    | .struct fs=>match fs[f]? with
     |some (off,t)=>match T.get t with
      |some j=>match j.db with
       | .struct _=>.val (.agg ((cs.drop off).take j.size).toArray)
       | .array _ _=>.val (.agg ((cs.drop off).take j.size).toArray)
       | .other=>.no
       |_=>match cs[off]? with
        |some v=>.val v
        |none=>.no
      |none=>.no
     |none=>.no
    |_=>.no
   |none=>.no
  |_=>.no
 | .slice t x lo hi mx=>match mx with
  |some _=>.no
  |none=>match It ev lo,It ev hi with
   |some l,some r=>match ev x with
    |some (.slice p len cap)=>match T.get t with
     |some i=>match i.db with
      | .slice e=>match T.get e with
       |some j=>match l,r with
        |none,none=>.val (.slice p len cap)
        |none,some r=>.cond (0<=r/\r<=(cap:Int)) (.slice p r.toNat cap)
        |some l,none=>.cond (0<=l/\l<=(len:Int)) (.slice (if cap=l.toNat then p else p.map (·.add (l.toNat*j.size))) (len-l.toNat) (cap-l.toNat))
        |some l,some r=>.cond (0<=l/\l<=r/\r<=(cap:Int)) (.slice (if cap=l.toNat then p else p.map (·.add (l.toNat*j.size))) (r.toNat-l.toNat) (cap-l.toNat))
       |none=>.no
      |_=>.no
     |none=>.no
    |some (.string s)=>match T.get t with
     |some i=>match i.db with
      | .str=>match l,r with
       |none,none=>.val (.string (s.extract 0 s.size))
       |none,some r=>.cond (0<=r/\r<=(s.size:Int)) (.string (s.extract 0 r.toNat))
       |some l,none=>.cond (0<=l/\l<=(s.size:Int)) (.string (s.extract l.toNat s.size))
       |some l,some r=>.cond (0<=l/\l<=r/\r<=(s.size:Int)) (.string (s.extract l.toNat r.toNat))
      |_=>.no
     |none=>.no
    |some (.pointer (some a))=>match T.get t with
     |some i=>match i.db with
      | .array n e=>match T.get e with
       |some j=>match l,r with
        |none,none=>.val (.slice (some a) n n)
        |none,some r=>.cond (0<=r/\r<=(n:Int)) (.slice (some a) r.toNat n)
        |some l,none=>.cond (0<=l/\l<=(n:Int)) (.slice (some (if n=l.toNat then a else a.add (l.toNat*j.size))) (n-l.toNat) (n-l.toNat))
        |some l,some r=>.cond (0<=l/\l<=r/\r<=(n:Int)) (.slice (some (if n=l.toNat then a else a.add (l.toNat*j.size))) (r.toNat-l.toNat) (n-l.toNat))
       |none=>.no
      |_=>.no
     |none=>.no
    |_=>.no
   |_,_=>.no
 | .extract x n=>match ev x with
  |some (.tuple ⟨vs⟩)=>match vs[n]? with
   |some v=>.val v
   |none=>.no
  |_=>.no
 | .binOp op t x y _=>match ev x,ev y with
  |some a,some b=>ZW P t x y ((T.get t).map (·.db)) op a b
  |_,_=>.no
 | .unOp op _ x=>match ev x with
  |some v=>unV op v
  |none=>.no
 | .convert src dst x=>match ev x,(T.get src).map TI.db with
  |some v,some (CY.int _)=>acb ((T.get dst).map (·.db)) v
  |_,_=>.no
 | .build t parts=>match DE ev parts.toList with
  |some vs=>match T.get t with
   |some i=>bif vX 24 i.size then .ex Value (λv=>aK P (vY t vs.toArray) v) (λv=>v)else match i.db with
    | .struct fs=>match placesOf T fs with
     |some ps=>match wF (λn=>ps[n]?) i.zero.toArray vs with
      |some cells=>.val (.agg cells)
      |none=>.no
     |none=>.no
    | .array _ e=>match T.get e with
     |some j=>match wF (λn=>some (n*j.size,j.size)) i.zero.toArray vs with
      |some cells=>.val (.agg cells)
      |none=>.no
     |none=>.no
    |_=>.no
   |none=>.no
  |none=>.no
 | .makeFunc fn first captured=>match pz ev first.toList,pz ev captured.toList with
  |some a,some b=>.val (.func fn a.toArray b.toArray)
  |_,_=>.no
 | .call c=>match c.callee with
  | .builtin b=>match b with
   | .len=>match c.argTypes.toList,c.args.toList with
    |t::_,[x]=>match ev x with
     |some v=>aen ((T.get t).map (·.db)) v
     |none=>.no
    |_,_=>.no
   | .cap=>match c.argTypes.toList,c.args.toList with
    |t::_,[x]=>match ev x with
     |some v=>aeo ((T.get t).map (·.db)) v
     |none=>.no
    |_,_=>.no
   | .min=>match pz ev c.args.toList with
    |some [.int k a,.int _ b]=>.val (.int k (if b<a then b else a))
    |_=>.no
   | .max=>match pz ev c.args.toList with
    |some [.int k a,.int _ b]=>.val (.int k (if b>a then b else a))
    |_=>.no
   | .real=>match pz ev c.args.toList with
    |some [.complex k a _]=>.val (.float k a)
    |_=>.no
   | .imag=>match pz ev c.args.toList with
    |some [.complex k _ b]=>.val (.float k b)
    |_=>.no
   |_=>.no
  |_=>.no
 |_=>.no
theorem aK.next{P:Program}{s:Sem Value}{v:Value}(h:aK P s v):rK P (do pure (.value (<-s))) v:=λw=>by
 rw[Sem.run_bind,h w];rfl
theorem aK.pure{α:Type}{P:Program}{v:α}:aK P (pure v) v:=λ_=>rfl
theorem aK.bind{α β:Type}{P:Program}{s:Sem α}{f:α->Sem β}{v:α}{u:β}(h:aK P s v)(k:aK P (f v) u):aK P (s>>=f) u:=λw=>by
 rw[Sem.run_bind,h w];exact k w
theorem FI{d:Option TypeDesc}{k:IntKind}(h:iY d=.int k):d=some (.int k):=by unfold iY at h;split at h<;>cases h;rfl
theorem ZX{d:Option TypeDesc}(h:iY d=.bool):d=some .bool:=by unfold iY at h;split at h<;>cases h;rfl
theorem tj{d:Option TypeDesc}(h:iY d=.str):d=some .string:=by unfold iY at h;split at h<;>cases h;rfl
theorem jv{d:Option TypeDesc}{e:TypeId}(h:iY d=.slice e):d=some (.slice e):=by unfold iY at h;split at h<;>cases h;rfl
theorem rL{d:Option TypeDesc}{n:Nat}{e:TypeId}(h:iY d=.array n e):d=some (.array n e):=by unfold iY at h;split at h<;>cases h;rfl
theorem ada{d:Option TypeDesc}{e:TypeId}(h:iY d=.ptr e):d=some (.pointer e):=by unfold iY at h;split at h<;>cases h;rfl
theorem oB{d:Option TypeDesc}{a:List (Nat×TypeId)}(h:iY d=.struct a):∃b,d=some (.struct b)/\a=b.toList.map λf=>(f.offset,f.type):=by unfold iY at h;split at h<;>cases h;exact⟨_,rfl,rfl⟩
variable {C:AO} {t:TypeId} {i:TI}
theorem AO.Ok.db(h:C.Ok)(a:C.T.get t=some i):iY (C.P.underlying t)=i.db:=congrArg Prod.fst (h.at a)
theorem AO.Ok.info(h:C.Ok)(d:C.T.get t=some i):∃f,C.P.info? t=some f/\f.size=i.size/\f.bytes=i.bytes/\∃z,f.zero=some z/\z.cells.toList=i.zero:=by
 have:=congrArg Prod.snd (h.at d);simp only[km.seen,km.told]at this;cases hf:C.P.info? t with
 |none=>rw[hf]at this;cases this
 |some f=>
  rw[hf]at this;simp only[q9,zP.injEq,Prod.mk.injEq]at this;obtain⟨a,b,c⟩:=this;cases hz:f.zero with
  |none=>rw[hz]at c;cases c
  |some z=>rw[hz]at c;simp at c;exact⟨f,rfl,a,b,z,hz,by simpa using c⟩
theorem aR{P:Program}{t:TypeId}{d:TypeDesc}(h:P.underlying t=some d):aK P (underlying t) d:=λw=>by
 simp[underlying,h]
theorem dD{P:Program}{t:TypeId}{d:TypeInfo}(h:P.info? t=some d):aK P (typeInfo t) d:=λw=>by
 simp[typeInfo,h]
theorem ey(h:C.Ok)(c:C.T.get t=some i):aK C.P (sizeOf t) i.size:=by obtain⟨f,b,a,_⟩:=h.info c;rw[<-a];exact(dD b).bind .pure
theorem ro(h:C.Ok)(b:C.T.get t=some i):∃z,aK C.P (zeroValue t) z/\z.cells.toList=i.zero:=by obtain⟨f,a,_,_,z,d,c⟩:=h.info b;refine⟨z,(dD a).bind ?_,c⟩;rw[d];exact .pure
theorem kZ(h:C.Ok)(j:C.T.get t=some i):(∀b,i.db=.struct b->aK C.P (isAgg t) true)/\(∀n e,i.db=.array n e->aK C.P (isAgg t) true)/\
  ((∀b,i.db≠.struct b)->(∀n e,i.db≠.array n e)->i.db≠.other->aK C.P (isAgg t) false):=by
 have a:=h.db j;refine⟨λb c=>?_,λn e c=>?_,λk f h3=>?_⟩
 ·rw[c]at a;obtain⟨l,g,_⟩:=oB a;exact(aR g).bind .pure
 ·rw[c]at a;exact(aR (rL a)).bind .pure
 ·cases hu:C.P.underlying t with
  |none=>rw[hu]at a;exact absurd a.symm h3
  |some d=>
   refine(aR hu).bind ?_;rw[hu]at a;cases d<;>first|exact .pure|(exfalso;simp only[iY]at a;first|exact k _ a.symm|exact f _ _ a.symm)
theorem BC{ev:Operand->Option Value}{e:Operand->Value}(c:∀x v,ev x=some v->e x=v):∀{l:List Operand} {vs:List Value},pz ev l=some vs->l.map e=vs:=by
 intro l
 induction l with
 |nil=>intro vs h;cases h;rfl
 |cons x r ih=>
  intro vs h;simp only[pz]at h;split at h
  ·rename_i v b;split at h
   ·rename_i us a;cases h;simp[c _ _ b,ih a]
   ·cases h
  ·cases h
theorem GC{ev:Operand->Option Value}{e:Operand->Value}(c:∀x v,ev x=some v->e x=v):∀{l:List (Nat×Operand)} {vs:List (Nat×Value)},DE ev l=some vs->l.map (λp=>(p.1,e p.2))=vs:=by
 intro l
 induction l with
 |nil=>intro vs h;cases h;rfl
 |cons x r ih=>
  intro vs h;obtain⟨n,x⟩:=x;simp only[DE]at h;split at h
  ·rename_i v b;split at h
   ·rename_i us a;cases h;simp[c _ _ b,ih a]
   ·cases h
  ·cases h
theorem Hi(t:TypeId)(x y:Value):Op.equal t x y=Op.equalIn (9999+1) t x y:=rfl
theorem adb{t:TypeId}(c:P.underlying t=some .bool)(d:Nat)(a b:Bool):aK P (Op.equalIn (d+1) t (.bool a) (.bool b)) (a==b):=λw=>by
 simp[Op.equalIn,underlying,c]
theorem aep{t e:TypeId}(b:P.underlying t=some (.pointer e))(d:Nat)(a:Option Addr):aK P (Op.equalIn (d+1) t (.pointer a) (.pointer none)) a.isNone:=λw=>by
 cases a<;>simp[Op.equalIn,underlying,b]
theorem ZY{t e:TypeId}(b:P.underlying t=some (.slice e))(d:Nat)(a:Option Addr)(l c l' f:Nat):aK P (Op.equalIn (d+1) t (.slice a l c) (.slice none l' f)) a.isNone:=λw=>by
 cases a<;>simp[Op.equalIn,underlying,b]
theorem Uv{t:TypeId}{d:Option CY}{op:BinOp}{a b:Value}{x y:Operand}{K:Value->Prop}(o:∀q,d=some q->iY (P.underlying t)=q)
  (h:(ZV P t x y d op a b).holds K):∃v,aK P (do eqGuard op t x y a b;binOp op t a b) v/\K v:=by
 have j:∀{a b:Value},¬(a=.nilIface/\b=.nilIface)->(∀u v,¬(a=.agg u/\b=.agg v))->aK P (eqGuard op t x y a b) ():=by
  intro a b i f w;simp only[eqGuard];cases op<;>simp only[Bool.not_true,Bool.not_false,zn,if_true,if_false]<;>
   first
    |rfl
    |(split<;>first|exact absurd ⟨rfl,rfl⟩ i|exact absurd ⟨rfl,rfl⟩ (f _ _)|rfl)
 unfold ZV at h;split at h
 ·rename_i k a n b;have g:=j (a:=.int k a) (b:=.int n b) (by simp) (by simp);cases op<;>simp only at h
  case shl=>exact⟨_,g.bind λw=>by simp only[binOp,Op.shift];rw[if_neg (by have:=h.1;omega)];rfl,h.2⟩
  case shr=>exact⟨_,g.bind λw=>by simp only[binOp,Op.shift];rw[if_neg (by have:=h.1;omega)];rfl,h.2⟩
  all_goals
   cases hk:AN k n with
   |false=>rw[hk]at h;simp[PV.holds]at h
   |true=>
    rw[hk]at h;simp only[cond_true,PV.holds]at h;have e:=GB hk;subst e
    first
     |exact⟨_,g.bind λw=>by simp[binOp,Op.intArith,Op.intBits,Op.intCmp],h⟩
     |exact⟨_,g.bind λw=>by simp[binOp,Op.intDiv,h.1],h.2⟩
     |exact h.elim
 ·rename_i k a n b;have g:=j (a:=.float k a) (b:=.float n b) (by simp) (by simp);cases hk:DC k n with
  |false=>rw[hk]at h;simp[PV.holds]at h
  |true=>
   rw[hk]at h;have e:=DD hk;subst e;cases op<;>simp only[cond_true,PV.holds]at h<;>
    first
     |(obtain⟨r,i,f⟩:=h;exact⟨_,g.bind λw=>by simp[binOp,Op.floatArith,i],f⟩)
     |exact⟨_,g.bind λw=>by simp[binOp,Op.floatCmp],h⟩
     |exact h.elim
 ·rename_i a b;have g:=j (a:=.string a) (b:=.string b) (by simp) (by simp);cases op<;>simp only[PV.holds]at h<;>
   first
    |exact⟨_,g.bind λw=>by simp[binOp,Op.stringOp],h⟩
    |exact⟨_,g.bind λw=>by simp only[binOp,Op.stringOp];rw[if_neg (by have:=h.1;omega)];rfl,h.2⟩
    |exact h.elim
 ·rename_i a b;have g:=j (a:=.bool a) (b:=.bool b) (by simp) (by simp);split at h
  ·have m:=ZX (o _ rfl);cases op<;>simp only[PV.holds]at h<;>
    first
     |exact⟨_,g.bind (by simp only[binOp,Hi];exact(adb m _ a b).bind .pure),h⟩
     |exact h.elim
  ·exact h.elim
 ·rename_i a b;cases hy:aca y with
  |true=>
   rw[hy]at h;obtain⟨r,i,f⟩:=h;exact⟨_,i,f⟩
  |false=>
   rw[hy]at h;cases b with
   |some _=>exact h.elim
   |none=>
    have g:=j (a:=.pointer a) (b:=.pointer none) (by simp) (by simp);simp only[cond_false]at h;split at h
    ·rename_i e;have m:=ada (o _ rfl);cases op<;>simp only[PV.holds]at h<;>
      first
       |exact⟨_,g.bind (by simp only[binOp,Hi];exact(aep m _ a).bind .pure),h⟩
       |exact h.elim
    ·exact h.elim
 ·rename_i a l c l' p;have g:=j (a:=.slice a l c) (b:=.slice none l' p) (by simp) (by simp);split at h
  ·rename_i e;have m:=jv (o _ rfl);cases op<;>simp only[PV.holds]at h<;>
    first
     |exact⟨_,g.bind (by simp only[binOp,Hi];exact(ZY m _ a l c l' p).bind .pure),h⟩
     |exact h.elim
  ·exact h.elim
 ·obtain⟨r,i,f⟩:=h;exact⟨_,i,f⟩
 ·split at h
  ·obtain⟨r,i,f⟩:=h;exact⟨_,i,f⟩
  ·obtain⟨r,i,f⟩:=h;exact⟨_,i,f⟩
  ·obtain⟨r,i,f⟩:=h;exact⟨_,i,f⟩
 ·exact h.elim
theorem Uw{t:TypeId}{d:Option CY}{op:BinOp}{a b:Value}{x y:Operand}{K:Value->Prop}(e:∀q,d=some q->iY (P.underlying t)=q)
  (h:(ZW P t x y d op a b).holds K):∃v,aK P (do eqGuard op t x y a b;binOp op t a b) v/\K v:=by
 unfold ZW at h;split at h
 ·obtain⟨r,c,f⟩:=h;exact⟨_,c,f⟩
 ·exact Uv e h
theorem Ol(a:List Value)(off n:Nat):((a.drop off).take n).toArray=(a.toArray).extract off (off+n):=by apply yG;simp[List.extract_eq_take_drop]
variable {ev:Operand->Option Value} {e:Operand->Value}
theorem tG(c:C.Ok):∀{b:List Field} {a:List (Nat×Nat)},placesOf C.T (b.map λf=>(f.offset,f.type))=some a->
  aK C.P (b.mapM λf=>(do pure (f.offset,<-sizeOf f.type):Sem (Nat×Nat))) a
 |[],a,h=>by cases h;exact .pure
 |f::r,a,h=>by
  simp only[List.map_cons,placesOf]at h;split at h
  ·rename_i j d;split at h
   ·rename_i g e;cases h;rw[List.mapM_cons];exact aK.bind ((ey c d).bind .pure) ((tG c e).bind .pure)
   ·cases h
  ·cases h
theorem GD(g:C.Ok){t:TypeId}{j:TI}(b:C.T.get t=some j)(f:∀d,j.db≠.struct d)(h:∀n e,j.db≠.array n e)(h3:j.db≠.other)
  {a:Array Value} {off:Nat} {v:Value} (c:a[off]?=some v):aK C.P (part t a off) v:=by
 refine((kZ g b).2.2 f h h3).bind ?_;rw[c];exact .pure
theorem Om(c:C.Ok){t:TypeId}{j:TI}(a:C.T.get t=some j)(h:(∃b,j.db=.struct b)∨∃n e,j.db=.array n e)
  {d:Array Value} {off:Nat}:aK C.P (part t d off) (.agg (d.extract off (off+j.size))):=by
 have f:aK C.P (isAgg t) true:=by
  rcases h with⟨b,h⟩|⟨n,e,h⟩
  ·exact(kZ c a).1 b h
  ·exact(kZ c a).2.1 n e h
 exact f.bind ((ey c a).bind .pure)
theorem Iu(I:C.Ok)(G:∀x v,ev x=some v->e x=v){o:Oper}{K:Value->Prop}(h:(AP C.P C.T o.op ev).holds K):
  ∃v,rK C.P (execOp e o) v/\K v:=by
 have M:∀t q,(C.T.get t).map (·.db)=some q->iY (C.P.underlying t)=q:=λt q h=>by
  cases F:C.T.get t with
  |none=>rw[F]at h;cases h
  |some i=>rw[F]at h;cases h;exact I.db F
 cases hop:o.op<;>rw[hop]at h<;>simp only[AP]at h<;>simp only[execOp,hop]
 case move x=>
  split at h
  ·rename_i v A;rw[G _ _ A];exact⟨v,λ_=>rfl,h⟩
  ·exact h.elim
 case assign x=>
  split at h
  ·rename_i v A;rw[G _ _ A];exact⟨v,λ_=>rfl,h⟩
  ·exact h.elim
 case pick c a b=>
  split at h
  ·rename_i t x y Q h2 h3;rw[G _ _ Q,G _ _ h2,G _ _ h3];cases t
   ·exact⟨y,λ_=>rfl,h⟩
   ·exact⟨x,λ_=>rfl,h⟩
  ·exact h.elim
 case nilCheck x=>
  split at h
  ·rename_i p hp;obtain⟨a,rfl,B⟩:=h;rw[G _ _ hp];exact⟨_,λ_=>rfl,B⟩
  ·exact h.elim
 case fieldAddr s x f=>
  split at h
  ·rename_i a ha;rw[G _ _ ha];split at h
   ·rename_i i F;split at h
    ·rename_i fs Y;split at h
     ·rename_i off t ad;split at h
      ·rename_i j R;cases hz:wM j.size 0 with
       |true=>rw[hz]at h;exact h.elim
       |false=>
        rw[hz]at h;have E:=I.db F;rw[Y]at E;obtain⟨gs,hg,rfl⟩:=oB E;simp only[qR,vf]at ad;obtain⟨g,ap,ay⟩:=ad;cases ay;refine⟨_,aK.next ((aR hg).bind ?_),h⟩;have ab:gs[f]?=some g:=by simpa using ap
        simp only[ab];refine aK.bind (v:=a) .pure (aK.bind (v:=a.add g.offset) ?_ .pure);unfold fieldPlace;refine(ey I R).bind ?_;have:j.size≠0:=λe=>by rw[e]at hz;cases hz
        rw[if_neg this];exact .pure
      ·exact h.elim
     ·exact h.elim
    ·exact h.elim
   ·exact h.elim
  ·exact h.elim
 case indexAddr t x ix=>
  split at h
  ·rename_i k n hn;rw[G _ _ hn];split at h
   ·rename_i p len cap S;rw[G _ _ S];split at h
    ·rename_i i F;split at h
     ·rename_i el D;split at h
      ·rename_i j R;obtain⟨a,⟨rfl,h0,Q⟩,B⟩:=h;have E:=I.db F;rw[D]at E;have H:=jv E;refine⟨_,aK.next ?_,B⟩;unfold Instr.indexAt;refine aK.bind (v:=(k,n)) .pure ?_;refine(aR H).bind ?_;refine aK.bind (v:=(some a,len,el)) .pure ?_;intro w;have:=ey I R w;simp only[Sem.run_bind,aR H w,Result.andThen_ok];cases hl:decide (len<=1)<;>simp[h0,Q,this]
      ·exact h.elim
     ·exact h.elim
    ·exact h.elim
   ·rename_i a S;rw[G _ _ S];split at h
    ·rename_i i F;split at h
     ·rename_i m el D;split at h
      ·rename_i j R;obtain⟨⟨h0,Q⟩,B⟩:=h;have E:=I.db F;rw[D]at E;have H:=rL E;refine⟨_,aK.next ?_,B⟩;unfold Instr.indexAt;refine aK.bind (v:=(k,n)) .pure ?_;refine(aR H).bind ?_;refine aK.bind (v:=(some a,m,el)) .pure ?_;intro w;have:=ey I R w;simp only[Sem.run_bind,aR H w,Result.andThen_ok];cases hl:decide (m<=1)<;>simp[h0,Q,this]
      ·exact h.elim
     ·exact h.elim
    ·exact h.elim
   ·exact h.elim
  ·exact h.elim
 case index t x ix=>
  split at h
  ·rename_i k n hn;rw[G _ _ hn];split at h
   ·rename_i s S;rw[G _ _ S];split at h
    ·rename_i i F;split at h
     ·rename_i D;obtain⟨b,⟨h0,Q⟩,B⟩:=h;have E:=I.db F;rw[D]at E;have H:=tj E;refine⟨_,aK.next ?_,B⟩;unfold Instr.index;refine aK.bind (v:=(k,n)) .pure ?_;refine(aR H).bind ?_;have hb:s[n.toNat]?=some b:=by rw[Array.getElem?_eq_some_iff]at Q;obtain⟨a9,hg⟩:=Q;have a5:n.toNat<s.size:=a9;rw[getElem?_pos s n.toNat a5];exact congrArg some hg
      simp only[h0,if_true,hb];exact .pure
     ·exact h.elim
    ·exact h.elim
   ·rename_i cs S;rw[G _ _ S];split at h
    ·rename_i i F;split at h
     ·rename_i m el D;split at h
      ·rename_i j R;split at h
       ·rename_i s hs;have E:=I.db F;rw[D]at E;have H:=rL E;have ah:(∃y,(0<=n/\n<(m:Int)/\cs[n.toNat]?=some (s.enc y))/\K (s.enc y))->(∀fs,j.db≠.struct fs)->(∀n e,j.db≠.array n e)->j.db≠.other->j.size=1->
          ∃v,rK C.P (do pure (.value (<-Instr.index t (.agg cs) (.int k n)))) v/\K v:=by
         rintro⟨y,⟨h0,Q,h2⟩,B⟩ d1 d2 d3 a7;refine⟨_,aK.next ?_,B⟩;unfold Instr.index;refine aK.bind (v:=(k,n)) .pure ?_;refine(aR H).bind ?_;simp only[h0,Q,and_self,if_true];refine(ey I R).bind ?_;rw[a7,Nat.mul_one];exact GD I R d1 d2 d3 h2
        split at h
        ·exact h.elim
        ·exact h.elim
        ·exact h.elim
        ·rename_i d1 d2 d3;cases hz:wM j.size 1 with
         |false=>rw[hz]at h;exact h.elim
         |true=>
          rw[hz]at h;exact ah h d1 d2 d3 (zO hz)
       ·exact h.elim
      ·exact h.elim
     ·exact h.elim
    ·exact h.elim
   ·exact h.elim
  ·exact h.elim
 case field s x f=>
  split at h
  ·rename_i cs S;rw[G _ _ S];split at h
   ·rename_i i F;split at h
    ·rename_i fs Y;split at h
     ·rename_i off t ad;split at h
      ·rename_i j R;have E:=I.db F;rw[Y]at E;obtain⟨gs,hg,rfl⟩:=oB E;simp only[qR,vf]at ad;obtain⟨g,ap,ay⟩:=ad;cases ay;have ab:gs[f]?=some g:=by simpa using ap
       have ah:∀v,aK C.P (part g.type ⟨cs⟩ g.offset) v->K v->∃v,rK C.P (do pure (.value (<-Instr.field s (.agg ⟨cs⟩) f))) v/\K v:=by intro v A B;refine⟨v,aK.next ((aR hg).bind ?_),B⟩;simp only[ab];exact aK.bind (v:=(⟨cs⟩:Array Value)) .pure A
       split at h
       ·rename_i br a4;refine ah _ (Om I R (.inl ⟨_,a4⟩)) ?_;rw[<-Ol];exact h
       ·rename_i n' e' a4;refine ah _ (Om I R (.inr ⟨_,_,a4⟩)) ?_;rw[<-Ol];exact h
       ·exact h.elim
       ·rename_i d1 d2 d3;split at h
        ·rename_i v A;exact ah v (GD I R d1 d2 d3 (by simpa using A)) h
        ·exact h.elim
      ·exact h.elim
     ·exact h.elim
    ·exact h.elim
   ·exact h.elim
  ·exact h.elim
 case slice t x W hi0 mx=>
  split at h
  ·exact h.elim
  ·split at h
   ·rename_i l r hl hr;have ar:(W=none/\l=none)∨∃y k m,W=some y/\e y=.int k m/\l=some m:=by
     cases W with
     |none=>cases hl;exact .inl ⟨rfl,rfl⟩
     |some y=>
      simp only[It]at hl;split at hl
      ·rename_i k m hm;cases hl;exact .inr ⟨y,k,m,rfl,G _ _ hm,rfl⟩
      ·cases hl
    have a0:(hi0=none/\r=none)∨∃y k m,hi0=some y/\e y=.int k m/\r=some m:=by
     cases hi0 with
     |none=>cases hr;exact .inl ⟨rfl,rfl⟩
     |some y=>
      simp only[It]at hr;split at hr
      ·rename_i k m hm;cases hr;exact .inr ⟨y,k,m,rfl,G _ _ hm,rfl⟩
      ·cases hr
    have J:∀(bb:Bool) (len cap:Nat) (W F:Option Value) (a b:Nat),(W=none->a=0)->(∀v,W=some v->∃k m,v=.int k m/\0<=m/\a=m.toNat/\m<=(b:Int))->
      (F=none->b=len)->(∀v,F=some v->∃k m,v=.int k m/\0<=m/\b=m.toNat/\m<=(cap:Int))->
      aK C.P (wH bb len cap W F none) (a,b,cap):=by
     intro bb len cap W F a b Q h2 h3 h4 w;cases F with
     |none=>
      have e1:=h3 rfl;subst e1;cases W with
      |none=>rw[Q rfl];simp[wH]
      |some v=>
       obtain⟨k,m,rfl,x1,rfl,x2⟩:=h2 v rfl;simp[wH,vU,asIntOf,x1,x2]
     |some u=>
      obtain⟨k',V,rfl,y1,rfl,y2⟩:=h4 u rfl;cases W with
      |none=>rw[Q rfl];simp[wH,vU,asIntOf,y1,y2]
      |some v=>
       obtain⟨k,m,rfl,x1,rfl,x2⟩:=h2 v rfl;have x3:¬max V 0<m:=by omega
       simp[wH,vU,asIntOf,x1,y1,y2,x3]
    split at h
    ·rename_i p len cap S;rw[G _ _ S];split at h
     ·rename_i i F;split at h
      ·rename_i el D;split at h
       ·rename_i j R;have E:=I.db F;rw[D]at E;have H:=jv E;have fin:∀(a b:Nat) (v:Value),aK C.P (wH true len cap (W.map e) (hi0.map e) none) (a,b,cap)->
          v=.slice (if cap=a then p else p.map (·.add (a*j.size))) (b-a) (cap-a)->K v->
          ∃v,rK C.P (do pure (.value (<-yx t (.slice p len cap) (W.map e) (hi0.map e) (Option.map e none)))) v/\K v:=by
         intro a b v hb A B;refine⟨v,aK.next ?_,B⟩;unfold yx;refine(aR H).bind ?_;simp only[xq,Option.map_none];refine(aR H).bind ?_;refine hb.bind ?_;subst A;exact(ey I R).bind .pure
        have am:(if cap=0 then p else p.map (·.add (0*j.size)))=p:=by
         cases p<;>simp[Addr.add]
        rcases ar with⟨rfl,rfl⟩|⟨y,k,m,rfl,hy,rfl⟩<;>rcases a0 with⟨rfl,rfl⟩|⟨y',k',V,rfl,hy',rfl⟩
        ·exact fin 0 len _ (J _ _ _ _ _ _ _ (λ_=>rfl) (by simp) (λ_=>rfl) (by simp)) (by rw[am];rfl) h
        ·obtain⟨⟨U,Z⟩,B⟩:=h;exact fin 0 V.toNat _ (J _ _ _ _ _ _ _ (λ_=>rfl) (by simp) (by simp) λv A=>by cases A;exact⟨k',V,hy',U,rfl,Z⟩) (by rw[am];rfl) B
        ·obtain⟨⟨U,Z⟩,B⟩:=h;exact fin m.toNat len _ (J _ _ _ _ _ _ _ (by simp) (λv A=>by cases A;exact⟨k,m,hy,U,rfl,Z⟩) (λ_=>rfl) (by simp)) rfl B
        ·obtain⟨⟨U,Z,a3⟩,B⟩:=h;exact fin m.toNat V.toNat _ (J _ _ _ _ _ _ _ (by simp) (λv A=>by cases A;exact⟨k,m,hy,U,rfl,by omega⟩) (by simp) λv A=>by cases A;exact⟨k',V,hy',by omega,rfl,a3⟩) rfl B
       ·exact h.elim
      ·exact h.elim
     ·exact h.elim
    ·rename_i s S;rw[G _ _ S];split at h
     ·rename_i i F;split at h
      ·rename_i D;have E:=I.db F;rw[D]at E;have H:=tj E;have fin:∀(a b:Nat) (v:Value),aK C.P (wH false s.size s.size (W.map e) (hi0.map e) none) (a,b,s.size)->
         v=.string (s.extract a b)->K v->
         ∃v,rK C.P (do pure (.value (<-yx t (.string s) (W.map e) (hi0.map e) (Option.map e none)))) v/\K v:=by
        intro a b v hb A B;refine⟨v,aK.next ?_,B⟩;unfold yx;refine(aR H).bind ?_;simp only[xq,Option.map_none];refine(aR H).bind ?_;subst A;intro w;simp[hb w]
       rcases ar with⟨rfl,rfl⟩|⟨y,k,m,rfl,hy,rfl⟩<;>rcases a0 with⟨rfl,rfl⟩|⟨y',k',V,rfl,hy',rfl⟩
       ·exact fin 0 s.size _ (J _ _ _ _ _ _ _ (λ_=>rfl) (by simp) (λ_=>rfl) (by simp)) rfl h
       ·obtain⟨⟨U,Z⟩,B⟩:=h;exact fin 0 V.toNat _ (J _ _ _ _ _ _ _ (λ_=>rfl) (by simp) (by simp) λv A=>by cases A;exact⟨k',V,hy',U,rfl,Z⟩) rfl B
       ·obtain⟨⟨U,Z⟩,B⟩:=h;exact fin m.toNat s.size _ (J _ _ _ _ _ _ _ (by simp) (λv A=>by cases A;exact⟨k,m,hy,U,rfl,Z⟩) (λ_=>rfl) (by simp)) rfl B
       ·obtain⟨⟨U,Z,a3⟩,B⟩:=h;exact fin m.toNat V.toNat _ (J _ _ _ _ _ _ _ (by simp) (λv A=>by cases A;exact⟨k,m,hy,U,rfl,by omega⟩) (by simp) λv A=>by cases A;exact⟨k',V,hy',by omega,rfl,a3⟩) rfl B
      ·exact h.elim
     ·exact h.elim
    ·rename_i a S;rw[G _ _ S];split at h
     ·rename_i i F;split at h
      ·rename_i n el D;split at h
       ·rename_i j R;have E:=I.db F;rw[D]at E;have H:=rL E;have fin:∀(a' b:Nat) (v:Value),aK C.P (wH false n n (W.map e) (hi0.map e) none) (a',b,n)->
          v=.slice (some (if n=a' then a else a.add (a'*j.size))) (b-a') (n-a')->K v->
          ∃v,rK C.P (do pure (.value (<-yx t (.pointer (some a)) (W.map e) (hi0.map e) (Option.map e none)))) v/\K v:=by
         intro a' b v hb A B;refine⟨v,aK.next ?_,B⟩;unfold yx;refine(aR H).bind ?_;simp only[Option.map_none];refine aK.bind (v:=a) .pure ?_;refine hb.bind ?_;subst A;exact(ey I R).bind .pure
        have am:(if n=0 then a else a.add (0*j.size))=a:=by simp[Addr.add]
        rcases ar with⟨rfl,rfl⟩|⟨y,k,m,rfl,hy,rfl⟩<;>rcases a0 with⟨rfl,rfl⟩|⟨y',k',V,rfl,hy',rfl⟩
        ·exact fin 0 n _ (J _ _ _ _ _ _ _ (λ_=>rfl) (by simp) (λ_=>rfl) (by simp)) (by rw[am];rfl) h
        ·obtain⟨⟨U,Z⟩,B⟩:=h;exact fin 0 V.toNat _ (J _ _ _ _ _ _ _ (λ_=>rfl) (by simp) (by simp) λv A=>by cases A;exact⟨k',V,hy',U,rfl,Z⟩) (by rw[am];rfl) B
        ·obtain⟨⟨U,Z⟩,B⟩:=h;exact fin m.toNat n _ (J _ _ _ _ _ _ _ (by simp) (λv A=>by cases A;exact⟨k,m,hy,U,rfl,Z⟩) (λ_=>rfl) (by simp)) rfl B
        ·obtain⟨⟨U,Z,a3⟩,B⟩:=h;exact fin m.toNat V.toNat _ (J _ _ _ _ _ _ _ (by simp) (λv A=>by cases A;exact⟨k,m,hy,U,rfl,by omega⟩) (by simp) λv A=>by cases A;exact⟨k',V,hy',by omega,rfl,a3⟩) rfl B
       ·exact h.elim
      ·exact h.elim
     ·exact h.elim
    ·exact h.elim
   ·exact h.elim
 case extract x n=>
  split at h
  ·rename_i vs S;rw[G _ _ S];split at h
   ·rename_i v A;refine⟨v,aK.next ?_,h⟩;have:(⟨vs⟩:Array Value)[n]?=some v:=by simpa using A
    simp only[Instr.extract,this];exact .pure
   ·exact h.elim
  ·exact h.elim
 case binOp op t x y u=>
  split at h
  ·rename_i a b ha hb;rw[G _ _ ha,G _ _ hb];obtain⟨v,A,B⟩:=Uw (P:=C.P) (x:=x) (y:=y) (M t) h;exact⟨v,A.next,B⟩
  ·exact h.elim
 case unOp op t x=>
  split at h
  ·rename_i v A;rw[G _ _ A];unfold unV at h;split at h
   ·split at h
    ·exact⟨_,aK.next .pure,h⟩
    ·exact h.elim
   ·split at h
    ·exact⟨_,aK.next .pure,h⟩
    ·exact⟨_,aK.next .pure,h⟩
    ·exact h.elim
   ·exact h.elim
  ·exact h.elim
 case convert s d x=>
  split at h
  ·rename_i v ks A bq;rw[G _ _ A];have hs:=FI (M _ _ bq);unfold acb at h;split at h
   ·split at h
    ·rename_i n _ k B;have H:=FI (M _ _ B);refine⟨_,aK.next ?_,h⟩;unfold convert;refine(aR hs).bind ((aR H).bind ?_);exact .pure
    ·exact h.elim
   ·exact h.elim
  ·exact h.elim
 case build t parts=>
  split at h
  ·rename_i vs a6;have hp:(parts.map λ(i,x)=>(i,e x)).toList=vs:=by have:=GC G a6;simpa using this
   split at h
   ·rename_i i F;obtain⟨z,hz,bl⟩:=ro I F;have ao:i.zero.toArray=z.cells:=by rw[<-bl]
    cases hbig:vX 24 i.size with
    |true=>
     rw[hbig]at h;obtain⟨v,A,B⟩:=h;have a8:(parts.map λ(i,x)=>(i,e x))=vs.toArray:=by rw[<-hp]
     refine⟨v,aK.next ?_,B⟩;show aK C.P (vY t (parts.map λ(i,x)=>(i,e x))) v;rw[a8];exact A
    |false=>
    rw[hbig]at h;simp only[cond_false]at h;split at h
    ·rename_i fs Y;have E:=I.db F;rw[Y]at E;obtain⟨gs,hg,rfl⟩:=oB E;split at h
     ·rename_i ps bk;split at h
      ·rename_i cells O;refine⟨_,aK.next (hz.bind ((aR hg).bind ?_)),h⟩;have bd:aK C.P (gs.mapM λf=>(do pure (f.offset,<-sizeOf f.type):Sem (Nat×Nat))) ps.toArray:=by rw[vw];intro w;have:=tG I bk w;rw[map_eq_pure_bind,Sem.run_bind,this];rfl
       refine bd.bind ?_;have ax:wF (λn=>ps.toArray[n]?) z.cells (parts.map λ(i,x)=>(i,e x)).toList=some cells:=by rw[hp,<-ao];simpa using O
       rw[ax];exact .pure
      ·exact h.elim
     ·exact h.elim
    ·rename_i n el Y;have E:=I.db F;rw[Y]at E;have H:=rL E;split at h
     ·rename_i j R;split at h
      ·rename_i cells O;refine⟨_,aK.next (hz.bind ((aR H).bind ((ey I R).bind ?_))),h⟩;have ax:wF (λi=>some (i*j.size,j.size)) z.cells (parts.map λ(i,x)=>(i,e x)).toList=some cells:=by rw[hp,<-ao];exact O
       rw[ax];exact .pure
      ·exact h.elim
     ·exact h.elim
    ·exact h.elim
   ·exact h.elim
  ·exact h.elim
 case makeFunc fn first captured=>
  split at h
  ·rename_i a b ha hb;have Q:first.map e=a.toArray:=by apply yG;simpa using BC G ha
   have h2:captured.map e=b.toArray:=by apply yG;simpa using BC G hb
   refine⟨_,aK.next ?_,h⟩;rw[Q,h2];exact .pure
  ·exact h.elim
 case call c=>
  split at h
  ·rename_i b hb;have L:∀{v:Value},aK C.P (builtin b c.argTypes o.type (c.args.map λ| .const _=>true|_=>false) (c.args.map e)) (.value v)->
     rK C.P (do let d<-resolve e c o.type;invoke d.target d.args) v:=by
    intro v A w;have:=A w;unfold resolve;rw[hb];exact this
   have N:∀{vs:List Value},pz ev c.args.toList=some vs->c.args.map e=vs.toArray:=λA=>by
    apply yG;simpa using BC G A
   have X:∀{s:Sem Value} {v:Value},aK C.P s v->aK C.P (do pure (Next.value (<-s))) (.value v):=λhs=>hs.bind .pure;split at h
   case h_1=>
    split at h
    ·rename_i t ts x Q h2;split at h
     ·rename_i v A;have ha:c.args.map e=#[v]:=by apply yG;rw[vV,h2];simp[G _ _ A]
      have ht:c.argTypes[0]?=some t:=by rw[<-Array.getElem?_toList,Q];rfl
      unfold aen at h;split at h
      ·rename_i p n cap;split at h
       ·rename_i el D;have H:=jv (M _ _ D);refine⟨_,L ?_,h⟩;rw[ha];refine X ?_;intro w;simp[Builtin.len_,ht,underlying,H,goInt]
       ·exact h.elim
      ·rename_i s;split at h
       ·rename_i D;have H:=tj (M _ _ D);refine⟨_,L ?_,h⟩;rw[ha];refine X ?_;intro w;simp[Builtin.len_,ht,underlying,H,goInt]
       ·exact h.elim
      ·exact h.elim
     ·exact h.elim
    ·exact h.elim
   case h_2=>
    split at h
    ·rename_i t ts x Q h2;split at h
     ·rename_i v A;have ha:c.args.map e=#[v]:=by apply yG;rw[vV,h2];simp[G _ _ A]
      have ht:c.argTypes[0]?=some t:=by rw[<-Array.getElem?_toList,Q];rfl
      unfold aeo at h;split at h
      ·rename_i p n cap;split at h
       ·rename_i el D;have H:=jv (M _ _ D);refine⟨_,L ?_,h⟩;rw[ha];refine X ?_;intro w;simp[Builtin.cap_,ht,underlying,H,goInt]
       ·exact h.elim
      ·exact h.elim
     ·exact h.elim
    ·exact h.elim
   case h_3=>
    split at h
    ·rename_i k a k' b A;refine⟨_,L ?_,h⟩;rw[N A];refine X ?_;intro w;simp[Builtin.min_,Builtin.min2]
    ·exact h.elim
   case h_4=>
    split at h
    ·rename_i k a k' b A;refine⟨_,L ?_,h⟩;rw[N A];refine X ?_;intro w;simp[Builtin.max_,Builtin.max2]
    ·exact h.elim
   case h_5=>
    split at h
    ·rename_i k a b A;refine⟨_,L ?_,h⟩;rw[N A];exact X .pure
    ·exact h.elim
   case h_6=>
    split at h
    ·rename_i k a b A;refine⟨_,L ?_,h⟩;rw[N A];exact X .pure
    ·exact h.elim
   all_goals exact h.elim
  ·exact h.elim
 all_goals exact h.elim
def aj(h:Heap)(a:Addr):Nat->List Value->Prop
 |_,[]=>True
 |n,v::r=>cellOf h (a.add n)=some v/\aj h a (n+1) r
structure vP where
 a:Addr
 ty:Ty
 n:Nat
def vP.holds(r:vP)(h:Heap)(y:r.ty.den):Prop:=
 match r.ty,y with
 | .sc s,y=>cellOf h r.a=some (s.enc y)
 | .agg l,y=>aj h r.a 0 (Ae l y)
 | .arr s,y=>y.length=r.n/\aj h r.a 0 (y.map s.enc)
def tH(T:km)(op:Op)(ev:Operand->Option Value):Option vP:=
 match op with
 | .load t x=>match ev x with
  |some (.pointer (some a))=>match T.get t with
   |some i=>match i.db with
    | .struct _=>match i.ty with
     | .agg l=>bif wM l.length i.size then some ⟨a,i.ty,i.size⟩else none
     |_=>none
    | .array _ _=>match i.ty with
     | .arr _=>some ⟨a,i.ty,i.size⟩
     |_=>none
    | .other=>none
    |_=>match i.ty with
     | .sc _=>some ⟨a,i.ty,1⟩
     |_=>none
   |none=>none
  |_=>none
 |_=>none
theorem GF:∀(l:List Sc) (x:Ky l),(Ae l x).length=l.length
 |[],_=>rfl
 |[_],_=>rfl
 |_::t::r,x=>by simp only[Ae,zh];rw[GF (t::r) x.2];rfl
theorem run_loadCells{P:Program}{w:World}{a:Addr}:∀(vs:List Value) (i:Nat) (b:Array Value),aj w.heap a i vs->
  (loadCellsFrom a i vs.length b).run P w=.ok (b++vs.toArray) w
 |[],i,b,_=>by simp[loadCellsFrom]
 |v::r,i,b,h=>by
  simp only[zh,loadCellsFrom,Sem.run_bind,run_load,Kw,h.1,Result.andThen_ok];rw[run_loadCells r (i+1) (b.push v) h.2];simp
theorem BD{C:AO}(j:C.Ok){ev:Operand->Option Value}{e:Operand->Value}(A:∀x v,ev x=some v->e x=v){o:Oper}{r:vP}
  (b:tH C.T o.op ev=some r) {y:r.ty.den} {w:World} (d:r.holds w.heap y):(execOp e o).run C.P w=.ok (.value (r.ty.enc y)) w:=by
 unfold tH at b;split at b
 ·rename_i t x u;simp only[execOp,u];split at b
  ·rename_i a z;rw[A _ _ z];split at b
   ·rename_i i m;have g:(∀v,(loadVar t a).run C.P w=.ok v w->(do let s<-xf t (.pointer (some a));pure (Next.value s):Sem Next).run C.P w=.ok (.value v) w):=by intro v B;have:xf t (.pointer (some a))=loadVar t a:=rfl;rw[this,Sem.run_bind,B];rfl
    split at b
    ·rename_i F f;split at b
     ·rename_i l h;cases hb:wM l.length i.size with
      |false=>rw[hb]at b;cases b
      |true=>
       rw[hb]at b;simp only[cond_true,zP.injEq]at b;subst b;have k:=zO hb;have c:∀(ty:Ty) (y:ty.den),ty=.agg l->vP.holds ⟨a,ty,i.size⟩ w.heap y->(loadVar t a).run C.P w=.ok (ty.enc y) w:=by rintro ty y rfl d;unfold loadVar;rw[Sem.run_bind,(kZ j m).1 F f w];simp only[Result.andThen_ok,if_true,Sem.run_bind,ey j m w];have p:=run_loadCells (P:=C.P) (w:=w) (a:=a) (Ae l y) 0 #[] d;rw[GF,k]at p;unfold loadCells;rw[p];simp
       exact g _ (c i.ty y h d)
     ·cases b
    ·rename_i n E f;split at b
     ·rename_i s h;cases b;have c:∀(ty:Ty) (y:ty.den),ty=.arr s->vP.holds ⟨a,ty,i.size⟩ w.heap y->(loadVar t a).run C.P w=.ok (ty.enc y) w:=by rintro ty y rfl ⟨h,d⟩;unfold loadVar;rw[Sem.run_bind,(kZ j m).2.1 n E f w];simp only[Result.andThen_ok,if_true,Sem.run_bind,ey j m w];have p:=run_loadCells (P:=C.P) (w:=w) (a:=a) (y.map s.enc) 0 #[] d;rw[List.length_map,h]at p;unfold loadCells;rw[p];simp
      exact g _ (c i.ty y h d)
     ·cases b
    ·cases b
    ·rename_i G D H;split at b
     ·rename_i s h;cases b;have c:∀(ty:Ty) (y:ty.den),ty=.sc s->vP.holds ⟨a,ty,1⟩ w.heap y->(loadVar t a).run C.P w=.ok (ty.enc y) w:=by rintro ty y rfl d;have q:cellOf w.heap a=some (s.enc y):=d;unfold loadVar;rw[Sem.run_bind,(kZ j m).2.2 G D H w];simp[Kw,q]
      exact g _ (c i.ty y h d)
     ·cases b
   ·cases b
  ·cases b
 ·cases b
def Typed(t:Ty)(K:Value->Heap->Prop)(v:Value)(h:Heap):Prop:=∃x:t.den,v=t.enc x/\K (t.enc x) h
def Iv(t:Rt)(K:Value->Heap->Prop)(v:Value)(h:Heap):Prop:=∃x:t.den,v=t.enc x/\K (t.enc x) h
def Iw(K:Value->Heap->Prop)(v:Value)(h:Heap):Prop:=∃a:Addr,v=.pointer (some a)/\K (.pointer (some a)) h
def aeq(T:km)(t:TypeId)(tup:List (TypeId×List Ty)):Option Rt:=
 match tup.find? (λp=>wM p.1 t)with
 |some p=>some (.many p.2)
 |none=>match T.get t with
  |some i=>some (.one i.ty)
  |none=>none
structure Ctx extends AO where
 tup:List (TypeId×List Ty)
 fns:List Bool
structure Ctx.Ok (C:Ctx):Prop extends AO.Ok C.toAO where
 fns:(C.P.funcs.toList.map λf=>!(f.name== "runtime.NumGoroutine")&&f.body.isSome)=C.fns
def Ux(C:Ctx)(g:FuncId)(args:List Value)(t:TypeId)(K:Value->Heap->Prop)(h:Heap):Prop:=
 match C.fns[g]? with
 |some true=>match aeq C.T t C.tup with
  |some r=>aq C.P g args.toArray h (Iv r K)
  |none=>False
 |_=>False
def Ix(C:Ctx)(o:Oper)(ev:Operand->Option Value)(K:Value->Heap->Prop)(h:Heap):Prop:=
 match o.op with
 | .store t a x=>match ev a,ev x with
  |some p,some v=>az C.P (Instr.storeAt t p v) h λ_ h'=>K undef h'
  |_,_=>False
 | .alloc t=>az C.P (Instr.alloc t true (.tuple #[])) h (Iw K)
 | .box t x=>match ev x with
  |some v=>az C.P (Instr.box t v) h (Iw K)
  |none=>False
 | .makeSlice t l c=>match ev l,ev c with
  |some l,some c=>az C.P (Instr.makeSlice t l c) h (Typed (.sc .slc) K)
  |_,_=>False
 | .buildSlice t n parts=>match DE ev parts.toList with
  |some ps=>az C.P (Instr.buildSlice t n ps.toArray) h (Typed (.sc .slc) K)
  |none=>False
 | .makeMap t none=>az C.P (Instr.makeMap t none) h (Typed (.sc .mp) K)
 | .lookup t x ix ok=>match ev x,ev ix,aeq C.T o.type C.tup with
  |some m,some k,some r=>az C.P (Instr.lookup t m k ok) h (Iv r K)
  |_,_,_=>False
 | .mapUpdate t m k x=>match ev m,ev k,ev x with
  |some m,some k,some v=>az C.P (Instr.mapUpdate t m k v) h λ_ h'=>K undef h'
  |_,_,_=>False
 | .insert t m k x=>match ev m,ev k,ev x with
  |some m,some k,some v=>az C.P (Instr.mapUpdate t m k v) h λ_ h'=>K undef h'
  |_,_,_=>False
 | .convert s d x=>match ev x,C.T.get o.type with
  |some v,some i=>az C.P (convert s d v) h (Typed i.ty K)
  |_,_=>False
 | .binOp op t x y _=>match ev x,ev y,C.T.get o.type with
  |some a,some b,some i=>az C.P (do eqGuard op t x y a b;binOp op t a b) h (Typed i.ty K)
  |some a,some b,none=>az C.P (do eqGuard op t x y a b;binOp op t a b) h (Typed (.sc .bool) K)
  |_,_,_=>False
 | .slice t x lo hi mx=>match optVal ev lo,optVal ev hi,optVal ev mx,ev x with
  |some l,some r,some m,some v=>az C.P (yx t v l r m) h (Typed (.sc .slc) K)
  |_,_,_,_=>False
 | .call c=>match c.callee with
  | .builtin .append=>match pz ev c.args.toList with
   |some vs=>az C.P (Builtin.append_ c.argTypes o.type vs.toArray) h (Typed (.sc .slc) K)
   |none=>False
  | .builtin .copy=>match pz ev c.args.toList with
   |some vs=>az C.P (Builtin.copy_ c.argTypes o.type vs.toArray) h (Typed (.sc (.int .i64)) K)
   |none=>False
  | .builtin .clear=>match pz ev c.args.toList with
   |some vs=>az C.P (Builtin.clear_ c.argTypes o.type vs.toArray) h K
   |none=>False
  | .builtin .len=>match pz ev c.args.toList with
   |some vs=>az C.P (Builtin.len_ c.argTypes o.type vs.toArray) h (Typed (.sc (.int .i64)) K)
   |none=>False
  | .builtin .unsafeString=>match pz ev c.args.toList with
   |some vs=>az C.P (Builtin.unsafeString_ c.argTypes o.type vs.toArray) h (Typed (.sc .str) K)
   |none=>False
  | .builtin .delete=>match pz ev c.args.toList with
   |some vs=>az C.P (Builtin.delete_ c.argTypes o.type vs.toArray) h K
   |none=>False
  | .value f=>match ev f,pz ev c.args.toList with
   |some (.func (.func g) ⟨first⟩ ⟨caps⟩),some vs=>Ux C g (first++vs++caps) o.type K h
   |_,_=>False
  |_=>False
 |_=>False
where
 optVal (ev:Operand->Option Value):Option Operand->Option (Option Value)
  |none=>some none
  |some x=>match ev x with
   |some v=>some (some v)
   |none=>none
variable {K:Value->Heap->Prop}
theorem gn{s:Sem Value}(a:az P s h K):AM P (do pure (.value (<-s))) h K:=
 az.bind (a.mono λ_ _ b=>az.pure' b)
theorem Hj{s:Sem Unit}(a:az P s h λ_ h'=>K undef h'):AM P (do s;pure .skip) h K:=
 az.bind (a.mono λ_ _ b=>az.pure' b)
theorem Typed.out{t:Ty}{v:Value}{h:Heap}(x:Typed t K v h):K v h:=by obtain⟨y,rfl,a⟩:=x;exact a
theorem Iv.out{t:Rt}{v:Value}{h:Heap}(x:Iv t K v h):K v h:=by obtain⟨y,rfl,a⟩:=x;exact a
theorem Iw.out{v:Value}{h:Heap}(x:Iw K v h):K v h:=by obtain⟨y,rfl,a⟩:=x;exact a
theorem RH{C:Ctx}(f:C.Ok){g:FuncId}{args:List Value}{t:TypeId}{K:Value->Heap->Prop}{h:Heap}(b:Ux C g args t K h):
  AM C.P (callFunc g args.toArray) h K:=by
 unfold Ux at b;split at b
 ·rename_i e;split at b
  ·rename_i r i;have a:=congrArg (·[g]?) f.fns;simp only[qR,e]at a;cases hf:C.P.funcs.toList[g]? with
   |none=>rw[hf]at a;cases a
   |some fn=>
    rw[hf]at a;simp only[q9,zP.injEq,qC,Bool.not_eq_true']at a;have c:C.P.funcs[g]?=some fn:=by simpa using hf
    have d:fn.body.isNone=false:=by cases hbb:fn.body<;>simp[hbb]at a⊢
    unfold callFunc;refine az.bind (az.ZS ?_);simp only[c,a.1,d];exact az.pure' (b.mono λv h' x=>x.out)
  ·exact b.elim
 ·exact b.elim
theorem Uy{C:Ctx}(U:C.Ok){ev:Operand->Option Value}{e:Operand->Value}(A:∀x v,ev x=some v->e x=v){o:Oper}
  {K:Value->Heap->Prop} {h:Heap} (j:Ix C o ev K h):AM C.P (execOp e o) h K:=by
 have H:∀{x:Option Operand} {r:Option Value},Ix.optVal ev x=some r->x.map e=r:=by
  intro x r J;cases x with
  |none=>cases J;rfl
  |some y=>
   simp only[Ix.optVal]at J;split at J
   ·rename_i v B;cases J;rw[q9,A _ _ B]
   ·cases J
 unfold Ix at j;split at j
 ·rename_i t a x q;simp only[execOp,q];split at j
  ·rename_i p v V B;rw[A _ _ V,A _ _ B];exact Hj j
  ·exact j.elim
 ·rename_i t q;simp only[execOp,q];exact gn (j.mono λ_ _ x=>x.out)
 ·rename_i t x q;simp only[execOp,q];split at j
  ·rename_i v B;rw[A _ _ B];exact gn (j.mono λ_ _ x=>x.out)
  ·exact j.elim
 ·rename_i t l c q;simp only[execOp,q];split at j
  ·rename_i v u B S;rw[A _ _ B,A _ _ S];exact gn (j.mono λ_ _ x=>x.out)
  ·exact j.elim
 ·rename_i t n parts q;simp only[execOp,q];split at j
  ·rename_i Z Q;have:(parts.map λ(i,x)=>(i,e x))=Z.toArray:=by apply yG;have:=GC A Q;simpa using this
   rw[this];exact gn (j.mono λ_ _ x=>x.out)
  ·exact j.elim
 ·rename_i t q;simp only[execOp,q];exact gn (j.mono λ_ _ x=>x.out)
 ·rename_i t x ix ok q;simp only[execOp,q];split at j
  ·rename_i m k r G E R;rw[A _ _ G,A _ _ E];exact gn (j.mono λ_ _ x=>x.out)
  ·exact j.elim
 ·rename_i t m k x q;simp only[execOp,q];split at j
  ·rename_i X T v G E B;rw[A _ _ G,A _ _ E,A _ _ B];exact Hj j
  ·exact j.elim
 ·rename_i t m k x q;simp only[execOp,q];split at j
  ·rename_i X T v G E B;rw[A _ _ G,A _ _ E,A _ _ B];exact Hj j
  ·exact j.elim
 ·rename_i s d x q;simp only[execOp,q];split at j
  ·rename_i v i B O;rw[A _ _ B];exact gn (j.mono λ_ _ x=>x.out)
  ·exact j.elim
 ·rename_i op t x y u q;simp only[execOp,q];split at j
  ·rename_i a b i L M O;rw[A _ _ L,A _ _ M];exact gn (j.mono λ_ _ x=>x.out)
  ·rename_i a b L M O;rw[A _ _ L,A _ _ M];exact gn (j.mono λ_ _ x=>x.out)
  ·exact j.elim
 ·rename_i t x lo O mx q;simp only[execOp,q];split at j
  ·rename_i l r m v Y R G B;rw[H Y,H R,H G,A _ _ B];exact gn (j.mono λ_ _ x=>x.out)
  ·exact j.elim
 ·rename_i c q;simp only[execOp,q];have w:∀{vs:List Value},pz ev c.args.toList=some vs->c.args.map e=vs.toArray:=λB=>by
   apply yG;simpa using BC A B
  split at j
  ·rename_i D;split at j
   ·rename_i vs z;unfold resolve;rw[D,w z];exact gn (j.mono λ_ _ x=>x.out)
   ·exact j.elim
  ·rename_i D;split at j
   ·rename_i vs z;unfold resolve;rw[D,w z];exact gn (j.mono λ_ _ x=>x.out)
   ·exact j.elim
  ·rename_i D;split at j
   ·rename_i vs z;unfold resolve;rw[D,w z];exact gn j
   ·exact j.elim
  ·rename_i D;split at j
   ·rename_i vs z;unfold resolve;rw[D,w z];exact gn (j.mono λ_ _ x=>x.out)
   ·exact j.elim
  ·rename_i D;split at j
   ·rename_i vs z;unfold resolve;rw[D,w z];exact gn (j.mono λ_ _ x=>x.out)
   ·exact j.elim
  ·rename_i D;split at j
   ·rename_i vs z;unfold resolve;rw[D,w z];exact gn j
   ·exact j.elim
  ·rename_i f D;split at j
   ·rename_i g first F vs W z
    unfold resolve;rw[D,w z];simp only[A _ _ W];have:=RH U j;have I:(⟨first⟩:Array Value)++vs.toArray++(⟨F⟩:Array Value)=(first++vs++F).toArray:=by simp
    have N:AM C.P (callFunc g ((⟨first⟩:Array Value)++vs.toArray++(⟨F⟩:Array Value))) h K:=by rw[I];exact this
    simp only[Deferred.ofValue];exact N
   ·exact j.elim
  ·exact j.elim
 ·exact j.elim
def put(n:Nat)(a:Option Tmp)(K:Env->Heap->Prop)(ρ:Env)(v:Value)(h:Heap):Prop:=
 match a with
 |some d=>bif vX d n then K (.val d v::ρ) h else False
 |none=>K ρ h
theorem tI{n:Nat}{b:Option Tmp}{K:Env->Heap->Prop}{ρ:Env}{v:Value}{h:Heap}(c:put n b K ρ v h){a:Act}(e:Fits n a ρ):
  ∃ρ',Fits n (a.put b v) ρ'/\Ext ρ ρ' a (a.put b v)/\K ρ' h:=by
 unfold put at c;cases b with
 |none=>exact⟨ρ,e,Ext.refl _ _,c⟩
 |some d=>
  simp only at c;cases hb:vX d n with
  |false=>rw[hb]at c;exact c.elim
  |true=>rw[hb]at c;exact⟨_,e.put hb v,Ext.put v v,c⟩
def ZZ(C:Ctx)(n:Nat)(o:Oper)(K:Env->Heap->Prop)(ρ:Env)(h:Heap):Prop:=
 match AP C.P C.T o.op ρ.eval with
 | .no=>match tH C.T o.op ρ.eval with
  |some r=>∃y:r.ty.den,r.holds h y/\put n o.dst K ρ (r.ty.enc y) h
  |none=>Ix C o ρ.eval (put n o.dst K ρ) h
 |p=>p.holds λv=>put n o.dst K ρ v h
def Iy(ops:Array Oper)(o:Oper)(ρ:Env)(a skip:Env->Prop):Prop:=
 match o.guard with
 |none=>a ρ
 |some (j,want)=>match(ops[j]?).bind (·.dst)with
  |some d=>match ρ.get d with
   |some (.bool b)=>Br b (bif want then a (.val d (.bool true)::ρ)else skip (.val d (.bool true)::ρ)) (bif want then skip (.val d (.bool false)::ρ)else a (.val d (.bool false)::ρ))
   |some (.tuple _)=>skip ρ
   |_=>False
  |none=>False
theorem Fits.known{n:Nat}{a:Act}{ρ:Env}(c:Fits n a ρ){d:Nat}{v:Value}(e:ρ.get d=some v):Fits n a (.val d v::ρ)/\Ext ρ (.val d v::ρ) a a:=by
 refine⟨⟨c.size,c.defers,λt x b=>?_⟩,⟨[.val d v],rfl,λ_ _=>rfl⟩⟩;simp only[Env.get]at b;cases hb:wM d t with
 |false=>rw[hb]at b;exact c.get t x b
 |true=>
  rw[hb]at b;have:=zO hb;subst this;rw[cond_true]at b;exact c.get _ x (e.trans b)
theorem GG{ops:Array Oper}{o:Oper}{ρ:Env}{e skip:Env->Prop}{n:Nat}{a:Act}(g:Fits n a ρ)(c:Iy ops o ρ e skip):
  ∃ρ',Fits n a ρ'/\Ext ρ ρ' a a/\((Region.wanted o (yielded ops a.tmps)=true/\e ρ')∨(Region.wanted o (yielded ops a.tmps)=false/\skip ρ')):=by
 unfold Iy at c;unfold Region.wanted;split at c
 ·rename_i m;rw[m];exact⟨ρ,g,Ext.refl _ _,.inl ⟨rfl,c⟩⟩
 ·rename_i j f m;rw[m];split at c
  ·rename_i d p;split at c
   ·rename_i b h;have l:yielded ops a.tmps j=some b:=by unfold yielded;rw[p];simp[g.get _ _ h]
    simp only[l];obtain⟨k,i⟩:=g.known h;cases b<;>cases f<;>simp only[Br,cond_true,cond_false]at c
    ·exact⟨_,k,i,.inl ⟨rfl,c⟩⟩
    ·exact⟨_,k,i,.inr ⟨rfl,c⟩⟩
    ·exact⟨_,k,i,.inr ⟨rfl,c⟩⟩
    ·exact⟨_,k,i,.inl ⟨rfl,c⟩⟩
   ·rename_i vs h;have l:yielded ops a.tmps j=none:=by unfold yielded;rw[p];simp[g.get _ _ h]
    simp only[l];exact⟨ρ,g,Ext.refl _ _,.inr ⟨by simp,c⟩⟩
   ·exact c.elim
  ·exact c.elim
theorem WQ{C:Ctx}(i:C.Ok){n:Nat}{o:Oper}{K:Env->Heap->Prop}{ρ:Env}{a:Act}{w:World}(j:Fits n a ρ)(d:ZZ C n o K ρ w.heap)
  {Q:Exit->Act->World->Prop} {next:Act->World->Prop}
  (s:∀a' w' ρ',Fits n a' ρ'->Ext ρ ρ' a a'->dG w w'->K ρ' w'.heap->next a' w'):o.wp C.P a w next Q:=by
 have f:∀x v,ρ.eval x=some v->a.eval x=v:=λx v h=>j.eval h;have b:∀v w',dG w w'->put n o.dst K ρ v w'.heap->next (a.put o.dst v) w':=λv w' q p=>by
  obtain⟨ρ',t,m,h3⟩:=tI p j;exact s _ _ _ t m q h3
 have c:(AP C.P C.T o.op ρ.eval).holds (λv=>put n o.dst K ρ v w.heap)->o.wp C.P a w next Q:=λh=>by
  obtain⟨v,l,g⟩:=Iu i.toOk f h;unfold Oper.wp;rw[l w];exact b v w (dG.refl w) g
 unfold ZZ at d;split at d
 ·split at d
  ·rename_i r e;obtain⟨y,k,g⟩:=d;unfold Oper.wp;rw[BD i.toOk f e k];exact b _ w (dG.refl w) g
  ·exact afQ (Uy i f d) b
 ·exact c d
def FJ(C:Ctx)(n:Nat)(ops:Array Oper)(o:Oper)(K:Env->Heap->Prop)(ρ:Env)(h:Heap):Prop:=
 Iy ops o ρ (λρ=>ZZ C n o K ρ h) (λρ=>put n o.dst K ρ undef h)
theorem Iz{C:Ctx}(h:C.Ok){n:Nat}{ops:Array Oper}{o:Oper}{i:Nat}(q:ops[i]?=some o){K:Env->Heap->Prop}{ρ:Env}{a:Act}{w:World}
  (k:Fits n a ρ) (j:FJ C n ops o K ρ w.heap) {Q:Exit->Act->World->Prop} {next:Act->World->Prop}
  (d:∀a' w' ρ',Fits n a' ρ'->Ext ρ ρ' a a'->dG w w'->K ρ' w'.heap->next a' w'):wpOp C.P ops Q i next a w:=by
 obtain⟨ρ',e,c,h3⟩:=GG k j;unfold wpOp;simp only[q];rcases h3 with⟨hw,hr⟩|⟨hw,hr⟩
 ·simp only[hw,if_true];exact .inl (WQ h e hr λa' w' b l x2 x3 m=>d _ _ _ l (c.trans x2) x3 m)
 ·simp only[hw,zn,if_false];obtain⟨b,p,g,f⟩:=tI hr e;exact d _ _ _ p (c.trans g) (dG.refl w) f
def aaa(C:Ctx)(n:Nat)(ops:Array Oper)(K:Env->Heap->Prop):List Oper->Env->Heap->Prop
 |[],ρ,h=>K ρ h
 |o::r,ρ,h=>FJ C n ops o (aaa C n ops K r) ρ h
def Out(n:Nat)(Q:Exit->Env->Heap->Prop)(ρ:Env)(a:Act)(w:World):Exit->Act->World->Prop:=λe a' w'=>
 ∃ρ',Fits n a' ρ'/\Ext ρ ρ' a a'/\dG w w'/\Q e ρ' w'.heap
theorem LM{C:Ctx}(b:C.Ok){n:Nat}{ops:Array Oper}{K:Env->Heap->Prop}{Q:Exit->Act->World->Prop}{ρ0:Env}{a0:Act}{w0:World}
  (c:∀a w ρ,Fits n a ρ->Ext ρ0 ρ a0 a->dG w0 w->K ρ w.heap->Q .normal a w):
  ∀(r:List Oper) (i:Nat),(∀j,r[j]?=ops[i+j]?)->∀(ρ:Env) (a:Act) (w:World),Fits n a ρ->Ext ρ0 ρ a0 a->dG w0 w->aaa C n ops K r ρ w.heap->
   wpOps C.P ops Q (List.range' i r.length) a w
 |[],i,_,ρ,a,w,hf,hx,hl,hs=>c a w ρ hf hx hl hs
 |o::r,i,hr,ρ,a,w,hf,hx,hl,hs=>by
  have d:ops[i]?=some o:=by simpa using(hr 0).symm
  rw[zh,List.range'_succ,wpOps_cons];refine Iz b d hf hs λa' w' ρ' g e h3 f=>?_;exact LM b c r (i+1) (λj=>by have:=hr (j+1);simpa[Nat.add_assoc,Nat.add_comm 1 j]using this) ρ' a' w' g (hx.trans e) (hl.trans h3) f
abbrev au:=List (Addr×Value)
def au.ok:au->Heap->Prop
 |[],_=>True
 |p::r,h=>cellOf h p.1=some p.2/\au.ok r h
def mJ(a:Addr):Nat->List Value->au->au
 |_,[],L=>L
 |n,v::r,L=>(a.add n,v)::mJ a (n+1) r L
theorem nA{a:Addr}{h:Heap}:∀{vs:List Value} {n:Nat} {L:au},(mJ a n vs L).ok h↔aj h a n vs/\L.ok h
 |[],_,L=>by simp[mJ,aj]
 |v::r,n,L=>by simp only[mJ,au.ok,aj,nA (vs:=r),and_assoc]
def vP.held(r:vP)(y:r.ty.den)(L:au):au:=
 match r.ty,y with
 | .sc s,y=>(r.a,s.enc y)::L
 | .agg l,y=>mJ r.a 0 (Ae l y) L
 | .arr s,y=>mJ r.a 0 (y.map s.enc) L
theorem vP.adc{r:vP}{y:r.ty.den}{L:au}{c:Heap}(b:r.holds c y){m:Heap}:(r.held y L).ok m↔r.holds m y/\L.ok m:=by
 obtain⟨a,ty,n⟩:=r;cases ty with
 |sc s=>exact Iff.rfl
 |agg l=>exact nA
 |arr s=>exact nA.trans ⟨λx=>⟨⟨b.1,x.1⟩,x.2⟩,λx=>⟨x.1.2,x.2⟩⟩
structure gu where
 op:Nat
 r:vP
 y:r.ty.den
def flat:List gu->au
 |[]=>[]
 |p::r=>p.r.held p.y (flat r)
def gu.ok(p:gu)(w:World):Prop:=p.r.holds w.heap p.y
def waits(ops:Array Oper)(j i:Nat):Bool:=match ops[j]? with
 |some o=>o.after.any λe=>Region.binds .any e&&wM e.on i
 |none=>false
def keep(ops:Array Oper)(j:Nat):List gu->List gu
 |[]=>[]
 |p::r=>bif waits ops j p.op then keep ops j r else p::keep ops j r
theorem pJ{ops:Array Oper}{j:Nat}:∀{L:List gu},∀p∈keep ops j L,p∈L
 |[],p,h=>by cases h
 |q::r,p,h=>by
  unfold keep at h;cases hw:waits ops j q.op with
  |true=>rw[hw]at h;exact qD _ (pJ p h)
  |false=>
   rw[hw]at h;rcases q8.1 h with rfl|h
   ·exact qI
   ·exact qD _ (pJ p h)
theorem BE{ops:Array Oper}{j:Nat}:∀{L:List gu} {p:gu},p∈L->waits ops j p.op=false->p∈keep ops j L
 |q::r,p,h,hw=>by
  unfold keep;rcases q8.1 h with rfl|h
  ·rw[hw];exact qI
  ·cases hq:waits ops j q.op with
   |true=>exact BE h hw
   |false=>exact qD _ (BE h hw)
theorem Hk{ops:Array Oper}{j:Nat}{p:gu}:∀{M:List gu},p∈keep ops j M->waits ops j p.op=false
 |[],h=>by cases h
 |q::r,h=>by
  unfold keep at h;cases hq:waits ops j q.op with
  |true=>rw[hq]at h;exact Hk h
  |false=>
   rw[hq]at h;rcases q8.1 h with rfl|h
   ·exact hq
   ·exact Hk h
theorem DF{ops:Array Oper}{j:Nat}{L b:List gu}(c:∀p∈b,p∈L):∀p∈keep ops j b,p∈keep ops j L:=
 λp a=>BE (c p (pJ p a)) (Hk a)
def lV(P:Program)(ops:Array Oper)(Q:Exit->Act->World->Prop):Nat->List gu->Array Bool->Act->World->Prop
 |0,_,listed,a,w=>Region.ready .any ops listed=[]/\Q .normal a w
 |fuel+1,L,listed,a,w=>
  (Region.ready .any ops listed=[]->Q .normal a w)/\
  ∀i∈Region.ready .any ops listed,wpOp P ops Q i (λa' w'=>(∀p∈keep ops i L,p.ok w')/\lV P ops Q fuel (keep ops i L) (listed.setIfInBounds i true) a' w') a w
theorem IA{P:Program}{ops:Array Oper}{Q:Exit->Act->World->Prop}:∀(b:Nat) (L:List gu) (c:Array Bool) (a:Act) (w:World),lV P ops Q b L c a w->wpAny P .any ops Q b c a w
 |0,_,_,_,_,h=>h
 |b+1,_,_,_,_,h=>⟨h.1,λi d=>wpOp_mono (λa' w' h'=>IA b _ _ a' w' h'.2) (h.2 i d)⟩
theorem BF{P:Program}{ops:Array Oper}{Q:Exit->Act->World->Prop}:∀(b:Nat) {L d:List gu} (c:Array Bool) (a:Act) (w:World),(∀p∈d,p∈L)->lV P ops Q b L c a w->lV P ops Q b d c a w
 |0,_,_,_,_,_,_,h=>h
 |b+1,_,_,_,_,_,hs,h=>⟨h.1,λi f=>wpOp_mono (λa' w' h'=>⟨λp e=>h'.1 p (DF hs p e),BF b _ a' w' (DF hs) h'.2⟩) (h.2 i f)⟩
theorem On{P:Program}{ops:Array Oper}{Q:Exit->Act->World->Prop}{i:Nat}{s:Oper}{v:Value}{T:World->Prop}{N:List gu}(Z:ops[i]?=some s)(x:∀(j:Nat) (o:Oper) cs b,ops[j]?=some o->o.op≠.select cs b)
  (hQ:∀c a w,Q (.panic c) (a.put s.dst v) w->Q (.panic c) a w) (hN:∀p∈N,p.op=i) (hT:∀w,(∀p∈N,p.ok w)->T w):
  ∀(f:Nat) (L:List gu) (d:Array Bool) (a:Act) (w:World),
   (∀j t,ops[j]?=some t->j≠i->d.getD j true=false->(∀e∈t.after,Region.binds .any e=true->e.on≠i)->s.apart ops t=true)->
   i∈Region.ready .any ops d->YieldsIf P ops T s v a->(∀p∈N,p.ok w)->(∀p∈L,p.ok w)->
   lV P ops Q f (N++L) (d.setIfInBounds i true) (a.put s.dst v) w->lV P ops Q (f+1) L d a w:=by
 intro f;have B:∀(f:Nat) (L:List gu) (d:Array Bool) (a:Act) (w:World),YieldsIf P ops T s v a->(∀p∈N,p.ok w)->(∀p∈L,p.ok w)->
   lV P ops Q f (N++L) (d.setIfInBounds i true) (a.put s.dst v) w->
   wpOp P ops Q i (λa' w'=>(∀p∈keep ops i L,p.ok w')/\lV P ops Q f (keep ops i L) (d.setIfInBounds i true) a' w') a w:=λf L d a w G n J H=>
  G.wpOp Z (hT w n) ⟨λp g=>J p (pJ p g),BF f _ _ _ (λp g=>zW _ (pJ p g)) H⟩
 induction f with
 |zero=>
  intro L d a w _ E G n J H;refine⟨λh=>(by rw[h]at E;cases E),λj S=>?_⟩;by_cases l:j=i
  ·subst l;exact B 0 L d a w G n J H
  ·have:=ready_mono S l;rw[H.1]at this;cases this
 |succ f ih=>
  intro L d a w q E G n J H;refine⟨λh=>(by rw[h]at E;cases E),λj S=>?_⟩;by_cases l:j=i
  ·subst l;exact B (f+1) L d a w G n J H
  ·have F:=H.2 j (ready_mono S l);obtain⟨y,t,u,O⟩:=mem_ready.1 S;have z:∀e∈t.after,Region.binds .any e=true->e.on≠i:=λe he I W=>by
    have F:=O e he I;have Y:=(mem_ready.1 E).1;rw[W]at F;rcases Nat.lt_or_ge i d.size with h'|h'
    ·simp[h']at Y F;rw[Y]at F;cases F
    ·simp[Array.getElem?_eq_none h']at F
   have R:(t.after.any λe=>Region.binds .any e&&wM e.on i)=false:=by
    cases hc:t.after.any λe=>Region.binds .any e&&wM e.on i with
    |false=>rfl
    |true=>
     obtain⟨k,U,I⟩:=Array.any_eq_true.1 hc;simp only[qC]at I;exact absurd (zO I.2) (z _ (Array.getElem_mem U) I.1)
   have D:waits ops j i=false:=by unfold waits;rw[u];exact R
   have A:∀p,p∈N->p∈keep ops j (N++L):=λp g=>BE (List.mem_append_left _ g) (by rw[hN p g];exact D);have m:∀p,p∈keep ops j L->p∈keep ops j (N++L):=DF λp g=>zW _ g;have h2:=wpOp_putIf u (q j t u l y z) (λcs b=>x i s cs b Z) (λcs b=>x j t cs b u) hQ G F;have r:∀k ok,ops[k]?=some ok->k≠i->(d.setIfInBounds j true).getD k true=false->
     (∀e∈ok.after,Region.binds .any e=true->e.on≠i)->s.apart ops ok=true:=λk ok U X M V=>by
    refine q k ok U X ?_ V;by_cases K:j=k
    ·subst K;exact y
    ·rw[getD_set_ne true K]at M;exact M
   refine wpOp_mono (λa' w' h3=>⟨λp g=>h3.2.1 p (m p g),ih (keep ops j L) (d.setIfInBounds j true) a' w' r (ready_mono E (Ne.symm l)) h3.1 (λp g=>h3.2.1 p (A p g)) (λp g=>h3.2.1 p (m p g)) ?_⟩) h2;rw[Array.setIfInBounds_comm _ _ l];refine BF _ _ _ _ (λp g=>?_) h3.2.2;rcases List.mem_append.1 g with g|g
   ·exact A p g
   ·exact m p g
theorem Ag{P:Program}{ops:Array Oper}{Q:Exit->Act->World->Prop}{i:Nat}{e:Oper}{v:Value}{T:World->Prop}{N:List gu}{d:Nat}{L:List gu}{b:Array Bool}{a:Act}{w:World}(g:ops[i]?=some e)
  (m:Region.noSelect ops=true) (n:Region.free .any ops b i=true) (l:(Region.ready .any ops b).contains i=true)
  (r:∀c a w,Q (.panic c) (a.put e.dst v) w->Q (.panic c) a w) (q:∀p∈N,p.op=i) (o:∀w,(∀p∈N,p.ok w)->T w) (j:YieldsIf P ops T e v a) (f:∀p∈N,p.ok w) (k:∀p∈L,p.ok w)
  (h:lV P ops Q d (N++L) (b.setIfInBounds i true) (a.put e.dst v) w):lV P ops Q (d+1) L b a w:=
 On g (Region.noSelect_spec m) r q o d L b a w (Region.free_spec g n) (by simpa using l) j f k h
theorem Kz:∀{L:List gu} {w0:World},(∀p∈L,p.ok w0)->∀{m:Heap},(flat L).ok m->∀p∈L,p.r.holds m p.y
 |[],_,_,_,_,p,a=>by cases a
 |q::r,w0,h0,m,h,p,a=>by
  have h:=(vP.adc (h0 q qI)).1 h;rcases q8.1 a with rfl|a
  ·exact h.1
  ·exact Kz (λp a=>h0 p (qD _ a)) h.2 p a
def acd(T:km)(t:TypeId):Bool:=match T.get t with
 |some i=>match i.ty with
  | .sc .slc=>true
  |_=>false
 |none=>false
def ace(T:km):Op->Bool
 | .convert s d _=>!(acd T s||acd T d)
 | .move _| .assign _| .pick .. | .nilCheck _| .fieldAddr .. | .indexAddr .. | .index .. | .field .. | .extract .. | .binOp .. | .unOp .. | .build .. | .makeFunc .. | .load .. =>true
 | .slice _ _ _ _ none=>true
 | .call c=>match c.callee with
  | .builtin .len| .builtin .cap| .builtin .min| .builtin .max| .builtin .real| .builtin .imag=>true
  |_=>false
 |_=>false
def nS(T:km)(ops:Array Oper)(a:Array Bool):List Nat->Option Nat
 |[]=>none
 |i::r=>match ops[i]? with
  |some o=>bif ace T o.op&&Region.free .any ops a i then some i else nS T ops a r
  |none=>nS T ops a r
def Uz(C:Ctx)(n:Nat)(ops:Array Oper)(i:Nat)(o:Oper)(L:List gu)(K:List gu->Env->Heap->Prop)(ρ:Env)(h:Heap):Prop:=
 Iy ops o ρ (λρ=>match AP C.P C.T o.op ρ.eval with
  | .no=>match tH C.T o.op ρ.eval with
   |some r=>∃y:r.ty.den,r.holds h y/\put n o.dst (K (⟨i,r,y⟩::L)) ρ (r.ty.enc y) h
   |none=>False
  |p=>p.holds λv=>put n o.dst (K L) ρ v h) (λρ=>put n o.dst (K L) ρ undef h)
def Oo(C:Ctx)(n:Nat)(ops:Array Oper)(K:Nat->Env->Heap->Prop)(ρ:Env)(h:Heap):List Nat->Prop
 |[]=>True
 |[i]=>match ops[i]? with
  |some o=>FJ C n ops o (K i) ρ h
  |none=>False
 |i::j::r=>(match ops[i]? with
  |some o=>FJ C n ops o (K i) ρ h
  |none=>False)/\Oo C n ops K ρ h (j::r)
def tJ(C:Ctx)(n:Nat)(ops:Array Oper)(K:Env->Heap->Prop):Nat->Array Bool->List gu->Env->Heap->Prop
 |0,listed,_,ρ,h=>bif (Region.ready .any ops listed).isEmpty then K ρ h else False
 |k+1,listed,L,ρ,h=>match nS C.T ops listed (Region.ready .any ops listed)with
  |some i=>match ops[i]? with
   |some o=>Uz C n ops i o L (tJ C n ops K k (listed.setIfInBounds i true)) ρ h
   |none=>False
  |none=>match Region.ready .any ops listed with
   |[]=>K ρ h
   |i::r=>Oo C n ops (λi ρ h=>(flat (keep ops i L)).ok h/\tJ C n ops K k (listed.setIfInBounds i true) (keep ops i L) ρ h) ρ h (i::r)
theorem rX{T:km}{ops:Array Oper}{a:Array Bool}:∀{rs:List Nat} {i:Nat},nS T ops a rs=some i->i∈rs/\Region.free .any ops a i=true
 |[],_,h=>by cases h
 |j::r,i,h=>by
  simp only[nS]at h;split at h
  ·rename_i o b;cases hb:(ace T o.op&&Region.free .any ops a j)with
   |true=>
    rw[hb]at h;cases h;simp only[qC]at hb;exact⟨qI,hb.2⟩
   |false=>
    rw[hb]at h;have:=rX h;exact⟨qD _ this.1,this.2⟩
  ·have:=rX h;exact⟨qD _ this.1,this.2⟩
theorem LN{C:Ctx}{n:Nat}{ops:Array Oper}{K:Nat->Env->Heap->Prop}{ρ:Env}{h:Heap}:∀{l:List Nat},Oo C n ops K ρ h l->∀i∈l,∃o,ops[i]?=some o/\FJ C n ops o (K i) ρ h
 |[],_,i,hi=>by cases hi
 |[j],ha,i,hi=>by
  simp only[qB]at hi;subst hi;simp only[Oo]at ha;split at ha
  ·rename_i o b;exact⟨o,b,ha⟩
  ·exact ha.elim
 |j::k::r,ha,i,hi=>by
  obtain⟨a,c⟩:=ha;rcases q8.1 hi with rfl|hi
  ·split at a
   ·rename_i o b;exact⟨o,b,a⟩
   ·exact a.elim
  ·exact LN c i hi
variable {n:Nat} {ops:Array Oper} {Q:Exit->Act->World->Prop} {ρ0:Env} {a0:Act} {w0:World}
section
variable {C:Ctx} {K:Env->Heap->Prop}
theorem LO(G:C.Ok)(H:Region.noSelect ops=true)
  (W:∀a w ρ,Fits n a ρ->Ext ρ0 ρ a0 a->dG w0 w->K ρ w.heap->Q .normal a w) (z:∀c a w,¬Q (.panic c) a w):
  ∀(k:Nat) (b:Array Bool) (L:List gu) (ρ:Env) (a:Act) (w:World),Fits n a ρ->Ext ρ0 ρ a0 a->dG w0 w->(∀p∈L,p.ok w)->
   tJ C n ops K k b L ρ w.heap->lV C.P ops Q k L b a w
 |0,b,L,ρ,a,w,hf,hx,hl,hL,h=>by
  simp only[tJ]at h;cases hb:(Region.ready .any ops b).isEmpty with
  |false=>rw[hb]at h;exact h.elim
  |true=>rw[hb]at h;exact⟨by simpa using hb,W _ _ _ hf hx hl h⟩
 |k+1,b,L,ρ,a,w,hf,hx,hl,hL,h=>by
  have I:=LO G H W z k;simp only[tJ]at h;split at h
  ·rename_i i J;obtain⟨E,f⟩:=rX J;have e:(Region.ready .any ops b).contains i=true:=by simpa using E
   split at h
   ·rename_i o B;unfold Uz at h;obtain⟨ρ',M,S,h3⟩:=GG hf h;have s:∀c a w (v:Value),Q (.panic c) (Act.put a o.dst v) w->Q (.panic c) a w:=λc a w v hq=>absurd hq (z c _ w);have Z:∀x v,Env.eval ρ' x=some v->a.eval x=v:=λx v h=>M.eval h;rcases h3 with⟨t,g⟩|⟨t,g⟩
    ·have q:(AP C.P C.T o.op (Env.eval ρ')).holds (λv=>put n o.dst (tJ C n ops K k (b.setIfInBounds i true) L) ρ' v w.heap)->
       lV C.P ops Q (k+1) L b a w:=λd=>by
      obtain⟨v,hv,R⟩:=Iu G.toOk Z d;obtain⟨l,F,D,u⟩:=tI R M;exact Ag (N:=[]) (T:=λ_=>True) B H f e (λc a w=>s c a w v) (λp d=>by cases d) (λ_ _=>trivial) (.inl ⟨t,λw _=>hv w⟩) (λp d=>by cases d) hL
       (I _ L l _ w F (hx.trans (S.trans D)) hl hL u)
     split at g
     ·split at g
      ·rename_i r A;obtain⟨y,Y,R⟩:=g;obtain⟨l,F,D,u⟩:=tI R M;have U:∀p∈[(⟨i,r,y⟩:gu)],p.ok w:=λp d=>by rw[qB]at d;subst d;exact Y
       refine Ag (N:=[⟨i,r,y⟩]) (T:=λw=>r.holds w.heap y) B H f e (λc a w=>s c a w _) (λp d=>by rw[qB]at d;subst d;rfl)
        (λw h=>h ⟨i,r,y⟩ (qB.2 rfl)) (.inl ⟨t,λw t=>BD G.toOk Z A t⟩) U hL ?_
       refine I _ (⟨i,r,y⟩::L) l _ w F (hx.trans (S.trans D)) hl (λp d=>?_) u;rcases q8.1 d with rfl|d
       ·exact Y
       ·exact hL p d
      ·exact g.elim
     ·exact q g
    ·obtain⟨l,F,D,u⟩:=tI g M;exact Ag (N:=[]) (T:=λ_=>True) B H f e (λc a w=>s c a w undef) (λp d=>by cases d) (λ_ _=>trivial) (.inr ⟨t,rfl⟩) (λp d=>by cases d) hL
      (I _ L l _ w F (hx.trans (S.trans D)) hl hL u)
   ·exact h.elim
  ·split at h
   ·rename_i g;exact⟨λ_=>W _ _ _ hf hx hl h,λi J=>by rw[g]at J;cases J⟩
   ·rename_i i r g;refine⟨λh0=>absurd (g▸h0) (by simp),λj X=>?_⟩;rw[g]at X;obtain⟨o,B,O⟩:=LN h j X;have m:∀p∈keep ops j L,p.ok w:=λp d=>hL p (pJ p d);exact Iz G B hf O λa' w' ρ' x1 x2 x3 V=>⟨Kz m V.1,I _ (keep ops j L) ρ' a' w' x1 (hx.trans x2) (hl.trans x3) (Kz m V.1) V.2⟩
end
def sched(T:km)(ops:Array Oper):Nat->Array Bool->Option (List (Nat×Bool))
 |0,listed=>bif (Region.ready .any ops listed).isEmpty then some []else none
 |k+1,listed=>match nS T ops listed (Region.ready .any ops listed)with
  |some i=>(sched T ops k (listed.setIfInBounds i true)).map ((i,true)::·)
  |none=>match Region.ready .any ops listed with
   |[]=>some []
   |[i]=>(sched T ops k (listed.setIfInBounds i true)).map ((i,false)::·)
   |_::_::_=>none
def rN(C:Ctx)(n:Nat)(ops:Array Oper)(K:Env->Heap->Prop):List (Nat×Bool)->List gu->Env->Heap->Prop
 |[],_,ρ,h=>K ρ h
 |(i,true)::r,L,ρ,h=>match ops[i]? with
  |some o=>Uz C n ops i o L (rN C n ops K r) ρ h
  |none=>False
 |(i,false)::r,L,ρ,h=>match ops[i]? with
  |some o=>FJ C n ops o (λρ h=>(flat (keep ops i L)).ok h/\rN C n ops K r (keep ops i L) ρ h) ρ h
  |none=>False
theorem LP{C:Ctx}{n:Nat}{ops:Array Oper}{K:Env->Heap->Prop}:∀(k:Nat) (a:Array Bool) (l:List (Nat×Bool)),sched C.T ops k a=some l->
  tJ C n ops K k a=rN C n ops K l
 |0,a,l,hs=>by
  simp only[sched]at hs;cases hb:(Region.ready .any ops a).isEmpty with
  |false=>rw[hb]at hs;cases hs
  |true=>
   rw[hb]at hs;cases hs;funext L ρ h;simp only[tJ,hb,rN,cond_true]
 |k+1,a,l,hs=>by
  have c:=λi=>LP (C:=C) (n:=n) (ops:=ops) (K:=K) k (a.setIfInBounds i true);funext L ρ h;unfold sched at hs;unfold tJ;cases hi:nS C.T ops a (Region.ready .any ops a)with
  |some i=>
   rw[hi]at hs;obtain⟨l',b,rfl⟩:=vf.1 hs;simp only[rN,c i l' b]
  |none=>
   rw[hi]at hs;generalize d:Region.ready .any ops a=rd at hs
   match rd,hs with
   |[],hs=>cases hs;simp only[rN]
   |[i],hs=>
    obtain⟨l',b,rfl⟩:=vf.1 hs;simp only[Oo,rN,c i l' b]
def KA(C:Ctx)(n:Nat)(ops:Array Oper)(a:Bool)(K:Env->Heap->Prop)(ρ:Env)(h:Heap):Prop:=
 match a with
 |false=>aaa C n ops K ops.toList ρ h
 |true=>bif Region.noSelect ops then(match sched C.T ops ops.size (vE ops.size false)with
  |some l=>rN C n ops K l [] ρ h
  |none=>tJ C n ops K ops.size (vE ops.size false) [] ρ h)else False
theorem Oq{C:Ctx}(d:C.Ok){n:Nat}{id:Nat}{ops:Array Oper}{b:Bool}{Q:Exit->Env->Heap->Prop}{ρ:Env}{a:Act}{w:World}(i:Fits n a ρ)
  (h:KA C n ops b (Q .normal) ρ w.heap):(Code.region id ops b).wp C.P (λe a' w'=>(∀c,e≠.panic c)/\Out n Q ρ a w e a' w') a w:=by
 cases b with
 |false=>
  refine wp_region ?_;have:=LM d (Q:=λe a' w'=>(∀c,e≠.panic c)/\Out n Q ρ a w e a' w') (K:=Q .normal) (ρ0:=ρ) (a0:=a) (w0:=w) (λa' w' ρ' f x2 x3 g=>⟨λc e=>(by cases e),ρ',f,x2,x3,g⟩)
   ops.toList 0 (λj=>by simp) ρ a w i (Ext.refl _ _) (dG.refl _) h
  rw[List.range_eq_range'];simpa using this
 |true=>
  simp only[KA]at h;cases hb:Region.noSelect ops with
  |false=>rw[hb]at h;exact h.elim
  |true=>
   rw[hb]at h;have h:tJ C n ops (Q .normal) ops.size (vE ops.size false) [] ρ w.heap:=by
    simp only[cond_true]at h;split at h
    ·rename_i l m;rw[LP _ _ _ m];exact h
    ·exact h
   refine wp_region_any d.mixed (IA _ [] _ _ _ ?_);exact LO d hb (Q:=λe a' w'=>(∀c,e≠.panic c)/\Out n Q ρ a w e a' w') (ρ0:=ρ) (a0:=a) (w0:=w) (λa' w' ρ' f x2 x3 g=>⟨λc e=>(by cases e),ρ',f,x2,x3,g⟩)
    (λc a w o=>o.1 c rfl) _ _ [] ρ a {w with drawn:=w.drawn+1} i (Ext.refl _ _) ⟨rfl,rfl,rfl,Nat.le_succ _⟩ (λp k=>by cases k) h
def be{σ:Type}(rest:σ->Heap->Prop)(B:(σ->Heap->Prop)->Prop):Prop:=∃R:σ->Heap->Prop,(∀s h,R s h->rest s h)/\B R
def aI{σ:Type}(B:σ->(σ->Heap->Prop)->Heap->Prop)(s:σ)(h:Heap):Prop:=
 ∃(τ:Type) (V:τ->σ) (I:τ->Heap->Prop) (μ:τ->Nat) (t0:τ),s=V t0/\I t0 h/\∀t h,I t h->B (V t) (λb h'=>∃a,b=V a/\I a h'/\μ a<μ t) h
theorem WR{P:Program}{c:Code}{Q:Exit->Act->World->Prop}{a:Act}{w:World}{σ:Type}(R:σ->Act->World->Prop)(μ:σ->World->Nat)(t:σ)(y:R t a w)
  (i:∀s a w,R s a w->c.wp P (Exit.then (λa' w'=>∃m,R m a' w'/\μ m w'<μ s w) Q) a w):(Code.loop c).wp P Q a w:=by
 intro b k cs;have o:∀n s a w,μ s w=n->R s a w->
   ∃e a' w',Q e a' w'/\Arrives P (lone (b.at a (.code c::.inLoop c::k)) cs w) b k cs e a' w':=by
  intro n
  induction n using Nat.strongRecOn with
  |_ n ih=>
   intro s a w B v;obtain⟨e,j,h,f,d⟩:=i s a w v b (.inLoop c::k) cs;cases e with
   |normal=>
    obtain⟨m,p,q⟩:=f;obtain⟨z,u,A,r,g⟩:=ih (μ m h) (B▸q) m j h rfl p;exact⟨z,u,A,r,.of_steps (Steps.trans d (.one step_inLoop)) g⟩
   |exit id=>exact⟨_,j,h,f,.pass (x:=.inLoop c) rfl (λ_ _=>.inl (by simp)) d⟩
   |goto l=>exact⟨_,j,h,f,.pass (x:=.inLoop c) rfl (λ_ _=>.inl (by simp)) d⟩
   |ret=>exact⟨_,j,h,f,.pass (x:=.inLoop c) rfl (λ_ _=>.inl (by simp)) d⟩
   |panic ch=>exact⟨_,j,h,f,.pass (x:=.inLoop c) rfl (λ_ _=>.inl (by simp)) d⟩
   |outgrown=>exact⟨_,j,h,f,.pass (x:=.inLoop c) rfl (λ_ _=>.inl (by simp)) d⟩
 obtain⟨e,a',w',f,d⟩:=o _ t a w rfl y;exact⟨e,a',w',f,.of_steps (.one step_loop) d⟩
inductive ai where
 |n
 |two (a b:ai)
 |inn (a:ai)
 |loop (σ:dY) (κ:dz) (a:ai)
 |join (σ:dY) (κ:dz) (a:ai)
 |scope (l:Nat) (σ:dY) (κ:dz) (pre rest:List ai) (fwd:List (Nat×List ai))
 |fwd (a:ai) (fwd:List (Nat×List ai))
def ai.fst:ai->ai
 | .two a _=>a
 |_=>.n
def ai.snd:ai->ai
 | .two _ b=>b
 |_=>.n
def ai.sub:ai->ai
 | .inn a=>a
 |_=>.n
abbrev QT:=Exit->Env->Heap->Prop
def IB(σ:dY)(κ:dz)(ρ:Env)(K:σ.den->Heap->Prop)(Q:QT):QT
 | .normal,ρ',h=>bif within σ κ ρ' (ρ'.length-ρ.length)then(match σ.read ρ' with|some s=>K s h|none=>False)else False
 |e,ρ',h=>Q e ρ' h
def FK(next:Env->Heap->Prop)(Q:QT):QT
 | .normal,ρ,h=>next ρ h
 |e,ρ,h=>Q e ρ h
def WS(id:Nat)(Q:QT):QT
 | .exit i,ρ,h=>bif wM i id then Q .normal ρ h else Q (.exit i) ρ h
 |e,ρ,h=>Q e ρ h
abbrev Rec:=Code->ai->QT->Env->Heap->Prop
def wd(rec:Rec):List Code->List ai->QT->Env->Heap->Prop
 |[],_,Q,ρ,h=>Q .normal ρ h
 |c::cs,[],Q,ρ,h=>rec c .n (FK (wd rec cs [] Q) Q) ρ h
 |c::cs,x::xs,Q,ρ,h=>rec c x (FK (wd rec cs xs Q) Q) ρ h
def chain:Code->Nat->Option (List Code×List Code)
 | .seq a b,l=>match chain a l with
  |some (p,r)=>some (p,r++[b])
  |none=>match chain b l with
   |some (p,r)=>some (a::p,r)
   |none=>none
 | .label l',l=>bif wM l' l then some ([],[])else none
 |_,_=>none
def acf(a:List (Nat×List ai))(l:Nat):Option (List ai):=
 match a with
 |[]=>none
 |p::r=>bif wM p.1 l then some p.2 else acf r l
def FL(rec:Rec)(c:Code)(a:List (Nat×List ai))(Q:QT):Nat->QT
 |0=>λ_ _ _=>False
 |g+1=>λe ρ h=>match e with
  | .goto l=>match acf a l with
   |some xs=>match chain c l with
    |some (_,r)=>wd rec r xs (FL rec c a Q g) ρ h
    |none=>False
   |none=>Q (.goto l) ρ h
  |e=>Q e ρ h
def UA(l:Nat)(σ:dY)(κ:dz)(ρ:Env)(K:σ.den->Heap->Prop)(Q:QT):QT
 | .goto l',ρ',h=>bif wM l' l then(bif within σ κ ρ' (ρ'.length-ρ.length)then(match σ.read ρ' with|some s=>K s h|none=>False)else False)else Q (.goto l') ρ' h
 |e,ρ',h=>Q e ρ' h
def Ot(c:Code)(Q:QT):QT
 | .goto l,ρ,h=>match findLabel c l with
  |none=>Q (.goto l) ρ h
  |some _=>False
 |e,ρ,h=>Q e ρ h
def Ou(C:Ctx)(n:Nat)(rec:Rec)(c:Code)(d:ai)(Q:QT)(ρ:Env)(h:Heap):Prop:=
 match d with
 | .join σ κ a=>be (λs h=>Q .normal (σ.vals s (κ.over ρ)) h) (λK=>rec c a (IB σ κ ρ K Q) ρ h)
 |d=>match c with
  | .skip=>Q .normal ρ h
  | .label _=>Q .normal ρ h
  | .region _ ops draw=>KA C n ops draw (Q .normal) ρ h
  | .seq a b=>rec a d.fst (FK (rec b d.snd Q) Q) ρ h
  | .cond x a b=>match ρ.eval x with
   |some (.bool t)=>Br t (rec a d.fst Q ρ h) (rec b d.snd Q ρ h)
   |_=>False
  | .block id c=>rec c d.sub (WS id Q) ρ h
  | .exit id=>Q (.exit id) ρ h
  | .goto l=>Q (.goto l) ρ h
  | .ret=>Q .ret ρ h
  | .loop c=>match d with
   | .loop σ κ a=>match σ.read ρ with
    |some s0=>aI (λs K h=>rec c a (IB σ κ (σ.vals s (κ.over ρ)) K Q) (σ.vals s (κ.over ρ)) h) s0 h
    |none=>False
   |_=>False
  | .scope c=>match d with
   | .scope l σ κ pre rest fwd=>match chain c l with
    |some (p,r)=>wd rec p pre (FK (λρ' h'=>match σ.read ρ' with
     |some s0=>aI (λs K h=>wd rec r rest (FL rec c fwd (UA l σ κ (σ.vals s (κ.over ρ')) K (Ot c Q)) 4) (σ.vals s (κ.over ρ')) h) s0 h'
     |none=>False) (Ot c Q)) ρ h
    |none=>False
   | .fwd a fwd=>rec c a (FL rec c fwd (Ot c Q) 4) ρ h
   |_=>False
  |_=>False
def vc(C:Ctx)(n:Nat):Nat->Rec
 |0=>λ_ _ _ _ _=>False
 |f+1=>Ou C n (vc C n f)
def FM(C:Ctx)(n:Nat)(rec:Rec):Prop:=∀(c:Code) (b:ai) (Q:QT) (ρ:Env) (a:Act) (w:World),Fits n a ρ->rec c b Q ρ w.heap->c.wp C.P (Out n Q ρ a w) a w
variable {ρ ρ':Env} {a a':Act} {w w':World}
section
variable {C:Ctx} {Q:QT}
theorem Out.base{e:Exit}{c:Act}{b:World}(j:Ext ρ ρ' a a')(f:dG w w')(h:Out n Q ρ' a' w' e c b):Out n Q ρ a w e c b:=by obtain⟨d,i,k,h3,g⟩:=h;exact⟨d,i,j.trans k,f.trans h3,g⟩
theorem Out.then{next:Env->Heap->Prop}{N:Act->World->Prop}{g:Exit->Act->World->Prop}{e:Exit}{c:Act}{b:World}(h:Out n (FK next Q) ρ a w e c b)
  (k:∀ρ',Fits n c ρ'->Ext ρ ρ' a c->dG w b->next ρ' b.heap->N c b) (l:Out n Q ρ a w e c b->e≠.normal->g e c b):Exit.then N g e c b:=by
 obtain⟨d,i,j,h3,f⟩:=h;cases e<;>first|exact k d i j h3 f|exact l ⟨d,i,j,h3,f⟩ (by simp)
def nB(P:Program):List Code->(Exit->Act->World->Prop)->Act->World->Prop
 |[],Q,a,w=>Q .normal a w
 |c::cs,Q,a,w=>c.wp P (Exit.then (nB P cs Q) Q) a w
theorem kH{P:Program}{Q d:Exit->Act->World->Prop}(b:∀e a w,Q e a w->d e a w):∀(l:List Code) (a:Act) (w:World),nB P l Q a w->nB P l d a w
 |[],_,_,h=>b _ _ _ h
 |c::cs,a,w,h=>wp_mono h λe a w h=>by
  cases e<;>first|exact kH b cs a w h|exact b _ _ _ h
theorem oC{rec:Rec}(d:FM C n rec):∀(l:List Code) (xs:List ai) (Q:QT) (ρ:Env) (a:Act) (w:World),Fits n a ρ->wd rec l xs Q ρ w.heap->nB C.P l (Out n Q ρ a w) a w
 |[],_,Q,ρ,a,w,hf,h=>⟨ρ,hf,Ext.refl _ _,dG.refl _,h⟩
 |c::cs,[],Q,ρ,a,w,hf,h=>by
  refine wp_mono (d c .n _ ρ a w hf h) λe a' w' b=>b.then (λρ' f x2 x3 g=>?_) λb _=>b;exact kH (λe a w h=>h.base x2 x3) cs a' w' (oC d cs [] Q ρ' a' w' f g)
 |c::cs,x::xs,Q,ρ,a,w,hf,h=>by
  refine wp_mono (d c x _ ρ a w hf h) λe a' w' b=>b.then (λρ' f x2 x3 g=>?_) λb _=>b;exact kH (λe a w h=>h.base x2 x3) cs a' w' (oC d cs xs Q ρ' a' w' f g)
end
theorem Ah{P:Program}{b:Code}{Q:Exit->Act->World->Prop}:∀(l:List Code) (a:Act) (w:World),nB P (l++[b]) Q a w->nB P l (Exit.then (b.wp P Q) Q) a w
 |[],a,w,h=>by
  refine wp_mono h λe a w h=>?_;cases e<;>exact h
 |c::cs,a,w,h=>wp_mono h λe a w h=>by
  cases e<;>first|exact Ah cs a w h|exact h
theorem rp:∀{c:Code} {l:Nat} {p r:List Code},chain c l=some (p,r)->∃k,findLabel c l=some k/\
  (∀{P:Program} {Q:Exit->Act->World->Prop} {a:Act} {w:World},nB P r Q a w->k.wp P Q a w)/\
  (∀{P:Program} {Q:Exit->Act->World->Prop} {a:Act} {w:World},nB P p (Exit.then (nB P r Q) Q) a w->c.wp P Q a w)
 | .seq x y,l,p,r,h=>by
  simp only[chain]at h;split at h
  ·rename_i q m d;cases h;obtain⟨k,j,i,h3⟩:=rp d;refine⟨.seq k y,by simp[findLabel,j],λ{P Q a w} h=>wp_seq (i (Ah m a w h)),λ{P Q a w} h=>wp_seq (h3 ?_)⟩;refine kH (λe a w g=>?_) p a w h;cases e<;>first|exact Ah m a w g|exact g
  ·rename_i d;split at h
   ·rename_i q m n;cases h;obtain⟨k,j,i,h3⟩:=rp n;have s:findLabel x l=none:=by
     clear j i h3 n
     induction x with
     |seq a b iha ihb=>
      simp only[chain]at d;split at d
      ·cases d
      ·rename_i o;split at d
       ·cases d
       ·rename_i f;simp[findLabel,iha o,ihb f]
     |label l'=>
      simp only[chain]at d;cases f:wM l' l with
      |true=>rw[f]at d;cases d
      |false=>
       have:¬l'=l:=λe=>by subst e;simp at f
       simp[findLabel,this]
     |_=>rfl
    refine⟨k,by simp[findLabel,s,j],i,λ{P Q a w} h=>wp_seq (wp_mono h λe a w g=>?_)⟩;cases e<;>first|exact h3 g|exact g
   ·cases h
 | .label l',l,p,r,h=>by
  simp only[chain]at h;cases f:wM l' l with
  |false=>rw[f]at h;cases h
  |true=>
   rw[f]at h;cases h;have:=zO f;subst this;exact⟨.skip,by simp[findLabel],λh=>wp_skip h,λh=>wp_label h⟩
 | .skip,_,_,_,h=>by cases h
 | .region ..,_,_,_,h=>by cases h
 | .cond ..,_,_,_,h=>by cases h
 | .block ..,_,_,_,h=>by cases h
 | .loop _,_,_,_,h=>by cases h
 | .rangeFunc ..,_,_,_,h=>by cases h
 | .exit _,_,_,_,h=>by cases h
 | .scope _,_,_,_,h=>by cases h
 | .goto _,_,_,_,h=>by cases h
 | .ret,_,_,_,h=>by cases h
 | .refuse _,_,_,_,h=>by cases h
variable {c:Code} {b:Frame} {k:List Item} {cs:List Frame}
def Reach(P:Program)(c:Code)(Q:Exit->Act->World->Prop)(b:Frame)(k:List Item)(d:List Frame)(a:Act)(w:World)(r:Code):Prop:=
 ∃e a' w',Q e a' w'/\Arrives P (lone (b.at a (.code r::.inScope c::k)) d w) b k d e a' w'
def Good(P:Program)(c:Code)(Q:Exit->Act->World->Prop)(b:Frame)(k:List Item)(d:List Frame):Exit->Act->World->Prop
 | .goto l,a,w=>match findLabel c l with
  |some r=>Reach P c Q b k d a w r
  |none=>Q (.goto l) a w
 |e,a,w=>Q e a w
theorem Ov{m:Machine}{e:Exit}{a:Act}{w:World}(f:Good P c Q b k cs e a w)(d:Arrives P m b (.inScope c::k) cs e a w):
  ∃e a' w',Q e a' w'/\Arrives P m b k cs e a' w':=by
 cases e with
 |normal=>exact⟨.normal,a,w,f,Steps.trans d (.one step_inScope)⟩
 |exit id=>exact⟨.exit id,a,w,f,λi j=>d i (by simp[exitTo,j])⟩
 |goto l=>
  simp only[Good]at f;cases hf:findLabel c l with
  |none=>
   rw[hf]at f;exact⟨.goto l,a,w,f,λi j=>d i (by simp[gotoIn,hf,j])⟩
  |some r=>
   rw[hf]at f;obtain⟨o,n,p,h,g⟩:=f;exact⟨o,n,p,h,.of_steps (d _ (by simp[gotoIn,hf])) g⟩
 |ret=>exact⟨_,a,w,f,d⟩
 |panic ch=>exact⟨_,a,w,f,d⟩
 |outgrown=>exact⟨_,a,w,f,d⟩
theorem Ow{r:Code}{a:Act}{w:World}(h:r.wp P (Good P c Q b k cs) a w):Reach P c Q b k cs a w r:=by obtain⟨e,a',w',f,d⟩:=h b (.inScope c::k) cs;exact Ov f d
theorem CZ{a:Act}{w:World}(h:∀b k cs,c.wp P (Good P c Q b k cs) a w):(Code.scope c).wp P Q a w:=by intro b k cs;obtain⟨e,m,l,f,d⟩:=h b k cs b (.inScope c::k) cs;obtain⟨g,a',w',i,j⟩:=Ov f d;exact⟨g,a',w',i,.of_steps (.one step_scope) j⟩
variable {rec:Rec}
section
variable {C:Ctx}
theorem BG(s:FM C n rec){c:Code}{m:List (Nat×List ai)}{t:QT}{q:Exit->Act->World->Prop}{b:Frame}{k:List Item}{u:List Frame}{ρ:Env}{a0:Act}{w0:World}
  (j:∀e f i d,Fits n i f->Ext ρ f a0 i->dG w0 d->t e f d.heap->Good C.P c q b k u e i d):
  ∀(g:Nat) (e:Exit) (f:Env) (i:Act) (d:World),Fits n i f->Ext ρ f a0 i->dG w0 d->FL rec c m t g e f d.heap->Good C.P c q b k u e i d
 |0,_,_,_,_,_,_,_,h=>h.elim
 |g+1,e,f,i,d,hf,hx,hl,h=>by
  cases e with
  |goto l=>
   simp only[FL]at h;split at h
   ·split at h
    ·rename_i p r o;obtain⟨F,E,B,_⟩:=rp o;simp only[Good,E];refine Ow (B ?_);refine kH (λe a w y=>?_) _ _ _ (oC s _ _ _ f i d hf h);obtain⟨x,D,A,v,z⟩:=y;exact BG s j g e x a w D (hx.trans A) (hl.trans v) z
    ·exact h.elim
   ·exact j _ _ _ _ hf hx hl h
  |normal=>exact j _ _ _ _ hf hx hl h
  |exit id=>exact j _ _ _ _ hf hx hl h
  |ret=>exact j _ _ _ _ hf hx hl h
  |panic ch=>exact j _ _ _ _ hf hx hl h
  |outgrown=>exact j _ _ _ _ hf hx hl h
theorem oe{c:Code}{Q:QT}{b:Frame}{k:List Item}{o:List Frame}{ρ:Env}{a0:Act}{w0:World}{e:Exit}{a:Env}{i:Act}{j:World}
  (d:Fits n i a) (g:Ext ρ a a0 i) (f:dG w0 j) (h:Ot c Q e a j.heap):Good C.P c (Out n Q ρ a0 w0) b k o e i j:=by
 cases e with
 |goto l=>
  simp only[Ot]at h;simp only[Good];split at h
  ·rename_i m;simp only[m];exact⟨a,d,g,f,h⟩
  ·exact h.elim
 |normal=>exact⟨a,d,g,f,h⟩
 |exit id=>exact⟨a,d,g,f,h⟩
 |ret=>exact⟨a,d,g,f,h⟩
 |panic ch=>exact⟨a,d,g,f,h⟩
 |outgrown=>exact⟨a,d,g,f,h⟩
theorem LQ{a:Act}{σ:dY}{κ:dz}{ρ:Env}{s:σ.den}(b:Fits n a ρ)(c:σ.read ρ=some s):Fits n a (σ.vals s (κ.over ρ))/\Ext ρ (σ.vals s (κ.over ρ)) a a:=
 b.pI b (λ_ _ _=>rfl) c
theorem RI(J:FM C n rec){c:Code}{l:Nat}{σ:dY}{κ:dz}{pre rest:List ai}{E:List (Nat×List ai)}{p r:List Code}(hc:chain c l=some (p,r)){Q:QT}{ρ:Env}{a:Act}{w:World}(hf:Fits n a ρ)
  (h:wd rec p pre (FK (λρ' h'=>match σ.read ρ' with
     |some N=>aI (λs K h=>wd rec r rest (FL rec c E (UA l σ κ (σ.vals s (κ.over ρ')) K (Ot c Q)) 4) (σ.vals s (κ.over ρ')) h) N h'
     |none=>False) (Ot c Q)) ρ w.heap):(Code.scope c).wp C.P (Out n Q ρ a w) a w:=by
 refine CZ λb k cs=>?_;obtain⟨kk,h1,h2,h3⟩:=rp hc;refine h3 (kH (λe a' w' y=>?_) _ _ _ (oC J _ _ _ ρ a w hf h));refine y.then (λρ' O x2 x3 F=>?_) (λy _=>?_)
 ·split at F
  ·rename_i N A;obtain⟨τ,V,I,μ,t0,Y,X,i⟩:=F;subst Y;have g:=LQ (κ:=κ) O A;have x:∀(m:Nat) (t:τ) (v:Act) (o:World),μ t=m->I t o.heap->Fits n v (σ.vals (V t) (κ.over ρ'))->Ext ρ' (σ.vals (V t) (κ.over ρ')) a' v->dG w' o->
     nB C.P r (Good C.P c (Out n Q ρ a w) b k cs) v o:=by
    intro m
    induction m using Nat.strongRecOn with
    |_ m ih=>
     intro t v o hm D B d f;refine kH (λe a2 w2 y=>?_) _ _ _ (oC J _ _ _ _ v o B (i t o.heap D));obtain⟨ρ2,L,M,z,H⟩:=y;refine BG J (ρ:=σ.vals (V t) (κ.over ρ')) (a0:=v) (w0:=o) (λe S a3 U u j z3 z4=>?_) 4 e ρ2 a2 w2 L M z H;cases e with
     |goto l'=>
      simp only[UA]at z4;cases hb:wM l' l with
      |false=>
       rw[hb]at z4;exact oe u (x2.trans (d.trans j)) (x3.trans (f.trans z3)) z4
      |true=>
       rw[hb]at z4;have:=zO hb;subst this;simp only[Good,h1];cases hw:within σ κ S (S.length-(σ.vals (V t) (κ.over ρ')).length)with
       |false=>rw[hw]at z4;exact z4.elim
       |true=>
        rw[hw]at z4;simp only[cond_true]at z4;split at z4
        ·rename_i s' G;have q:∀t,σ.has t=false->(κ.over []).ff t=false->a3.tmps[t]?=a'.tmps[t]?:=λt R T=>by
          rw[j.within hw t R T,d.pI t R T]
         obtain⟨Z,u2⟩:=O.pI (κ:=κ) u q G;obtain⟨t',W,i1,i2⟩:=z4;subst W;exact Ow (h2 (ih _ (by rw[<-hm];exact i2) t' a3 U rfl i1 Z u2 (f.trans z3)))
        ·exact z4.elim
     |normal=>exact oe u (x2.trans (d.trans j)) (x3.trans (f.trans z3)) z4
     |exit id=>exact oe u (x2.trans (d.trans j)) (x3.trans (f.trans z3)) z4
     |ret=>exact oe u (x2.trans (d.trans j)) (x3.trans (f.trans z3)) z4
     |panic ch=>exact oe u (x2.trans (d.trans j)) (x3.trans (f.trans z3)) z4
     |outgrown=>exact oe u (x2.trans (d.trans j)) (x3.trans (f.trans z3)) z4
   exact x _ t0 a' w' rfl X g.1 g.2 (dG.refl _)
  ·exact F.elim
 ·obtain⟨ρ1,L,M,z,H⟩:=y;exact oe L M z H
theorem ade(X:C.Ok)(o:FM C n rec):FM C n (Ou C n rec):=by
 intro c Y Q ρ a w j h;have q:∀{σ:dY} {κ:dz} {K:σ.den->Heap->Prop} {e:Exit} {a':Act} {w':World},Out n (IB σ κ ρ K Q) ρ a w e a' w'->(∀s h,K s h->Q .normal (σ.vals s (κ.over ρ)) h)->Out n Q ρ a w e a' w':=by
  intro σ κ K e a' w' g O;obtain⟨ρ',f,x2,x3,d⟩:=g;cases e with
  |normal=>
   simp only[IB]at d;cases hw:within σ κ ρ' (ρ'.length-ρ.length)with
   |false=>rw[hw]at d;exact d.elim
   |true=>
    rw[hw]at d;simp only[cond_true]at d;split at d
    ·rename_i s Z;obtain⟨H,G⟩:=j.pI (κ:=κ) f (x2.within hw) Z;exact⟨_,H,G,x3,O _ _ d⟩
    ·exact d.elim
  |exit id=>exact⟨ρ',f,x2,x3,d⟩
  |goto l=>exact⟨ρ',f,x2,x3,d⟩
  |ret=>exact⟨ρ',f,x2,x3,d⟩
  |panic ch=>exact⟨ρ',f,x2,x3,d⟩
  |outgrown=>exact⟨ρ',f,x2,x3,d⟩
 unfold Ou at h;split at h
 ·rename_i σ κ x;obtain⟨K,hK,S⟩:=h;exact wp_mono (o c x _ ρ a w j S) λe a' w' g=>q g hK
 ·split at h
  ·exact wp_skip ⟨ρ,j,Ext.refl _ _,dG.refl _,h⟩
  ·exact wp_label ⟨ρ,j,Ext.refl _ _,dG.refl _,h⟩
  ·exact wp_mono (Oq X j h) λe a' w' g=>g.2
  ·rename_i x y;refine wp_seq (wp_mono (o x _ _ ρ a w j h) λe a' w' g=>g.then (λρ' f x2 x3 d=>?_) λg _=>g);exact wp_mono (o y _ _ ρ' a' w' f d) λe T N g=>g.base x2 x3
  ·rename_i x y z;split at h
   ·rename_i t ht;refine wp_cond_split (j.eval ht) (λe=>?_) (λe=>?_)
    ·subst e;exact o y _ _ ρ a w j h
    ·subst e;exact o z _ _ ρ a w j h
   ·exact h.elim
  ·rename_i id x;refine wp_block (wp_mono (o x _ _ ρ a w j h) λe a' w' g=>?_);obtain⟨ρ',f,x2,x3,d⟩:=g;cases e with
   |exit i=>
    simp only[Exit.inBlock];simp only[WS]at d;cases hb:wM i id with
    |true=>
     rw[hb]at d;rw[if_pos (zO hb)];exact⟨ρ',f,x2,x3,d⟩
    |false=>
     rw[hb]at d;rw[if_neg λe=>by subst e;simp at hb];exact⟨ρ',f,x2,x3,d⟩
   |normal=>exact⟨ρ',f,x2,x3,d⟩
   |goto l=>exact⟨ρ',f,x2,x3,d⟩
   |ret=>exact⟨ρ',f,x2,x3,d⟩
   |panic ch=>exact⟨ρ',f,x2,x3,d⟩
   |outgrown=>exact⟨ρ',f,x2,x3,d⟩
  ·exact wp_exit ⟨ρ,j,Ext.refl _ _,dG.refl _,h⟩
  ·exact wp_goto ⟨ρ,j,Ext.refl _ _,dG.refl _,h⟩
  ·exact wp_ret ⟨ρ,j,Ext.refl _ _,dG.refl _,h⟩
  ·rename_i x;split at h
   ·rename_i σ κ y _;split at h
    ·rename_i s0 F;obtain⟨τ,V,I,μ,t0,W,R,u⟩:=h;subst W;have m:=LQ (κ:=κ) j F;refine WR (σ:=τ) (λt D B=>Fits n D (σ.vals (V t) (κ.over ρ))/\Ext ρ (σ.vals (V t) (κ.over ρ)) a D/\dG w B/\I t B.heap) (λt _=>μ t) t0 ⟨m.1,m.2,dG.refl _,R⟩ ?_;rintro t D B ⟨E,v,z3,z4⟩;refine wp_mono (o x y _ _ D B E (u t _ z4)) λe a2 w2 g=>?_;obtain⟨ρ',f,x2,x3,d⟩:=g;cases e with
     |normal=>
      simp only[IB]at d;cases hw:within σ κ ρ' (ρ'.length-(σ.vals (V t) (κ.over ρ)).length)with
      |false=>rw[hw]at d;exact d.elim
      |true=>
       rw[hw]at d;simp only[cond_true]at d;split at d
       ·rename_i s' J;have A:∀t,σ.has t=false->(κ.over []).ff t=false->a2.tmps[t]?=a.tmps[t]?:=λt L M=>by
         rw[x2.within hw t L M,v.pI t L M]
        obtain⟨H,G⟩:=j.pI (κ:=κ) f A J;obtain⟨U,P,i1,i2⟩:=d;subst P;exact⟨U,⟨H,G,z3.trans x3,i1⟩,i2⟩
       ·exact d.elim
     |exit id=>exact⟨ρ',f,v.trans x2,z3.trans x3,d⟩
     |goto l=>exact⟨ρ',f,v.trans x2,z3.trans x3,d⟩
     |ret=>exact⟨ρ',f,v.trans x2,z3.trans x3,d⟩
     |panic ch=>exact⟨ρ',f,v.trans x2,z3.trans x3,d⟩
     |outgrown=>exact⟨ρ',f,v.trans x2,z3.trans x3,d⟩
    ·exact h.elim
   ·exact h.elim
  ·rename_i x;split at h
   ·split at h
    ·rename_i p r hc;exact RI o hc j h
    ·exact h.elim
   ·refine CZ λb k cs=>wp_mono (o x _ _ ρ a w j h) λe a' w' g=>?_;obtain⟨ρ',f,x2,x3,d⟩:=g;exact BG o (ρ:=ρ) (a0:=a) (w0:=w) (λe ρ3 a3 w3 E v z3 z4=>oe E v z3 z4) 4 e ρ' a' w' f x2 x3 d
   ·exact h.elim
  ·exact h.elim
theorem Ox(a:C.Ok):∀f,FM C n (vc C n f)
 |0=>λ_ _ _ _ _ _ _ h=>h.elim
 |f+1=>ade a (Ox a f)
end
def DG(C:Ctx)(ρ:Env):List ResultVar->(List Value->Prop)->Heap->Prop
 |[],K,_=>K []
 | .tmp t::r,K,h=>match ρ.get t with
  |some v=>DG C ρ r (λvs=>K (v::vs)) h
  |none=>False
 | .cell a t::r,K,h=>match tH C.T (.load t (.tmp a)) ρ.eval with
  |some q=>∃y:q.ty.den,q.holds h y/\DG C ρ r (λvs=>K (q.ty.enc y::vs)) h
  |none=>False
def DH:List Value->Value
 |[v]=>v
 |vs=>.tuple vs.toArray
def ago(C:Ctx)(rs:List ResultVar)(R:Value->Heap->Prop):QT
 | .normal,ρ,h=>DG C ρ rs (λvs=>R (DH vs) h) h
 | .ret,ρ,h=>DG C ρ rs (λvs=>R (DH vs) h) h
 |_,_,_=>False
def DI:Nat->List Value->Env
 |_,[]=>[]
 |n,v::r=>.val n v::DI (n+1) r
def fnV(C:Ctx)(b:Func)(a:Nat)(d:ai)(args:List Value)(R:Value->Heap->Prop)(h:Heap):Prop:=
 match b.body with
 |some c=>vc C b.ntmps a c d (ago C b.results.toList R) (DI 0 args) h
 |none=>False
theorem IC:∀{args:List Value} {n t:Nat} {v:Value},(DI n args).get t=some v->n<=t/\args[t-n]?=some v
 |[],_,_,_,h=>by cases h
 |u::r,n,t,v,h=>by
  simp only[DI,Env.get]at h;cases hb:wM n t with
  |true=>
   rw[hb]at h;have:=zO hb;subst this;simpa using h
  |false=>
   rw[hb]at h;obtain⟨c,b⟩:=IC (args:=r) h;refine⟨by omega,?_⟩;obtain⟨k,a⟩:∃k,t-n=k+1:=⟨t-(n+1),by omega⟩
   rw[a,List.getElem?_cons_succ];have:t-(n+1)=k:=by omega
   rw[<-this];exact b
theorem aab{C:AO}(h:C.Ok){ev:Operand->Option Value}{e:Operand->Value}(g:∀x v,ev x=some v->e x=v){t:TypeId}{x:Operand}{q:vP}
  (f:tH C.T (.load t x) ev=some q) {y:q.ty.den} {w:World} (d:q.holds w.heap y):(xf t (e x)).run C.P w=.ok (q.ty.enc y) w:=by
 have c:(do pure (Next.value (<-xf t (e x))):Sem Next).run C.P w=.ok (.value (q.ty.enc y)) w:=BD h g (o:=⟨none,.load t x,0, "",#[],none⟩) f d;rw[Sem.run_bind]at c;cases hr:(xf t (e x)).run C.P w with
 |halt a b=>rw[hr]at c;cases c
 |ok v w'=>
  rw[hr]at c;simp only[Result.andThen_ok]at c;cases c;rfl
theorem DJ{C:Ctx}(i:C.Ok){n:Nat}{a:Act}{ρ:Env}(d:Fits n a ρ):∀{rs:List ResultVar} {K:List Value->Prop} {w:World},DG C ρ rs K w.heap->
  ∃vs,(rs.mapM (λ| .tmp t=>pure (a.tmps.getD t undef)| .cell x t=>(do loadVar t (<-asAddr (a.tmps.getD x undef)):Sem Value)):Sem (List Value)).run C.P w=.ok vs w/\K vs
 |[],K,w,h=>⟨[],rfl,h⟩
 | .tmp t::r,K,w,h=>by
  simp only[DG]at h;split at h
  ·rename_i v p;obtain⟨vs,l,g⟩:=DJ i d h;refine⟨v::vs,?_,g⟩;have j:a.tmps.getD t undef=v:=by simp[Array.getD_eq_getD_getElem?,d.get t v p]
   rw[List.mapM_cons,Sem.run_bind,Sem.run_pure,Result.andThen_ok,Sem.run_bind,l,j];rfl
  ·exact h.elim
 | .cell x t::r,K,w,h=>by
  simp only[DG]at h;split at h
  ·rename_i q f;obtain⟨y,o,h⟩:=h;obtain⟨vs,l,g⟩:=DJ i d h;refine⟨q.ty.enc y::vs,?_,g⟩;have m:=aab i.toOk (e:=a.eval) (λx v h=>d.eval h) f o;have s:∃c,a.eval (.tmp x)=.pointer (some c):=by
    unfold tH at f;simp only at f;split at f
    ·rename_i c b;exact⟨c,d.eval b⟩
    ·cases f
   obtain⟨c,b⟩:=s;have j:a.tmps.getD x undef=.pointer (some c):=b;rw[b]at m;rw[List.mapM_cons,Sem.run_bind];simp only[j];have k:(do loadVar t (<-asAddr (.pointer (some c))):Sem Value).run C.P w=.ok (q.ty.enc y) w:=m;rw[k,Result.andThen_ok,Sem.run_bind,l];rfl
  ·exact h.elim
theorem adf{C:Ctx}(l:C.Ok){f:FuncId}{b:Func}(s:C.P.funcs[f]?=some b){a:Nat}{i:ai}{args:List Value}(z:args.length<=b.ntmps){R:Value->Heap->Prop}{h:Heap}
  (j:fnV C b a i args R h):aq C.P f args.toArray h R:=by
 rintro w rfl;unfold fnV at j;split at j
 ·rename_i c u;refine calls_of_wp s u ?_;have d:Fits b.ntmps {tmps:=args.toArray++vE (b.ntmps-args.toArray.size) undef,defers:=[]} (DI 0 args):=by refine⟨by simp;omega,rfl,λt v x=>?_⟩;obtain⟨_,g⟩:=IC x;rw[Nat.sub_zero]at g;have k:t<args.length:=(qn.1 g).1;simp only[Array.getElem?_append,List.size_toArray,k,if_true,List.getElem?_toArray];exact g
  refine wp_mono (Ox l a c i _ _ _ w d j) λe a' w' p=>?_;obtain⟨ρ',n,x2,x3,o⟩:=p;have fin:DG C ρ' b.results.toList (λvs=>R (DH vs) w'.heap) w'.heap->a'.defers=[]/\∃v,(results b a'.tmps).run C.P w'=.ok v w'/\(∃m,Ending.returned v=.returned m/\dG w w'/\R m w'.heap):=λq=>by
   obtain⟨vs,y,g⟩:=DJ l n q;refine⟨n.defers,DH vs,?_,DH vs,rfl,x3,g⟩;unfold results;rw[vw,map_eq_pure_bind,bind_assoc,Sem.run_bind];refine(congrArg (λr=>Result.andThen r _) y).trans ?_;simp only[Result.andThen_ok,pure_bind,Sem.run_pure];cases vs with
   |nil=>rfl
   |cons v r=>cases r<;>rfl
  cases e<;>first|exact fin o|exact o.elim
 ·exact j.elim
theorem aer{C:Ctx}(i:C.Ok){f:FuncId}{a:Func}(c:C.P.funcs[f]?=some a)(b:ai){args:List Value}{R:Value->Heap->Prop}{h:Heap}{Q:Prop}(d:Q)
  (g:xi args.length a.ntmps=true:=by kernel_rfl) (e:fnV C a 300 b args R h=Q:=by kernel_rfl):aq C.P f args.toArray h R:=adf i c (zN g) (cast e.symm d)
def bV(P:Program)(s:Sem Value)(r:Rt)(h:Heap)(K:r.den->Heap->Prop):Prop:=az P s h λv h'=>∃x:r.den,v=r.enc x/\K x h'
def rq(P:Program)(s:Sem Value)(h:Heap)(K:Addr->Heap->Prop):Prop:=az P s h λv h'=>∃a:Addr,v=.pointer (some a)/\K a h'
def ru(P:Program)(f:FuncId)(args:Array Value)(r:Rt)(h:Heap)(K:r.den->Heap->Prop):Prop:=aq P f args h λv h'=>∃x:r.den,v=r.enc x/\K x h'
def iH(C:Ctx)(g:FuncId)(args:List Value)(r:Rt)(h:Heap)(K:r.den->Heap->Prop):Prop:=
 match C.fns[g]? with
 |some true=>ru C.P g args.toArray r h K
 |_=>False
theorem fo{C:Ctx}{g:FuncId}{args:List Value}{r:Rt}{h:Heap}{K:r.den->Heap->Prop}(a:C.fns[g]?=some true)(b:ru C.P g args.toArray r h K):iH C g args r h K:=by unfold iH;rw[a];exact b
end Go.Vc
abbrev cI:=List (List UInt8)
abbrev aV:=List UInt8
abbrev bP:=List (List Int)
abbrev aw:=List Int
abbrev bm:=Option Go.Addr
abbrev ba:=List Go.Value
abbrev DL:=Go.Value->Go.Vc.Heap->Prop
abbrev gQ:=Go.FuncId×Array Go.Value×Array Go.Value
abbrev Go.Vc.ai.tn(a:Go.Vc.ai):Go.Vc.ai:=.two .n a
universe u
theorem f9{c:Prop}{h:Decidable c}(hc:c){α:Sort u}{t e:α}:ite c t e=t:=if_pos hc
theorem g0{c:Prop}{h:Decidable c}(hnc:¬c){α:Sort u}{t e:α}:ite c t e=e:=if_neg hnc
theorem g9{p:Prop}[inst:Decidable p]:p->decide p=true:=decide_eq_true
theorem hU{p:Prop}[inst:Decidable p]:¬p->decide p=false:=decide_eq_false
theorem hZ{p:Prop}[inst:Decidable p]:decide p=true->p:=of_decide_eq_true
theorem i0{α:Sort u}{a:α}:a=a:=rfl
theorem i4{p:Prop}(h:p:=by omega):p:=h
theorem i5{p:Prop}(h:p:=by decide):p:=h
theorem i6{p:Prop}(h:p:=by dsimp only;omega):p:=h
theorem i7{p:Prop}(h:p:=by simp;omega):p:=h
theorem i9{p:Prop}(h:p:=by simp):p:=h
theorem jj{p:Prop}(h:p:=by dsimp only;rw[af _];rfl):p:=h
theorem js{p:Prop}(h:p:=by rw[af _];rfl):p:=h
theorem j0{p:Prop}(h:p:=by cases e):p:=h
theorem j1{p:Prop}(h:p:=by kernel_rfl):p:=h
theorem j3{p:Prop}(h:p:=by rw[af _];omega):p:=h
theorem j4{p:Prop}(h:p:=by decide+kernel):p:=h
theorem j5{p:Prop}(h:p:=by simpa using h):p:=h
theorem j6{p:Prop}(h:p:=by simpa using b):p:=h
theorem j7{p:Prop}(h:p:=by simp[Value.cells]):p:=h
theorem j8{p:Prop}(h:p:=by cases h):p:=h
theorem j9{p:Prop}(h:p:=by simpa using a):p:=h
theorem k7{p:Prop}(h:p:=by simp[aJ]):p:=h
theorem k8{p:Prop}(h:p:=by rw[bZ];omega):p:=h
theorem k9{p:Prop}(h:p:=by rw[addr_add];exact hb.cell i0):p:=h
theorem lb{p:Prop}(h:p:=by simpa using H):p:=h
theorem ld{p:Prop}(h:p:=by rfl):p:=h
theorem ln{p:Prop}(h:p:=by simp[fz]):p:=h
theorem lz{p:Prop}(h:p:=by dsimp only;simp;omega):p:=h
theorem l0{p:Prop}(h:p:=by simp[bW];omega):p:=h
theorem l4{p:Prop}(h:p:=by simp[b]):p:=h
theorem l5{p:Prop}(h:p:=by rw[zi];omega):p:=h
theorem l6{p:Prop}(h:p:=by simpa using n):p:=h
theorem l7{p:Prop}(h:p:=by simpa using e):p:=h
theorem l9{p:Prop}(h:p:=by simp[cG];omega):p:=h
theorem mn{p:Prop}(h:p:=by simp[g]):p:=h
theorem m4{p:Prop}(h:p:=by simpa using g):p:=h
theorem m5{p:Prop}(h:p:=by rw[K];decide):p:=h
theorem m6{p:Prop}(h:p:=by simp[dJ];omega):p:=h
theorem m7{p:Prop}(h:p:=by simp[dI];omega):p:=h
theorem m8{p:Prop}(h:p:=by simp at d;omega):p:=h
theorem m9{p:Prop}(h:p:=by simp at h):p:=h
theorem nb{p:Prop}(h:p:=by unfold iS;rw[o.refl];rfl):p:=h
theorem nq{p:Prop}(h:p:=by rw[<-w];exact s.cell0 i0):p:=h
theorem ns{p:Prop}(h:p:=by simp[gC]):p:=h
theorem n3{p:Prop}(h:p:=by simpa using e2):p:=h
theorem n4{p:Prop}(h:p:=by rw[rS d];omega):p:=h
theorem n5{p:Prop}(h:p:=by rw[qi (qm _)]):p:=h
theorem n7{p:Prop}(h:p:=by rw[e1];decide):p:=h
theorem n8{p:Prop}(h:p:=by unfold fm;simp;omega):p:=h
theorem n9{p:Prop}(h:p:=by simpa using c):p:=h
theorem oi{p:Prop}(h:p:=by simp[a]):p:=h
theorem oj{p:Prop}(h:p:=by rw[qx];omega):p:=h
theorem o0{p:Prop}(h:p:=by assumption):p:=h
theorem o1{p:Prop}(h:p:=by rw[e];rfl):p:=h
theorem o4{p:Prop}(h:p:=by rw[e,ha,hb];decide):p:=h
theorem o5{p:Prop}(h:p:=by rw[m]):p:=h
theorem o6{p:Prop}(h:p:=by rw[hU b];rfl):p:=h
theorem o7{p:Prop}(h:p:=by simpa using p):p:=h
theorem o8{p:Prop}(h:p:=by simpa using d):p:=h
theorem o9{p:Prop}(h:p:=by rw[wrap_u64];omega):p:=h
theorem pa{p:Prop}(h:p:=by simpa using f):p:=h
theorem pb{p:Prop}(h:p:=by simp[cG]):p:=h
theorem pt{p:Prop}(h:p:=by rw[qU];omega):p:=h
theorem p0{p:Prop}(h:p:=by simp[f]):p:=h
theorem p5{p:Prop}(h:p:=by rw[t];rfl):p:=h
theorem p6{p:Prop}(h:p:=by simp at f;omega):p:=h
theorem p7{p:Prop}(h:p:=by simp[c]):p:=h
theorem p8{p:Prop}(h:p:=by simp[iv];omega):p:=h
theorem p9{p:Prop}(h:p:=by simp[fE];omega):p:=h
theorem qa{p:Prop}(h:p:=by rw[F.wl];omega):p:=h
theorem qb{p:Prop}(h:p:=by simp[d]):p:=h
theorem qs{p:Prop}(h:p:=by rw[L];exact p):p:=h
theorem q0{p:Prop}(h:p:=by rw[r]):p:=h
theorem q6{p:Prop}(h:p:=by simp[e]):p:=h
theorem rb{p:Prop}(h:p:=by simpa using q):p:=h
theorem sb{p:Prop}(h:p:=by simpa using t):p:=h
theorem sp{p:Prop}(h:p:=by rw[lL];omega):p:=h
theorem sz{p:Prop}(h:p:=by rw[gW];omega):p:=h
theorem sR{p:Prop}(h:p:=by rw[Z]):p:=h
theorem tg{p:Prop}(h:p:=by simp[h]):p:=h
abbrev qm:=@Nat.le_refl
abbrev qC:=@Bool.and_eq_true
abbrev zn:=@Bool.false_eq_true
abbrev wu:=@Bool.or_eq_true
abbrev zB:=@List.cons_append
abbrev qn:=@List.getElem?_eq_some_iff
abbrev qR:=@List.getElem?_map
abbrev zh:=@List.length_cons
abbrev q8:=@List.mem_cons
abbrev qD:=@List.mem_cons_of_mem
abbrev qI:=@List.mem_cons_self
abbrev qB:=@List.mem_singleton
abbrev q9:=@Option.map_some
abbrev w5:=@Nat.add_assoc
abbrev zx:=@Nat.add_sub_cancel_left
abbrev wJ:=@Nat.add_zero
abbrev zd:=@Nat.le_trans
abbrev qY:=@Nat.lt_of_lt_of_le
abbrev zy:=@Nat.lt_succ_iff_lt_or_eq
abbrev vm:=@Nat.mod_lt
abbrev wb:=@Nat.mul_le_mul
abbrev za:=@Nat.mul_le_mul_right
abbrev ze:=@Nat.sub_self
abbrev zH:=@Nat.succ_mul
abbrev wh:=@Nat.zero_add
abbrev yN:=@Array.ext_getElem?
abbrev q7:=@List.all_eq_true
abbrev qp:=@List.append_assoc
abbrev qM:=@List.append_nil
abbrev zJ:=@List.drop_drop
abbrev qQ:=@List.drop_eq_getElem_cons
abbrev zk:=@List.drop_of_length_le
abbrev zc:=@List.eq_nil_of_length_eq_zero
abbrev wB:=@List.ext_getElem
abbrev zI:=@List.ext_getElem?
abbrev zq:=@List.filter_append
abbrev zr:=@List.filter_cons
abbrev wX:=@List.filter_eq_nil_iff
abbrev yu:=@List.find?_eq_none
abbrev zg:=@List.flatMap_append
abbrev zf:=@List.flatMap_cons
abbrev zQ:=@List.foldl_append
abbrev zE:=@List.foldl_cons
abbrev wv:=@List.foldl_nil
abbrev qe:=@List.getD_eq_getElem?_getD
abbrev qo:=@List.getElem?_append_left
abbrev qj:=@List.getElem?_append_right
abbrev qy:=@List.getElem?_cons_succ
abbrev wO:=@List.getElem?_drop
abbrev qd:=@List.getElem?_eq_getElem
abbrev qP:=@List.getElem?_eq_none
abbrev zb:=@List.getElem?_set
abbrev zC:=@List.getElem?_set_ne
abbrev zj:=@List.getElem?_set_self
abbrev zX:=@List.getElem?_toArray
abbrev wg:=@List.getElem?_zipWith
abbrev wm:=@List.getElem_drop
abbrev qg:=@List.getElem_mem
abbrev qL:=@List.getElem_of_mem
abbrev qw:=@List.length_append
abbrev zi:=@List.length_drop
abbrev qx:=@List.length_map
abbrev w4:=@List.length_mergeSort
abbrev zF:=@List.length_range
abbrev zl:=@List.length_set
abbrev qU:=@List.length_take
abbrev qA:=@List.mem_append
abbrev qH:=@List.mem_filter
abbrev zS:=@List.mem_flatMap
abbrev qu:=@List.mem_map
abbrev zD:=@List.mem_of_mem_take
abbrev zU:=@List.mem_or_eq_of_mem_set
abbrev qJ:=@List.mem_range
abbrev ym:=@List.mergeSort_perm
abbrev wx:=@List.nil_append
abbrev yc:=@List.pairwise_append
abbrev zG:=@List.pairwise_cons
abbrev zu:=@List.pairwise_iff_getElem
abbrev yX:=@List.range_eq_range'
abbrev zT:=@List.range_succ
abbrev yz:=@List.set_set
abbrev yh:=@List.size_toArray
abbrev qF:=@List.take_append_drop
abbrev vN:=@List.take_left
abbrev qV:=@List.take_length
abbrev qi:=@List.take_of_length_le
abbrev zM:=@List.take_succ_eq_append_getElem
abbrev yH:=@List.zipWith_append
abbrev yg:=@Bool.not_false
abbrev wA:=@Bool.true_and
abbrev wP:=@Int.emod_lt_of_pos
abbrev yn:=@Int.emod_nonneg
abbrev vG:=@Int.tmod_lt_of_pos
abbrev ql:=@Int.toNat_natCast
abbrev wT:=@UInt8.toNat_inj
abbrev zV:=@UInt8.xor_zero
abbrev wy:=@UInt8.zero_xor
abbrev yb:=@BitVec.ofInt_natCast
abbrev wL:=@List.any_eq_false
abbrev wk:=@List.any_eq_true
abbrev zZ:=@List.filter_eq_self
abbrev wY:=@List.findIdx_lt_length
abbrev w7:=@List.getElem_append_left
abbrev qT:=@List.length_filter_le
abbrev w9:=@List.map_map
abbrev zp:=@List.mem_append_left
abbrev ya:=@List.mem_replicate
abbrev wU:=@List.nodup_cons
abbrev vu:=@Nat.mul_comm
abbrev wZ:=@Bool.not_eq_true'
abbrev yf:=@Bool.not_true
abbrev vq:=@UInt8.xor_comm
abbrev yC:=@Int.mul_le_mul
abbrev vQ:=@Int.mul_nonneg
abbrev wV:=@Int.natCast_mul
abbrev vS:=@Int.ofNat_lt
abbrev yQ:=@Int.tmod_eq_emod_of_nonneg
abbrev wi:=@Nat.mod_eq_of_lt
abbrev z8:=@Nat.mul_one
abbrev zo:=@Nat.zero_le
abbrev vj:=@List.all_append
abbrev yU:=@List.any_append
abbrev vi:=@List.filter_nil
abbrev z7:=@List.flatMap_nil
abbrev zt:=@List.getElem?_range
abbrev wj:=@List.getElem?_replicate
abbrev yk:=@List.getElem_take
abbrev ve:=@List.getElem_zip
abbrev yV:=@List.length_nil
abbrev qS:=@List.map_append
abbrev wE:=@List.map_congr_left
abbrev vK:=@List.map_mergeSort
abbrev yO:=@List.mem_mergeSort
abbrev yl:=@List.replicate_succ
abbrev qX:=@List.set_append_right
abbrev zA:=@List.set_cons_succ
abbrev zw:=@List.set_cons_zero
abbrev wq:=@List.take_append_of_le_length
abbrev wQ:=@BitVec.toNat_ofNat
abbrev vB:=@Bool.false_or
abbrev y6:=@Prod.ext
abbrev wc:=@Int.natCast_nonneg
abbrev y7:=@Int.ofNat_le
abbrev wC:=@List.getElem_map
abbrev zK:=@List.map_cons
abbrev vR:=@List.map_nil
abbrev y0:=@List.pairwise_map
abbrev z6:=@List.getElem_append_right
abbrev yq:=@List.getElem_set_self
abbrev yR:=@List.mem_iff_getElem?
abbrev yw:=@List.mem_flatten
abbrev xk:=@Int.le_refl
