/- Lemmas for the proof of the law; no condition. -/
import Derived.Calls
import Derived.Orders
import Derived.Scope
import Derived.KernelRfl
import Derived.Laws.Sem
import Derived.OrdersHeld
set_option linter.unusedVariables false
set_option linter.unusedSimpArgs false
open Nat renaming beq -> wQ, ble -> xC, blt -> xj, eq_of_beq_eq_true -> zM, le_of_ble_eq_true -> zL, le_refl -> qn
open Bool renaming and_eq_true -> qB, false_eq_true -> ze, or_eq_false_iff -> yx, or_eq_true -> wV, or_false -> xk
open List renaming cons_append -> zt, getElem?_eq_some_iff -> qo, getElem?_map -> qR, length_cons -> zo, mem_append_right -> wM, mem_cons -> zd, mem_cons_of_mem -> qS, mem_cons_self -> zb, mem_singleton -> qC
open BitVec renaming ofInt -> qD
open Go.IntKind renaming i64 -> xN
open Go.Instr renaming build -> xn, fill -> wL, loadAt -> xu, mapUpdate -> vk, slice -> xo, sliceAt -> wW, sliceBound -> vw, sliceBounds -> we
open Option renaming map -> xG, map_eq_some_iff -> vi, map_some -> qQ, some -> zS
open Array renaming ext' -> yC, getElem?_toList -> yP, mapM_eq_mapM_toList -> vy, replicate -> vF, toList_map -> xf
namespace Go.Vc
open Go
abbrev Heap:=Array Obj
def cellOf(h:Heap)(a:Addr):Option Value:=
 match h[a.block]? with
 |some (.cells c _ _)=>if a.spot.isSome then none else c[a.off]?
 |_=>none
def Xv(h:Heap)(a:Addr):Bool:=
 match h[a.block]? with
 |some (.cells _ _ (lo,hi))=>lo<=a.off&&a.off<hi
 |_=>false
def Gh(h:Heap)(a:Addr)(v:Value):Heap:=
 h.modify a.block λ
  | .cells c elem frozen=>.cells (if a.spot.isSome then c else c.setIfInBounds a.off v) elem frozen
  |o=>o
def shapeOf(h:Heap)(r:Nat):Option (TypeId×Nat):=match h[r]? with|some (.cells c elem _)=>some (elem,c.size)|_=>none
theorem acs(w:World)(r:Nat):w.shape? r=shapeOf w.heap r:=rfl
theorem NU(w:World)(a:Addr):w.cell? a=cellOf w.heap a:=rfl
theorem afn(w:World)(a:Addr):w.frozen? a=Xv w.heap a:=rfl
theorem afo(w:World)(a:Addr)(v:Value):(w.setCell a v).heap=Gh w.heap a v:=rfl
structure cY (w w':World):Prop where
 os:w'.os=w.os
 tape:w'.tape=w.tape
 output:w'.output=w.output
 drawn:w.drawn<=w'.drawn
theorem cY.refl(w:World):cY w w:=⟨rfl,rfl,rfl,qn _⟩
theorem cY.trans{a b c:World}(h:cY a b)(k:cY b c):cY a c:=⟨k.os.trans h.os,k.tape.trans h.tape,k.output.trans h.output,Nat.le_trans h.drawn k.drawn⟩
def ac(P:Program)(f:FuncId)(args:Array Value)(h:Heap)(R:Value->Heap->Prop):Prop:=
 ∀w,w.heap=h->Calls P f args w λe w'=>∃v,e=.returned v/\cY w w'/\R v w'.heap
theorem ac.mono{P:Program}{f:FuncId}{args:Array Value}{h:Heap}{R a:Value->Heap->Prop}(e:ac P f args h R)
  (c:∀v h',R v h'->a v h'):ac P f args h a:=λw b=>
 (e w b).mono λ_ _ ⟨v,d,g,r⟩=>⟨v,d,g,c _ _ r⟩
def ag{α:Type}(P:Program)(s:Sem α)(h:Heap)(K:α->Heap->Prop):Prop:=
 ∀w,w.heap=h->∃v w',s.run P w=.ok v w'/\cY w w'/\K v w'.heap
section
variable {α β:Type} {P:Program} {h:Heap}
theorem ag.pure'{K:α->Heap->Prop}{a:α}(c:K a h):ag P (Pure.pure a) h K:=λw b=>⟨a,w,rfl,cY.refl w,by rw[b];exact c⟩
theorem ag.bind{s:Sem α}{f:α->Sem β}{K:β->Heap->Prop}(k:ag P s h λv h'=>ag P (f v) h' K):ag P (s>>=f) h K:=by intro w e;obtain⟨v,w',g,l,i⟩:=k w e;obtain⟨j,b,a,c,d⟩:=i w' rfl;exact⟨j,b,by rw[Sem.run_bind,g];exact a,l.trans c,d⟩
theorem ag.mono{s:Sem α}{K d:α->Heap->Prop}(g:ag P s h K)(f:∀v h',K v h'->d v h'):ag P s h d:=λw e=>
 let⟨v,w',a,b,c⟩:=g w e;⟨v,w',a,b,f _ _ c⟩
theorem ag.act{K:Program->Heap->Prop}(b:K P h):ag P program h K:=λw a=>⟨P,w,rfl,cY.refl w,by rw[a];exact b⟩
theorem ag.agC{a:Addr}{v v0:Value}{m:Mode}{K:Unit->Heap->Prop}(c:v.oneCell'=true)(e:cellOf h a=some v0)(d:Xv h a=false)(f:K () (Gh h a v)):
  ag P (store a v m) h K:=λw b=>
 ⟨(),w.setCell a v,by rw[run_store _ _ _ _ _ c,NU,b,e];simp[afn,b,d],⟨rfl,rfl,rfl,qn _⟩,by rw[afo,b];exact f⟩
theorem ag.rQ{o:Obj}{K:Nat->Heap->Prop}(b:K h.size (h.push o)):ag P (newObj o) h K:=λw a=>
 ⟨w.heap.size,_,run_newObj P w o,⟨rfl,rfl,rfl,qn _⟩,by simp only[a];exact b⟩
theorem ag.Km{n:Nat}{K:Unit->Heap->Prop}(b:K () h):ag P (askRoom n) h K:=λw a=>⟨(),w,run_askRoom P w n,cY.refl w,by rw[a];exact b⟩
theorem ag.NV{q:Question}{K:Nat->Heap->Prop}(b:(q.forced=true->K 0 h)/\(q.forced=false->∀n,K (q.cut n) h)):ag P (choose q) h K:=by
 intro w a;cases hq:q.forced with
 |true=>exact⟨0,w,by rw[run_choose,hq];rfl,cY.refl w,by rw[a];exact b.1 hq⟩
 |false=>exact⟨q.cut (w.tape w.drawn q),{w with drawn:=w.drawn+1},by rw[run_choose,hq];rfl,⟨rfl,rfl,rfl,Nat.le_succ _⟩,by show K _ w.heap;rw[a];exact b.2 hq _⟩
theorem ag.II{r:Nat}{o:Obj}{K:Obj->Heap->Prop}(b:h[r]?=some o)(g:∀c e f,o≠.cells c e f)(d:K o h):ag P (getObj r) h K:=λw a=>by
 refine⟨o,w,?_,cY.refl w,by rw[a];exact d⟩;simp only[getObj,Sem.run,a,b]
theorem ag.IJ{r:Nat}{o a:Obj}{K:Unit->Heap->Prop}(d:h[r]?=some o)(i:∀c e f,o≠.cells c e f)(g:K () (h.setIfInBounds r a)):ag P (setObj r a) h K:=λw b=>by
 refine⟨(),{w with heap:=w.heap.setIfInBounds r a},?_,⟨rfl,rfl,rfl,qn _⟩,by show K () (w.heap.setIfInBounds r a);rw[b];exact g⟩;simp only[setObj,Sem.run,b,d]
theorem ag.agD{r:Nat}{K:Option (TypeId×Nat)->Heap->Prop}(b:K (shapeOf h r) h):ag P (shape r) h K:=λw a=>
 ⟨_,w,run_shape P w r,cY.refl w,by rw[a,acs,a];exact b⟩
end
def CK(P:Program)(s:Sem Next)(h:Heap)(K:Value->Heap->Prop):Prop:=
 ag P s h λa h'=>match a with
  | .value v=>K v h'
  | .skip=>K undef h'
  | .enter f args=>ac P f args h' K
  |_=>False
theorem aij{P:Program}{o:Oper}{a:Act}{w:World}{K:Value->Heap->Prop}{Q:Exit->Act->World->Prop}
  (h:CK P (execOp a.eval o) w.heap K) {next:Act->World->Prop}
  (d:∀v w',cY w w'->K v w'.heap->next (a.put o.dst v) w'):o.wp P a w next Q:=by
 obtain⟨j,w',k,c,b⟩:=h w rfl;unfold Oper.wp;rw[k];cases j<;>simp only at b<;>simp only[Oper.upon]
 case value v=>exact d _ _ c b
 case skip=>exact d _ _ c b
 case enter f args=>
  refine(b w' rfl).mono ?_;rintro e i ⟨v,rfl,g,r⟩;exact d _ _ (c.trans g) r
structure Sl where
 ptr:Option Addr
 len:Nat
 cap:Nat
 deriving Inhabited
inductive Sc where
 |int (k:IntKind)|bool|str|ptr|slc|flt (k:FloatKind)|cpx (k:FloatKind)|mp|fn|any|adr
@[reducible] def Sc.den:Sc->Type
 | .int _=>Int
 | .bool=>Bool
 | .str=>ByteArray
 | .ptr=>Option Addr
 | .slc=>Sl
 | .flt _=>Nat
 | .cpx _=>Nat×Nat
 | .mp=>Option Nat
 | .fn=>FuncId×Array Value×Array Value
 | .any=>Value
 | .adr=>Addr
@[reducible] def Sc.enc:(s:Sc)->s.den->Value
 | .int k,n=>.int k n
 | .bool,x=>.bool x
 | .str,x=>.string x
 | .ptr,a=>.pointer a
 | .slc,x=>.slice x.ptr x.len x.cap
 | .flt k,n=>.float k n
 | .cpx k,x=>.complex k x.1 x.2
 | .mp,r=>.map r
 | .fn,x=>.func (.func x.1) x.2.1 x.2.2
 | .any,v=>v
 | .adr,a=>.pointer (some a)
def CL:IntKind->IntKind->Bool
 | .i8,.i8| .i16,.i16| .i32,.i32| .i64,.i64| .u8,.u8| .u16,.u16| .u32,.u32| .u64,.u64=>true
 |_,_=>false
theorem Jy:∀{a b:IntKind},CL a b=true->a=b:=by intro a b;cases a<;>cases b<;>simp[CL]
def Gi:FloatKind->FloatKind->Bool
 | .f32,.f32| .f64,.f64=>true
 |_,_=>false
theorem Gj:∀{a b:FloatKind},Gi a b=true->a=b:=by intro a b;cases a<;>cases b<;>simp[Gi]
def Sc.dec:(s:Sc)->Value->Option s.den
 | .int k,.int k' n=>bif CL k k' then some n else none
 | .bool,.bool x=>some x
 | .str,.string x=>some x
 | .ptr,.pointer a=>some a
 | .slc,.slice a l c=>some ⟨a,l,c⟩
 | .flt k,.float k' n=>bif Gi k k' then some n else none
 | .cpx k,.complex k' a b=>bif Gi k k' then some (a,b)else none
 | .mp,.map r=>some r
 | .fn,.func (.func g) f c=>some (g,f,c)
 | .any,v=>some v
 | .adr,.pointer (some a)=>some a
 |_,_=>none
theorem Sc.rR{s:Sc}{v:Value}{x:s.den}(h:s.dec v=some x):v=s.enc x:=by
 cases s<;>cases v<;>simp only[Sc.dec]at h<;>try(first|(cases h;done)|(cases h;rfl))
 case int.int k k' n=>
  cases hk:CL k k'<;>simp[hk]at h;have:=Jy hk;subst this;subst h;rfl
 case flt.float k k' n=>
  cases hk:Gi k k'<;>simp[hk]at h;have:=Gj hk;subst this;subst h;rfl
 case cpx.complex k k' a b=>
  cases hk:Gi k k'<;>simp[hk]at h;have:=Gj hk;subst this;subst h;rfl
 case fn.func g f c=>
  cases g<;>first|(cases h;done)|skip
  obtain⟨l⟩:=f;cases l<;>first|(cases h;done)|(cases h;rfl)
 case adr.pointer a=>
  cases a<;>first|(cases h;done)|(cases h;rfl)
@[reducible] def NW:List Sc->Type
 |[]=>Unit
 |[s]=>s.den
 |s::t::r=>s.den×NW (t::r)
@[reducible] def Cd:(l:List Sc)->NW l->List Value
 |[],_=>[]
 |[s],x=>[s.enc x]
 |s::t::r,x=>s.enc x.1::Cd (t::r) x.2
def Xw:(l:List Sc)->List Value->Option (NW l)
 |[],[]=>some ()
 |[s],[v]=>s.dec v
 |s::t::r,v::vs=>match s.dec v with
  |some x=>match Xw (t::r) vs with
   |some y=>some (x,y)
   |none=>none
  |none=>none
 |_,_=>none
theorem ZF:∀{l:List Sc} {vs:List Value} {x:NW l},Xw l vs=some x->vs=Cd l x:=by
 intro l vs
 fun_induction Xw l vs with
 |case1=>intro x _;rfl
 |case2 s v=>intro x h;simp only[Cd];rw[Sc.rR h]
 |case3 s t r v vs x hx y hy ih=>intro z h;cases h;simp only[Cd];rw[Sc.rR hx,ih hy]
 |case4=>intro x h;cases h
 |case5=>intro x h;cases h
 |case6=>intro x h;cases h
inductive Ty where
 |sc (s:Sc)
 |agg (l:List Sc)
 |arr (s:Sc)
@[reducible] def Ty.den:Ty->Type
 | .sc s=>s.den
 | .agg l=>NW l
 | .arr s=>List s.den
@[reducible] def Ty.enc:(t:Ty)->t.den->Value
 | .sc s,x=>s.enc x
 | .agg l,x=>.agg (Cd l x).toArray
 | .arr s,x=>.agg (x.map s.enc).toArray
def Ty.dec:(t:Ty)->Value->Option t.den
 | .sc s,v=>s.dec v
 | .agg l,.agg ⟨cs⟩=>Xw l cs
 |_,_=>none
theorem Ty.rR{t:Ty}{v:Value}{x:t.den}(h:t.dec v=some x):v=t.enc x:=by
 unfold Ty.dec at h;split at h
 ·exact Sc.rR h
 ·have:=ZF h;subst this;rfl
 ·cases h
@[reducible] def Xx:List Ty->Type
 |[]=>Unit
 |[s]=>s.den
 |s::t::r=>s.den×Xx (t::r)
@[reducible] def aes:(l:List Ty)->Xx l->List Value
 |[],_=>[]
 |[s],x=>[s.enc x]
 |s::t::r,x=>s.enc x.1::aes (t::r) x.2
inductive Rt where
 |one (t:Ty)
 |many (l:List Ty)
@[reducible] def Rt.den:Rt->Type
 | .one t=>t.den
 | .many l=>Xx l
@[reducible] def Rt.enc:(r:Rt)->r.den->Value
 | .one t,x=>t.enc x
 | .many l,x=>.tuple (aes l x).toArray
inductive cb where
 |val (t:Nat) (x:Value)
 |kil (lo hi:Nat)
abbrev Env:=List cb
def cb.eJ:cb->Nat->Bool
 | .val s _,t=>wQ s t
 | .kil lo hi,t=>xC lo t&&xj t hi
def Env.get:Env->Nat->Option Value
 |[],_=>none
 | .val s x::r,t=>bif wQ s t then some x else Env.get r t
 | .kil lo hi::r,t=>bif xC lo t&&xj t hi then none else Env.get r t
def Env.eJ:Env->Nat->Bool
 |[],_=>false
 |e::r,t=>e.eJ t||Env.eJ r t
theorem Env.acu(e:cb)(r:Env)(t:Nat)(h:e.eJ t=false):Env.get (e::r) t=Env.get r t:=by
 cases e<;>simp only[cb.eJ]at h<;>simp[Env.get,h]
theorem Env.get_append{δ ρ:Env}{t:Nat}(h:δ.eJ t=false):Env.get (δ++ρ) t=Env.get ρ t:=by
 induction δ with
 |nil=>rfl
 |cons e r ih=>
  simp only[Env.eJ,yx]at h;rw[zt,Env.acu _ _ _ h.1,ih h.2]
theorem Env.Ce{δ ρ:Env}{t:Nat}:Env.eJ (δ++ρ) t=(δ.eJ t||ρ.eJ t):=by
 induction δ with
 |nil=>simp[Env.eJ]
 |cons e r ih=>simp[Env.eJ,ih,Bool.or_assoc]
structure Fits (n:Nat) (a:Act) (ρ:Env):Prop where
 size:a.tmps.size=n
 defers:a.defers=[]
 get:∀t x,ρ.get t=some x->a.tmps[t]?=some x
def Ext(ρ b:Env)(a c:Act):Prop:=∃δ:Env,b=δ++ρ/\∀t,δ.eJ t=false->c.tmps[t]?=a.tmps[t]?
theorem Ext.refl(ρ:Env)(a:Act):Ext ρ ρ a a:=⟨[],rfl,λ_ _=>rfl⟩
theorem Ext.trans{ρ e c:Env}{a f b:Act}(h:Ext ρ e a f)(k:Ext e c f b):Ext ρ c a b:=by obtain⟨δ,rfl,h⟩:=h;obtain⟨g,rfl,k⟩:=k;refine⟨g++δ,by simp,λt d=>?_⟩;rw[Env.Ce,yx]at d;rw[k t d.1,h t d.2]
def Env.eval(ρ:Env):Operand->Option Value
 | .tmp t=>ρ.get t
 | .const v=>some v
 | .global g=>some (.pointer (some ⟨g,0,none⟩))
 | .func f=>some (.func (.func f) #[] #[])
theorem Fits.eval{n:Nat}{a:Act}{ρ:Env}(h:Fits n a ρ){x:Operand}{v:Value}(b:ρ.eval x=some v):a.eval x=v:=by
 cases x<;>simp only[Env.eval]at b<;>simp only[Act.eval]
 case tmp t=>have:=h.get t v b;simp[Array.getD_eq_getD_getElem?,this]
 all_goals (injection b)
theorem Fits.put{n:Nat}{a:Act}{ρ:Env}(h:Fits n a ρ){d:Nat}(f:xj d n=true)(v:Value):Fits n (a.put (some d) v) (.val d v::ρ):=by
 have c:d<n:=zL f;refine⟨by simp[Act.put,h.size],h.defers,λt x b=>?_⟩;simp only[Env.get]at b;simp only[Act.put,Array.getElem?_setIfInBounds];cases hb:wQ d t with
 |true=>
  rw[hb]at b;have:d=t:=zM hb;subst this;simp at b;simp[h.size,c,b]
 |false=>
  rw[hb]at b;have:d≠t:=λe=>by subst e;simp at hb
  simp only[this,if_false];exact h.get t x b
theorem Ext.put{ρ:Env}{a:Act}{d:Nat}(v u:Value):Ext ρ (.val d u::ρ) a (a.put (some d) v):=by
 refine⟨[.val d u],rfl,λt b=>?_⟩;simp only[Env.eJ,cb.eJ,xk]at b;have:d≠t:=λe=>by subst e;simp at b
 simp[Act.put,this]
abbrev dK:=List (Nat×Ty)
@[reducible] def dK.den:dK->Type
 |[]=>Unit
 |[s]=>s.2.den
 |s::t::r=>s.2.den×dK.den (t::r)
def dK.vals:(σ:dK)->σ.den->Env->Env
 |[],_,ρ=>ρ
 |[s],x,ρ=>.val s.1 (s.2.enc x)::ρ
 |s::t::r,x,ρ=>.val s.1 (s.2.enc x.1)::dK.vals (t::r) x.2 ρ
def dK.read:(σ:dK)->Env->Option σ.den
 |[],_=>some ()
 |[s],ρ=>match ρ.get s.1 with
  |some v=>s.2.dec v
  |none=>none
 |s::t::r,ρ=>match ρ.get s.1 with
  |some v=>match s.2.dec v with
   |some x=>match dK.read (t::r) ρ with
    |some y=>some (x,y)
    |none=>none
   |none=>none
  |none=>none
def dK.has:dK->Nat->Bool
 |[],_=>false
 |s::r,t=>wQ s.1 t||dK.has r t
abbrev df:=List (Nat×Nat)
def df.over:df->Env->Env
 |[],ρ=>ρ
 |(lo,hi)::r,ρ=>.kil lo hi::df.over r ρ
def df.has:df->Nat->Nat->Bool
 |[],_,_=>false
 |(lo,hi)::r,a,b=>(xC lo a&&xC b hi)||df.has r a b
def within(σ:dK)(κ:df):Env->Nat->Bool
 |_,0=>true
 |[],_+1=>true
 | .val t _::r,n+1=>(dK.has σ t||df.has κ t (t+1))&&within σ κ r n
 | .kil lo hi::r,n+1=>df.has κ lo hi&&within σ κ r n
theorem df.acv{κ:df}{a b:Nat}(h:κ.has a b=true){t:Nat}(f:a<=t)(e:t<b)(ρ:Env):∃δ:Env,κ.over ρ=δ++ρ/\δ.eJ t=true:=by
 induction κ with
 |nil=>simp[df.has]at h
 |cons p r ih=>
  obtain⟨d,c⟩:=p;simp only[df.has,wV,qB]at h;obtain⟨δ,g⟩:∃δ:Env,df.over r ρ=δ++ρ:=by
   clear ih h
   induction r with
   |nil=>exact⟨[],rfl⟩
   |cons q r ih=>obtain⟨δ,h⟩:=ih;exact⟨.kil q.1 q.2::δ,by show cb.kil q.1 q.2::df.over r ρ=_;rw[h];rfl⟩
  rcases h with h|h
  ·have k:=zL h.1;have l:=zL h.2;refine⟨.kil d c::δ,by simp[df.over,g],?_⟩;have j:xC d t=true:=Nat.ble_eq_true_of_le (by omega);have x2:xj t c=true:=by unfold xj;exact Nat.ble_eq_true_of_le (by omega)
   simp[Env.eJ,cb.eJ,j,x2]
  ·obtain⟨i,f,e⟩:=ih h;exact⟨.kil d c::i,by simp[df.over,f],by simp[Env.eJ,e]⟩
theorem df.RR(κ:df)(ρ:Env):κ.over ρ=κ.over []++ρ:=by
 induction κ with
 |nil=>rfl
 |cons p r ih=>obtain⟨a,b⟩:=p;simp[df.over,ih]
theorem dK.Kn:∀(σ:dK) (x:σ.den) (ρ:Env),σ.vals x ρ=σ.vals x []++ρ
 |[],_,ρ=>rfl
 |[s],x,ρ=>rfl
 |s::t::r,x,ρ=>by simp only[dK.vals];rw[dK.Kn (t::r) x.2 ρ];rfl
theorem dK.Bj:∀(σ:dK) (x:σ.den) (t:Nat),(σ.vals x []).eJ t=σ.has t
 |[],_,_=>rfl
 |[s],x,t=>by simp[dK.vals,Env.eJ,cb.eJ,dK.has]
 |s::u::r,x,t=>by
  have:=dK.Bj (u::r) x.2 t;simp only[dK.vals,Env.eJ,cb.eJ,this];rfl
theorem dK.RS:∀(σ:dK) (x:σ.den) (e:Env) (t:Nat),σ.has t=true->((σ.vals x [])++e).get t=(σ.vals x []).get t
 |[],_,_,_,h=>by cases h
 |[s],x,e,t,h=>by
  simp only[dK.has,xk]at h;simp[dK.vals,Env.get,h]
 |s::u::r,x,e,t,h=>by
  simp only[dK.vals,zt,Env.get];cases hb:wQ s.1 t with
  |true=>rfl
  |false=>
   have h':dK.has (u::r) t=true:=by have a:(wQ s.1 t||dK.has (u::r) t)=true:=h;rw[hb]at a;exact a
   simpa using dK.RS (u::r) x.2 e t h'
theorem df.Pt{κ:df}{a b t:Nat}(h:κ.has a b=true)(d:a<=t)(c:t<b):(κ.over []).eJ t=true:=by obtain⟨δ,e,f⟩:=df.acv h d c [];rw[e];simpa using f
theorem bZ{σ:dK}{κ:df}:∀{δ ρ:Env},within σ κ (δ++ρ) δ.length=true->∀t,σ.has t=false->(κ.over []).eJ t=false->δ.eJ t=false
 |[],_,_,_,_,_=>rfl
 | .val s x::r,ρ,h,t,h1,h2=>by
  simp only[zt,zo,within,qB,wV]at h;simp only[Env.eJ,cb.eJ,yx];refine⟨?_,bZ h.2 t h1 h2⟩;cases hb:wQ s t with
  |false=>rfl
  |true=>
   have:s=t:=zM hb;subst this;rcases h.1 with h|h
   ·rw[h]at h1;cases h1
   ·rw[df.Pt h (qn _) (Nat.lt_succ_self _)]at h2;cases h2
 | .kil lo hi::r,ρ,h,t,h1,h2=>by
  simp only[zt,zo,within,qB]at h;simp only[Env.eJ,cb.eJ,yx];refine⟨?_,bZ h.2 t h1 h2⟩;cases hb:(xC lo t&&xj t hi)with
  |false=>rfl
  |true=>
   simp only[qB]at hb;have a:=zL hb.1;have b:t<hi:=zL hb.2;rw[df.Pt h.1 a b]at h2;cases h2
theorem dK.RT:∀{σ:dK} {ρ:Env} {x:σ.den} {t:Nat} {v:Value},σ.read ρ=some x->(σ.vals x []).get t=some v->ρ.get t=some v∨False
 |[],_,_,_,_,_,h=>by simp[dK.vals,Env.get]at h
 |[s],ρ,x,t,v,h,hv=>by
  simp only[dK.read]at h;split at h
  ·rename_i u d;simp only[dK.vals,Env.get]at hv;cases hb:wQ s.1 t with
   |true=>
    rw[hb]at hv;have:=zM hb;simp at hv;subst hv;rw[<-Ty.rR h,<-this];exact .inl d
   |false=>rw[hb]at hv;simp at hv
  ·cases h
 |s::u::r,ρ,x,t,v,h,hv=>by
  simp only[dK.read]at h;split at h
  ·rename_i z c;split at h
   ·rename_i y b;split at h
    ·rename_i w a;cases h;simp only[dK.vals,Env.get]at hv;cases hb:wQ s.1 t with
     |true=>
      rw[hb]at hv;have:=zM hb;simp at hv;subst hv;rw[<-Ty.rR b,<-this];exact .inl c
     |false=>
      rw[hb]at hv;exact dK.RT (σ:=u::r) a hv
    ·cases h
   ·cases h
  ·cases h
theorem Fits.rS{n:Nat}{a d:Act}{σ:dK}{κ:df}{ρ g:Env}{x:σ.den}(i:Fits n a ρ)(h:Fits n d g)
  (b:∀t,σ.has t=false->(κ.over []).eJ t=false->d.tmps[t]?=a.tmps[t]?) (k:σ.read g=some x):
  Fits n d (σ.vals x (κ.over ρ))/\Ext ρ (σ.vals x (κ.over ρ)) a d:=by
 rw[dK.Kn,df.RR];refine⟨⟨h.size,h.defers,λt v c=>?_⟩,⟨σ.vals x []++κ.over [],by simp,λt f=>?_⟩⟩
 ·cases h1:σ.has t with
  |true=>
   have:∀(e:Env),((σ.vals x [])++e).get t=(σ.vals x []).get t:=λe=>dK.RS σ x e t h1;rw[this]at c;rcases dK.RT k c with h2|h2
   ·exact h.get t v h2
   ·exact h2.elim
  |false=>
   rw[Env.get_append (by rw[dK.Bj];exact h1)]at c;cases h2:(κ.over []).eJ t with
   |true=>
    have:∀(e:Env),((κ.over [])++e).get t=none:=by
     intro e;clear b c
     induction κ with
     |nil=>simp[df.over,Env.eJ]at h2
     |cons p r ih=>
      obtain⟨j,l⟩:=p;simp only[df.over,Env.eJ,cb.eJ]at h2;simp only[df.over,zt,Env.get];cases hb:(xC j t&&xj t l)with
      |true=>rfl
      |false=>rw[hb]at h2;simp at h2;simpa using ih h2
    rw[this]at c;cases c
   |false=>
    rw[Env.get_append h2]at c;rw[b t h1 h2];exact i.get t v c
 ·rw[Env.Ce,yx,dK.Bj]at f;exact b t f.1 f.2
theorem Ext.within{a e:Act}{σ:dK}{κ:df}{ρ c:Env}(h:Ext ρ c a e)(d:within σ κ c (c.length-ρ.length)=true):
  ∀t,σ.has t=false->(κ.over []).eJ t=false->e.tmps[t]?=a.tmps[t]?:=by
 obtain⟨δ,rfl,g⟩:=h;have b:(δ++ρ).length-ρ.length=δ.length:=by simp
 rw[b]at d;exactλt i f=>g t (bZ d t i f)
theorem Ext.rS{a c:Act}{σ:dK}{κ:df}{ρ:Env}{x:σ.den}(e:Ext ρ (σ.vals x (κ.over ρ)) a c):
  ∀t,σ.has t=false->(κ.over []).eJ t=false->c.tmps[t]?=a.tmps[t]?:=by
 obtain⟨δ,b,g⟩:=e;rw[dK.Kn,df.RR,<-List.append_assoc]at b;have:=List.append_cancel_right b;subst this;exactλt f d=>g t (by rw[Env.Ce,dK.Bj,f,d];rfl)
inductive Fb where
 |int (k:IntKind)|bool|str|flt|cpx|mp|fn|other
 |slice (e:TypeId)|array (n:Nat) (e:TypeId)|struct (fs:List (Nat×TypeId))|ptr (e:TypeId)
def iL:Option TypeDesc->Fb
 |some (.int k)=>.int k
 |some .bool=>.bool
 |some .string=>.str
 |some (.float _)=>.flt
 |some (.complex _)=>.cpx
 |some (.map ..)=>.mp
 |some (.func ..)=>.fn
 |some (.slice e)=>.slice e
 |some (.array n e)=>.array n e
 |some (.struct fs)=>.struct (fs.toList.map λf=>(f.offset,f.type))
 |some (.pointer e)=>.ptr e
 |_=>.other
structure TI where
 cT:Fb
 ty:Ty
 size:Nat
 bytes:Nat
 zero:List Value
abbrev kb:=List TI
def kb.seen(P:Program)(t:TypeId):Fb×Option (Nat×Nat×Option (List Value)):=
 (iL (P.underlying t),(P.info? t).map λi=>(i.size,i.bytes,i.zero.map (·.cells.toList)))
def kb.told(i:TI):Fb×Option (Nat×Nat×Option (List Value)):=(i.cT,some (i.size,i.bytes,some i.zero))
def kb.get:kb->Nat->Option TI
 |[],_=>none
 |i::_,0=>some i
 |_::r,t+1=>kb.get r t
structure CM where
 P:Program
 T:kb
structure CM.Ok (C:CM):Prop where
 tbl:(List.range C.T.length).map (kb.seen C.P)=C.T.map kb.told
 mixed:C.P.follows .mixedOrders=true
theorem kb.get_eq:∀(T:kb) (t:Nat),T.get t=T[t]?
 |[],_=>rfl
 |_::_,0=>rfl
 |_::r,t+1=>by simp[kb.get,kb.get_eq r t]
theorem CM.Ok.at{C:CM}(h:C.Ok){t:Nat}{i:TI}(a:C.T.get t=some i):kb.seen C.P t=kb.told i:=by rw[kb.get_eq]at a;have b:t<C.T.length:=(qo.1 a).1;have:=congrArg (·[t]?) h.tbl;simp[b]at this;rw[this,(qo.1 a).2]
def Br(b:Bool)(A B:Prop):Prop:=match b with
 |true=>A
 |false=>B
inductive PV:Type 1 where
 |no
 |val (v:Value)
 |cond (c:Prop) (v:Value)
 |ex (X:Type) (c:X->Prop) (v:X->Value)
 |br (b:Bool) (x y:Value)
def PV.holds(p:PV)(K:Value->Prop):Prop:=match p with
 | .no=>False
 | .val v=>K v
 | .cond c v=>c/\K v
 | .ex _ c v=>∃x,c x/\K (v x)
 | .br b x y=>Br b (K x) (K y)
def sS(P:Program)(s:Sem Next)(v:Value):Prop:=∀w,s.run P w=.ok (.value v) w
def aH{α:Type}(P:Program)(s:Sem α)(v:α):Prop:=∀w,s.run P w=.ok v w
def ke(P:Program)(op:BinOp)(t:TypeId)(x y:Operand)(a b r:Value):Prop:=aH P (do eqGuard op t x y a b;binOp op t a b) r
def aet:Operand->Bool
 | .tmp _=>true
 |_=>false
def acw(P:Program)(t:TypeId)(x y:Operand)(d:Option Fb)(op:BinOp):Value->Value->PV
 | .int k a,.int k' b=>
  match op with
  | .shl=>.cond (0<=b) (.int k (k.wrap (a*2^min b.toNat k.bits)))
  | .shr=>.cond (0<=b) (.int k (a.fdiv (2^min b.toNat k.bits)))
  |_=>bif CL k k' then
   match op with
   | .add=>.val (.int k (k.wrap (a+b)))
   | .sub=>.val (.int k (k.wrap (a-b)))
   | .mul=>.val (.int k (k.wrap (a*b)))
   | .quo=>.cond (b≠0) (.int k (k.wrap (a.tdiv b)))
   | .rem=>.cond (b≠0) (.int k (a.tmod b))
   | .and=>.val (.int k (k.wrap (qD k.bits a&&&qD k.bits b).toNat))
   | .or=>.val (.int k (k.wrap (qD k.bits a|||qD k.bits b).toNat))
   | .xor=>.val (.int k (k.wrap (qD k.bits a^^^qD k.bits b).toNat))
   | .andNot=>.val (.int k (k.wrap (qD k.bits a&&&~~~qD k.bits b).toNat))
   | .eql=>.val (.bool (a==b))
   | .neq=>.val (.bool (a !=b))
   | .lss=>.val (.bool (decide (a<b)))
   | .leq=>.val (.bool (decide (a<=b)))
   | .gtr=>.val (.bool (decide (a>b)))
   | .geq=>.val (.bool (decide (a>=b)))
   |_=>.no
  else .no
 | .float k a,.float k' b=>bif Gi k k' then
   match op with
   | .add=>.ex Nat (λr=>k.format.add a b=some r) (λr=>.float k r)
   | .sub=>.ex Nat (λr=>k.format.sub a b=some r) (λr=>.float k r)
   | .mul=>.ex Nat (λr=>k.format.mul a b=some r) (λr=>.float k r)
   | .quo=>.ex Nat (λr=>k.format.div a b=some r) (λr=>.float k r)
   | .eql=>.val (.bool (k.format.order a b==some .eq))
   | .neq=>.val (.bool (k.format.order a b !=some .eq))
   | .lss=>.val (.bool (k.format.order a b==some .lt))
   | .gtr=>.val (.bool (k.format.order a b==some .gt))
   |_=>.no
  else .no
 | .string a,.string b=>
  match op with
  | .eql=>.val (.bool (a.toList==b.toList))
  | .neq=>.val (.bool (!(a.toList==b.toList)))
  | .lss=>.val (.bool (Op.bytesLess a.toList b.toList))
  | .leq=>.val (.bool (Op.bytesLess a.toList b.toList||a.toList==b.toList))
  | .gtr=>.val (.bool (!(Op.bytesLess a.toList b.toList||a.toList==b.toList)))
  | .geq=>.val (.bool (!(Op.bytesLess a.toList b.toList)))
  | .add=>.cond (((a.size+b.size:Nat):Int)<=xN.max) (.string (a++b))
  |_=>.no
 | .bool a,.bool b=>
  match d with
  |some .bool=>match op with
   | .eql=>.val (.bool (a==b))
   | .neq=>.val (.bool (!(a==b)))
   |_=>.no
  |_=>.no
 | .pointer a,.pointer b=>bif aet y then .ex Bool (λr=>ke P op t x y (.pointer a) (.pointer b) (.bool r)) (λr=>.bool r)else
  match b with
  |none=>match d with
   |some (.ptr _)=>match op with
    | .eql=>.val (.bool a.isNone)
    | .neq=>.val (.bool (!a.isNone))
    |_=>.no
   |_=>.no
  |some _=>.no
 | .slice a _ _,.slice none _ _=>
  match d with
  |some (.slice _)=>match op with
   | .eql=>.val (.bool a.isNone)
   | .neq=>.val (.bool (!a.isNone))
   |_=>.no
  |_=>.no
 | .agg a,.agg b=>.ex Bool (λr=>ke P op t x y (.agg a) (.agg b) (.bool r)) (λr=>.bool r)
 | .complex k a b,.complex k' c e=>
  match op with
  | .eql| .neq=>.ex Bool (λr=>ke P op t x y (.complex k a b) (.complex k' c e) (.bool r)) (λr=>.bool r)
  |_=>.ex (Nat×Nat) (λr=>ke P op t x y (.complex k a b) (.complex k' c e) (.complex k r.1 r.2)) (λr=>.complex k r.1 r.2)
 |_,_=>.no
def acx(P:Program)(t:TypeId)(x y:Operand)(d:Option Fb)(op:BinOp)(a:Value):Value->PV
 | .nilIface=>.ex Bool (λr=>ke P op t x y a .nilIface (.bool r)) (λr=>.bool r)
 |b=>acw P t x y d op a b
def unV(op:UnOp):Value->PV
 | .bool b=>match op with
  | .not=>.val (.bool !b)
  |_=>.no
 | .int k n=>match op with
  | .neg=>.val (.int k (k.wrap (0-n)))
  | .xor=>.val (.int k (k.wrap (qD k.bits (if k.signed then-1 else k.max)^^^qD k.bits n).toNat))
  |_=>.no
 |_=>.no
def rz(ev:Operand->Option Value):List Operand->Option (List Value)
 |[]=>some []
 |x::r=>match ev x with
  |some v=>match rz ev r with
   |some vs=>some (v::vs)
   |none=>none
  |none=>none
def Gk(ev:Operand->Option Value):List (Nat×Operand)->Option (List (Nat×Value))
 |[]=>some []
 |(n,x)::r=>match ev x with
  |some v=>match Gk ev r with
   |some vs=>some ((n,v)::vs)
   |none=>none
  |none=>none
def placesOf(T:kb):List (Nat×TypeId)->Option (List (Nat×Nat))
 |[]=>some []
 |(off,t)::r=>match T.get t with
  |some j=>match placesOf T r with
   |some ps=>some ((off,j.size)::ps)
   |none=>none
  |none=>none
def Ls(ev:Operand->Option Value):Option Operand->Option (Option Int)
 |none=>some none
 |some x=>match ev x with
  |some (.int _ n)=>some (some n)
  |_=>none
def agE(d:Option Fb):Value->PV
 | .slice _ n _=>match d with
  |some (.slice _)=>.val (.int .i64 n)
  |_=>.no
 | .string s=>match d with
  |some .str=>.val (.int .i64 s.size)
  |_=>.no
 |_=>.no
def agF(d:Option Fb):Value->PV
 | .slice _ _ n=>match d with
  |some (.slice _)=>.val (.int .i64 n)
  |_=>.no
 |_=>.no
def aeu(d:Option Fb):Value->PV
 | .int _ n=>match d with
  |some (.int k)=>.val (.int k (k.wrap n))
  |_=>.no
 |_=>.no
def CN(P:Program)(T:kb)(op:Op)(ev:Operand->Option Value):PV:=
 match op with
 | .move x| .assign x=>match ev x with
  |some v=>.val v
  |none=>.no
 | .pick c a b=>match ev c,ev a,ev b with
  |some (.bool t),some x,some y=>.br t x y
  |_,_,_=>.no
 | .nilCheck x=>match ev x with
  |some (.pointer p)=>.ex Addr (λa=>p=some a) (λa=>.pointer (some a))
  |_=>.no
 | .fieldAddr s x f=>match ev x with
  |some (.pointer (some a))=>match T.get s with
   |some i=>match i.cT with
    | .struct fs=>match fs[f]? with
     |some (off,t)=>match T.get t with
      |some j=>bif wQ j.size 0 then .no else .val (.pointer (some (a.add off)))
      |none=>.no
     |none=>.no
    |_=>.no
   |none=>.no
  |_=>.no
 | .indexAddr t x ix=>match ev ix with
  |some (.int _ n)=>match ev x with
   |some (.slice p len _)=>match T.get t with
    |some i=>match i.cT with
     | .slice e=>match T.get e with
      |some j=>.ex Addr (λa=>p=some a/\0<=n/\n<(len:Int)) (λa=>.pointer (some (a.add (n.toNat*j.size))))
      |none=>.no
     |_=>.no
    |none=>.no
   |some (.pointer (some a))=>match T.get t with
    |some i=>match i.cT with
     | .array m e=>match T.get e with
      |some j=>.cond (0<=n/\n<(m:Int)) (.pointer (some (a.add (n.toNat*j.size))))
      |none=>.no
     |_=>.no
    |none=>.no
   |_=>.no
  |_=>.no
 | .index t x ix=>match ev ix with
  |some (.int _ n)=>match ev x with
   |some (.string s)=>match T.get t with
    |some i=>match i.cT with
     | .str=>.ex UInt8 (λb=>0<=n/\s.data[n.toNat]?=some b) (λb=>.int .u8 b.toNat)
     |_=>.no
    |none=>.no
   |some (.agg cs)=>match T.get t with
    |some i=>match i.cT with
     | .array m e=>match T.get e with
      |some j=>match j.ty with
       | .sc s=>match j.cT with
        | .struct _=>.no
        | .array _ _=>.no
        | .other=>.no
        |_=>bif wQ j.size 1 then .ex s.den (λy=>0<=n/\n<(m:Int)/\cs[n.toNat]?=some (s.enc y)) (λy=>s.enc y)else .no
       |_=>.no
      |none=>.no
     |_=>.no
    |none=>.no
   |_=>.no
  |_=>.no
 | .field s x f=>match ev x with
  |some (.agg ⟨cs⟩)=>match T.get s with
   |some i=>match i.cT with
    | .struct fs=>match fs[f]? with
     |some (off,t)=>match T.get t with
      |some j=>match j.cT with
       | .struct _=>.val (.agg ((cs.drop off).take j.size).toArray)
       | .array _ _=>.val (.agg ((cs.drop off).take j.size).toArray)
       | .other=>.no
       |_=>match cs[off]? with
        |some v=>.val v
        |none=>.no
      |none=>.no
     |none=>.no
    |_=>.no
   |none=>.no
  |_=>.no
 | .slice t x lo hi mx=>match mx with
  |some _=>.no
  |none=>match Ls ev lo,Ls ev hi with
   |some l,some r=>match ev x with
    |some (.slice p len cap)=>match T.get t with
     |some i=>match i.cT with
      | .slice e=>match T.get e with
       |some j=>match l,r with
        |none,none=>.val (.slice p len cap)
        |none,some r=>.cond (0<=r/\r<=(cap:Int)) (.slice p r.toNat cap)
        |some l,none=>.cond (0<=l/\l<=(len:Int)) (.slice (if cap=l.toNat then p else p.map (·.add (l.toNat*j.size))) (len-l.toNat) (cap-l.toNat))
        |some l,some r=>.cond (0<=l/\l<=r/\r<=(cap:Int)) (.slice (if cap=l.toNat then p else p.map (·.add (l.toNat*j.size))) (r.toNat-l.toNat) (cap-l.toNat))
       |none=>.no
      |_=>.no
     |none=>.no
    |some (.string s)=>match T.get t with
     |some i=>match i.cT with
      | .str=>match l,r with
       |none,none=>.val (.string (s.extract 0 s.size))
       |none,some r=>.cond (0<=r/\r<=(s.size:Int)) (.string (s.extract 0 r.toNat))
       |some l,none=>.cond (0<=l/\l<=(s.size:Int)) (.string (s.extract l.toNat s.size))
       |some l,some r=>.cond (0<=l/\l<=r/\r<=(s.size:Int)) (.string (s.extract l.toNat r.toNat))
      |_=>.no
     |none=>.no
    |some (.pointer (some a))=>match T.get t with
     |some i=>match i.cT with
      | .array n e=>match T.get e with
       |some j=>match l,r with
        |none,none=>.val (.slice (some a) n n)
        |none,some r=>.cond (0<=r/\r<=(n:Int)) (.slice (some a) r.toNat n)
        |some l,none=>.cond (0<=l/\l<=(n:Int)) (.slice (some (if n=l.toNat then a else a.add (l.toNat*j.size))) (n-l.toNat) (n-l.toNat))
        |some l,some r=>.cond (0<=l/\l<=r/\r<=(n:Int)) (.slice (some (if n=l.toNat then a else a.add (l.toNat*j.size))) (r.toNat-l.toNat) (n-l.toNat))
       |none=>.no
      |_=>.no
     |none=>.no
    |_=>.no
   |_,_=>.no
 | .extract x n=>match ev x with
  |some (.tuple ⟨vs⟩)=>match vs[n]? with
   |some v=>.val v
   |none=>.no
  |_=>.no
 | .binOp op t x y _=>match ev x,ev y with
  |some a,some b=>acx P t x y ((T.get t).map (·.cT)) op a b
  |_,_=>.no
 | .unOp op _ x=>match ev x with
  |some v=>unV op v
  |none=>.no
 | .convert src dst x=>match ev x,(T.get src).map TI.cT with
  |some v,some (Fb.int _)=>aeu ((T.get dst).map (·.cT)) v
  |_,_=>.no
 | .build t parts=>match Gk ev parts.toList with
  |some vs=>match T.get t with
   |some i=>bif xj 24 i.size then .ex Value (λv=>aH P (xn t vs.toArray) v) (λv=>v)else match i.cT with
    | .struct fs=>match placesOf T fs with
     |some ps=>match wL (λn=>ps[n]?) i.zero.toArray vs with
      |some cells=>.val (.agg cells)
      |none=>.no
     |none=>.no
    | .array _ e=>match T.get e with
     |some j=>match wL (λn=>some (n*j.size,j.size)) i.zero.toArray vs with
      |some cells=>.val (.agg cells)
      |none=>.no
     |none=>.no
    |_=>.no
   |none=>.no
  |none=>.no
 | .makeFunc fn first captured=>match rz ev first.toList,rz ev captured.toList with
  |some a,some b=>.val (.func fn a.toArray b.toArray)
  |_,_=>.no
 | .call c=>match c.callee with
  | .builtin b=>match b with
   | .len=>match c.argTypes.toList,c.args.toList with
    |t::_,[x]=>match ev x with
     |some v=>agE ((T.get t).map (·.cT)) v
     |none=>.no
    |_,_=>.no
   | .cap=>match c.argTypes.toList,c.args.toList with
    |t::_,[x]=>match ev x with
     |some v=>agF ((T.get t).map (·.cT)) v
     |none=>.no
    |_,_=>.no
   | .min=>match rz ev c.args.toList with
    |some [.int k a,.int _ b]=>.val (.int k (if b<a then b else a))
    |_=>.no
   | .max=>match rz ev c.args.toList with
    |some [.int k a,.int _ b]=>.val (.int k (if b>a then b else a))
    |_=>.no
   | .real=>match rz ev c.args.toList with
    |some [.complex k a _]=>.val (.float k a)
    |_=>.no
   | .imag=>match rz ev c.args.toList with
    |some [.complex k _ b]=>.val (.float k b)
    |_=>.no
   |_=>.no
  |_=>.no
 |_=>.no
theorem aH.next{P:Program}{s:Sem Value}{v:Value}(h:aH P s v):sS P (do pure (.value (<-s))) v:=λw=>by
 rw[Sem.run_bind,h w];rfl
theorem aH.pure{α:Type}{P:Program}{v:α}:aH P (pure v) v:=λ_=>rfl
theorem aH.bind{α β:Type}{P:Program}{s:Sem α}{f:α->Sem β}{v:α}{u:β}(h:aH P s v)(k:aH P (f v) u):aH P (s>>=f) u:=λw=>by
 rw[Sem.run_bind,h w];exact k w
theorem IK{d:Option TypeDesc}{k:IntKind}(h:iL d=.int k):d=some (.int k):=by unfold iL at h;split at h<;>cases h;rfl
theorem acy{d:Option TypeDesc}(h:iL d=.bool):d=some .bool:=by unfold iL at h;split at h<;>cases h;rfl
theorem uW{d:Option TypeDesc}(h:iL d=.str):d=some .string:=by unfold iL at h;split at h<;>cases h;rfl
theorem jk{d:Option TypeDesc}{e:TypeId}(h:iL d=.slice e):d=some (.slice e):=by unfold iL at h;split at h<;>cases h;rfl
theorem sT{d:Option TypeDesc}{n:Nat}{e:TypeId}(h:iL d=.array n e):d=some (.array n e):=by unfold iL at h;split at h<;>cases h;rfl
theorem afp{d:Option TypeDesc}{e:TypeId}(h:iL d=.ptr e):d=some (.pointer e):=by unfold iL at h;split at h<;>cases h;rfl
theorem pA{d:Option TypeDesc}{a:List (Nat×TypeId)}(h:iL d=.struct a):∃b,d=some (.struct b)/\a=b.toList.map λf=>(f.offset,f.type):=by unfold iL at h;split at h<;>cases h;exact⟨_,rfl,rfl⟩
section
variable {C:CM} {t:TypeId} {i:TI}
theorem CM.Ok.cT(h:C.Ok)(a:C.T.get t=some i):iL (C.P.underlying t)=i.cT:=congrArg Prod.fst (h.at a)
theorem CM.Ok.info(h:C.Ok)(d:C.T.get t=some i):∃f,C.P.info? t=some f/\f.size=i.size/\f.bytes=i.bytes/\∃z,f.zero=some z/\z.cells.toList=i.zero:=by
 have:=congrArg Prod.snd (h.at d);simp only[kb.seen,kb.told]at this;cases hf:C.P.info? t with
 |none=>rw[hf]at this;cases this
 |some f=>
  rw[hf]at this;simp only[qQ,zS.injEq,Prod.mk.injEq]at this;obtain⟨a,b,c⟩:=this;cases hz:f.zero with
  |none=>rw[hz]at c;cases c
  |some z=>rw[hz]at c;simp at c;exact⟨f,rfl,a,b,z,hz,by simpa using c⟩
theorem aJ{P:Program}{t:TypeId}{d:TypeDesc}(h:P.underlying t=some d):aH P (underlying t) d:=λw=>by
 simp[underlying,h]
theorem dg{P:Program}{t:TypeId}{d:TypeInfo}(h:P.info? t=some d):aH P (typeInfo t) d:=λw=>by
 simp[typeInfo,h]
theorem dm(h:C.Ok)(a:C.T.get t=some i):aH C.P (sizeOf t) i.size:=by obtain⟨f,b,c,_⟩:=h.info a;rw[<-c];exact(dg b).bind .pure
theorem sC(h:C.Ok)(a:C.T.get t=some i):∃z,aH C.P (zeroValue t) z/\z.cells.toList=i.zero:=by obtain⟨f,c,_,_,z,b,d⟩:=h.info a;refine⟨z,(dg c).bind ?_,d⟩;rw[b];exact .pure
theorem kW(h:C.Ok)(g:C.T.get t=some i):(∀b,i.cT=.struct b->aH C.P (isAgg t) true)/\(∀n e,i.cT=.array n e->aH C.P (isAgg t) true)/\
  ((∀b,i.cT≠.struct b)->(∀n e,i.cT≠.array n e)->i.cT≠.other->aH C.P (isAgg t) false):=by
 have a:=h.cT g;refine⟨λb c=>?_,λn e c=>?_,λj f h3=>?_⟩
 ·rw[c]at a;obtain⟨l,k,_⟩:=pA a;exact(aJ k).bind .pure
 ·rw[c]at a;exact(aJ (sT a)).bind .pure
 ·cases hu:C.P.underlying t with
  |none=>rw[hu]at a;exact absurd a.symm h3
  |some d=>
   refine(aJ hu).bind ?_;rw[hu]at a;cases d<;>first|exact .pure|(exfalso;simp only[iL]at a;first|exact j _ a.symm|exact f _ _ a.symm)
end
theorem DM{ev:Operand->Option Value}{e:Operand->Value}(c:∀x v,ev x=some v->e x=v):∀{l:List Operand} {vs:List Value},rz ev l=some vs->l.map e=vs:=by
 intro l
 induction l with
 |nil=>intro vs h;cases h;rfl
 |cons x r ih=>
  intro vs h;simp only[rz]at h;split at h
  ·rename_i v b;split at h
   ·rename_i us a;cases h;simp[c _ _ b,ih a]
   ·cases h
  ·cases h
theorem Jz{ev:Operand->Option Value}{e:Operand->Value}(c:∀x v,ev x=some v->e x=v):∀{l:List (Nat×Operand)} {vs:List (Nat×Value)},Gk ev l=some vs->l.map (λp=>(p.1,e p.2))=vs:=by
 intro l
 induction l with
 |nil=>intro vs h;cases h;rfl
 |cons x r ih=>
  intro vs h;obtain⟨n,x⟩:=x;simp only[Gk]at h;split at h
  ·rename_i v b;split at h
   ·rename_i us a;cases h;simp[c _ _ b,ih a]
   ·cases h
  ·cases h
section
variable {P:Program}
theorem Ko(t:TypeId)(x y:Value):Op.equal t x y=Op.equalIn (9999+1) t x y:=rfl
theorem afq{t:TypeId}(c:P.underlying t=some .bool)(d:Nat)(a b:Bool):aH P (Op.equalIn (d+1) t (.bool a) (.bool b)) (a==b):=λw=>by
 simp[Op.equalIn,underlying,c]
theorem agG{t e:TypeId}(b:P.underlying t=some (.pointer e))(d:Nat)(a:Option Addr):aH P (Op.equalIn (d+1) t (.pointer a) (.pointer none)) a.isNone:=λw=>by
 cases a<;>simp[Op.equalIn,underlying,b]
theorem acz{t e:TypeId}(f:P.underlying t=some (.slice e))(d:Nat)(a:Option Addr)(l c g b:Nat):aH P (Op.equalIn (d+1) t (.slice a l c) (.slice none g b)) a.isNone:=λw=>by
 cases a<;>simp[Op.equalIn,underlying,f]
theorem Xy{t:TypeId}{d:Option Fb}{op:BinOp}{a b:Value}{x y:Operand}{K:Value->Prop}(o:∀q,d=some q->iL (P.underlying t)=q)
  (h:(acw P t x y d op a b).holds K):∃v,aH P (do eqGuard op t x y a b;binOp op t a b) v/\K v:=by
 have j:∀{a b:Value},¬(a=.nilIface/\b=.nilIface)->(∀u v,¬(a=.agg u/\b=.agg v))->aH P (eqGuard op t x y a b) ():=by
  intro a b i f w;simp only[eqGuard];cases op<;>simp only[Bool.not_true,Bool.not_false,ze,if_true,if_false]<;>
   first
    |rfl
    |(split<;>first|exact absurd ⟨rfl,rfl⟩ i|exact absurd ⟨rfl,rfl⟩ (f _ _)|rfl)
 unfold acw at h;split at h
 ·rename_i k a m b;have g:=j (a:=.int k a) (b:=.int m b) (by simp) (by simp);cases op<;>simp only at h
  case shl=>exact⟨_,g.bind λw=>by simp only[binOp,Op.shift];rw[if_neg (by have:=h.1;omega)];rfl,h.2⟩
  case shr=>exact⟨_,g.bind λw=>by simp only[binOp,Op.shift];rw[if_neg (by have:=h.1;omega)];rfl,h.2⟩
  all_goals
   cases hk:CL k m with
   |false=>rw[hk]at h;simp[PV.holds]at h
   |true=>
    rw[hk]at h;simp only[cond_true,PV.holds]at h;have e:=Jy hk;subst e
    first
     |exact⟨_,g.bind λw=>by simp[binOp,Op.intArith,Op.intBits,Op.intCmp],h⟩
     |exact⟨_,g.bind λw=>by simp[binOp,Op.intDiv,h.1],h.2⟩
     |exact h.elim
 ·rename_i k a m b;have g:=j (a:=.float k a) (b:=.float m b) (by simp) (by simp);cases hk:Gi k m with
  |false=>rw[hk]at h;simp[PV.holds]at h
  |true=>
   rw[hk]at h;have e:=Gj hk;subst e;cases op<;>simp only[cond_true,PV.holds]at h<;>
    first
     |(obtain⟨r,i,f⟩:=h;exact⟨_,g.bind λw=>by simp[binOp,Op.floatArith,i],f⟩)
     |exact⟨_,g.bind λw=>by simp[binOp,Op.floatCmp],h⟩
     |exact h.elim
 ·rename_i a b;have g:=j (a:=.string a) (b:=.string b) (by simp) (by simp);cases op<;>simp only[PV.holds]at h<;>
   first
    |exact⟨_,g.bind λw=>by simp[binOp,Op.stringOp],h⟩
    |exact⟨_,g.bind λw=>by simp only[binOp,Op.stringOp];rw[if_neg (by have:=h.1;omega)];rfl,h.2⟩
    |exact h.elim
 ·rename_i a b;have g:=j (a:=.bool a) (b:=.bool b) (by simp) (by simp);split at h
  ·have n:=acy (o _ rfl);cases op<;>simp only[PV.holds]at h<;>
    first
     |exact⟨_,g.bind (by simp only[binOp,Ko];exact(afq n _ a b).bind .pure),h⟩
     |exact h.elim
  ·exact h.elim
 ·rename_i a b;cases hy:aet y with
  |true=>
   rw[hy]at h;obtain⟨r,i,f⟩:=h;exact⟨_,i,f⟩
  |false=>
   rw[hy]at h;cases b with
   |some _=>exact h.elim
   |none=>
    have g:=j (a:=.pointer a) (b:=.pointer none) (by simp) (by simp);simp only[cond_false]at h;split at h
    ·rename_i e;have n:=afp (o _ rfl);cases op<;>simp only[PV.holds]at h<;>
      first
       |exact⟨_,g.bind (by simp only[binOp,Ko];exact(agG n _ a).bind .pure),h⟩
       |exact h.elim
    ·exact h.elim
 ·rename_i a l c s p;have g:=j (a:=.slice a l c) (b:=.slice none s p) (by simp) (by simp);split at h
  ·rename_i e;have n:=jk (o _ rfl);cases op<;>simp only[PV.holds]at h<;>
    first
     |exact⟨_,g.bind (by simp only[binOp,Ko];exact(acz n _ a l c s p).bind .pure),h⟩
     |exact h.elim
  ·exact h.elim
 ·obtain⟨r,i,f⟩:=h;exact⟨_,i,f⟩
 ·split at h
  ·obtain⟨r,i,f⟩:=h;exact⟨_,i,f⟩
  ·obtain⟨r,i,f⟩:=h;exact⟨_,i,f⟩
  ·obtain⟨r,i,f⟩:=h;exact⟨_,i,f⟩
 ·exact h.elim
theorem Xz{t:TypeId}{d:Option Fb}{op:BinOp}{a b:Value}{x y:Operand}{K:Value->Prop}(e:∀q,d=some q->iL (P.underlying t)=q)
  (h:(acx P t x y d op a b).holds K):∃v,aH P (do eqGuard op t x y a b;binOp op t a b) v/\K v:=by
 unfold acx at h;split at h
 ·obtain⟨r,f,c⟩:=h;exact⟨_,f,c⟩
 ·exact Xy e h
end
theorem RU(a:List Value)(off n:Nat):((a.drop off).take n).toArray=(a.toArray).extract off (off+n):=by apply yC;simp[List.extract_eq_take_drop]
section
variable {C:CM} {ev:Operand->Option Value} {e:Operand->Value}
theorem nR(c:C.Ok):∀{b:List Field} {a:List (Nat×Nat)},placesOf C.T (b.map λf=>(f.offset,f.type))=some a->
  aH C.P (b.mapM λf=>(do pure (f.offset,<-sizeOf f.type):Sem (Nat×Nat))) a
 |[],a,h=>by cases h;exact .pure
 |f::r,a,h=>by
  simp only[List.map_cons,placesOf]at h;split at h
  ·rename_i j d;split at h
   ·rename_i g e;cases h;rw[List.mapM_cons];exact aH.bind ((dm c d).bind .pure) ((nR c e).bind .pure)
   ·cases h
  ·cases h
theorem JA(h:C.Ok){t:TypeId}{j:TI}(g:C.T.get t=some j)(f:∀d,j.cT≠.struct d)(b:∀n e,j.cT≠.array n e)(h3:j.cT≠.other)
  {a:Array Value} {off:Nat} {v:Value} (c:a[off]?=some v):aH C.P (part t a off) v:=by
 refine((kW h g).2.2 f b h3).bind ?_;rw[c];exact .pure
theorem RV(c:C.Ok){t:TypeId}{j:TI}(b:C.T.get t=some j)(h:(∃a,j.cT=.struct a)∨∃n e,j.cT=.array n e)
  {d:Array Value} {off:Nat}:aH C.P (part t d off) (.agg (d.extract off (off+j.size))):=by
 have f:aH C.P (isAgg t) true:=by
  rcases h with⟨a,h⟩|⟨n,e,h⟩
  ·exact(kW c b).1 a h
  ·exact(kW c b).2.1 n e h
 exact f.bind ((dm c b).bind .pure)
theorem Lt(J:C.Ok)(G:∀x v,ev x=some v->e x=v){o:Oper}{K:Value->Prop}(h:(CN C.P C.T o.op ev).holds K):
  ∃v,sS C.P (execOp e o) v/\K v:=by
 have M:∀t q,(C.T.get t).map (·.cT)=some q->iL (C.P.underlying t)=q:=λt q h=>by
  cases F:C.T.get t with
  |none=>rw[F]at h;cases h
  |some i=>rw[F]at h;cases h;exact J.cT F
 cases hop:o.op<;>rw[hop]at h<;>simp only[CN]at h<;>simp only[execOp,hop]
 case move x=>
  split at h
  ·rename_i v A;rw[G _ _ A];exact⟨v,λ_=>rfl,h⟩
  ·exact h.elim
 case assign x=>
  split at h
  ·rename_i v A;rw[G _ _ A];exact⟨v,λ_=>rfl,h⟩
  ·exact h.elim
 case pick c a b=>
  split at h
  ·rename_i t x y O h2 h3;rw[G _ _ O,G _ _ h2,G _ _ h3];cases t
   ·exact⟨y,λ_=>rfl,h⟩
   ·exact⟨x,λ_=>rfl,h⟩
  ·exact h.elim
 case nilCheck x=>
  split at h
  ·rename_i p hp;obtain⟨a,rfl,B⟩:=h;rw[G _ _ hp];exact⟨_,λ_=>rfl,B⟩
  ·exact h.elim
 case fieldAddr s x f=>
  split at h
  ·rename_i a ha;rw[G _ _ ha];split at h
   ·rename_i i F;split at h
    ·rename_i fs X;split at h
     ·rename_i off t ab;split at h
      ·rename_i j R;cases hz:wQ j.size 0 with
       |true=>rw[hz]at h;exact h.elim
       |false=>
        rw[hz]at h;have E:=J.cT F;rw[X]at E;obtain⟨gs,hg,rfl⟩:=pA E;simp only[qR,vi]at ab;obtain⟨g,ap,ar⟩:=ab;cases ar;refine⟨_,aH.next ((aJ hg).bind ?_),h⟩;have ah:gs[f]?=some g:=by simpa using ap
        simp only[ah];refine aH.bind (v:=a) .pure (aH.bind (v:=a.add g.offset) ?_ .pure);unfold fieldPlace;refine(dm J R).bind ?_;have:j.size≠0:=λe=>by rw[e]at hz;cases hz
        rw[if_neg this];exact .pure
      ·exact h.elim
     ·exact h.elim
    ·exact h.elim
   ·exact h.elim
  ·exact h.elim
 case indexAddr t x ix=>
  split at h
  ·rename_i k n hn;rw[G _ _ hn];split at h
   ·rename_i p len cap S;rw[G _ _ S];split at h
    ·rename_i i F;split at h
     ·rename_i el D;split at h
      ·rename_i j R;obtain⟨a,⟨rfl,h0,O⟩,B⟩:=h;have E:=J.cT F;rw[D]at E;have H:=jk E;refine⟨_,aH.next ?_,B⟩;unfold Instr.indexAt;refine aH.bind (v:=(k,n)) .pure ?_;refine(aJ H).bind ?_;refine aH.bind (v:=(some a,len,el)) .pure ?_;intro w;have:=dm J R w;simp only[Sem.run_bind,aJ H w,Result.andThen_ok];cases hl:decide (len<=1)<;>simp[h0,O,this]
      ·exact h.elim
     ·exact h.elim
    ·exact h.elim
   ·rename_i a S;rw[G _ _ S];split at h
    ·rename_i i F;split at h
     ·rename_i m el D;split at h
      ·rename_i j R;obtain⟨⟨h0,O⟩,B⟩:=h;have E:=J.cT F;rw[D]at E;have H:=sT E;refine⟨_,aH.next ?_,B⟩;unfold Instr.indexAt;refine aH.bind (v:=(k,n)) .pure ?_;refine(aJ H).bind ?_;refine aH.bind (v:=(some a,m,el)) .pure ?_;intro w;have:=dm J R w;simp only[Sem.run_bind,aJ H w,Result.andThen_ok];cases hl:decide (m<=1)<;>simp[h0,O,this]
      ·exact h.elim
     ·exact h.elim
    ·exact h.elim
   ·exact h.elim
  ·exact h.elim
 case index t x ix=>
  split at h
  ·rename_i k n hn;rw[G _ _ hn];split at h
   ·rename_i s S;rw[G _ _ S];split at h
    ·rename_i i F;split at h
     ·rename_i D;obtain⟨b,⟨h0,O⟩,B⟩:=h;have E:=J.cT F;rw[D]at E;have H:=uW E;refine⟨_,aH.next ?_,B⟩;unfold Instr.index;refine aH.bind (v:=(k,n)) .pure ?_;refine(aJ H).bind ?_;have hb:s[n.toNat]?=some b:=by rw[Array.getElem?_eq_some_iff]at O;obtain⟨bq,hg⟩:=O;have a5:n.toNat<s.size:=bq;rw[getElem?_pos s n.toNat a5];exact congrArg some hg
      simp only[h0,if_true,hb];exact .pure
     ·exact h.elim
    ·exact h.elim
   ·rename_i cs S;rw[G _ _ S];split at h
    ·rename_i i F;split at h
     ·rename_i m el D;split at h
      ·rename_i j R;split at h
       ·rename_i s hs;have E:=J.cT F;rw[D]at E;have H:=sT E;have ad:(∃y,(0<=n/\n<(m:Int)/\cs[n.toNat]?=some (s.enc y))/\K (s.enc y))->(∀fs,j.cT≠.struct fs)->(∀n e,j.cT≠.array n e)->j.cT≠.other->j.size=1->
          ∃v,sS C.P (do pure (.value (<-Instr.index t (.agg cs) (.int k n)))) v/\K v:=by
         rintro⟨y,⟨h0,O,h2⟩,B⟩ d1 d2 d3 a7;refine⟨_,aH.next ?_,B⟩;unfold Instr.index;refine aH.bind (v:=(k,n)) .pure ?_;refine(aJ H).bind ?_;simp only[h0,O,and_self,if_true];refine(dm J R).bind ?_;rw[a7,Nat.mul_one];exact JA J R d1 d2 d3 h2
        split at h
        ·exact h.elim
        ·exact h.elim
        ·exact h.elim
        ·rename_i d1 d2 d3;cases hz:wQ j.size 1 with
         |false=>rw[hz]at h;exact h.elim
         |true=>
          rw[hz]at h;exact ad h d1 d2 d3 (zM hz)
       ·exact h.elim
      ·exact h.elim
     ·exact h.elim
    ·exact h.elim
   ·exact h.elim
  ·exact h.elim
 case field s x f=>
  split at h
  ·rename_i cs S;rw[G _ _ S];split at h
   ·rename_i i F;split at h
    ·rename_i fs X;split at h
     ·rename_i off t ab;split at h
      ·rename_i j R;have E:=J.cT F;rw[X]at E;obtain⟨gs,hg,rfl⟩:=pA E;simp only[qR,vi]at ab;obtain⟨g,ap,ar⟩:=ab;cases ar;have ah:gs[f]?=some g:=by simpa using ap
       have ad:∀v,aH C.P (part g.type ⟨cs⟩ g.offset) v->K v->∃v,sS C.P (do pure (.value (<-Instr.field s (.agg ⟨cs⟩) f))) v/\K v:=by intro v A B;refine⟨v,aH.next ((aJ hg).bind ?_),B⟩;simp only[ah];exact aH.bind (v:=(⟨cs⟩:Array Value)) .pure A
       split at h
       ·rename_i br a0;refine ad _ (RV J R (.inl ⟨_,a0⟩)) ?_;rw[<-RU];exact h
       ·rename_i n' e' a0;refine ad _ (RV J R (.inr ⟨_,_,a0⟩)) ?_;rw[<-RU];exact h
       ·exact h.elim
       ·rename_i d1 d2 d3;split at h
        ·rename_i v A;exact ad v (JA J R d1 d2 d3 (by simpa using A)) h
        ·exact h.elim
      ·exact h.elim
     ·exact h.elim
    ·exact h.elim
   ·exact h.elim
  ·exact h.elim
 case slice t x V hi0 mx=>
  split at h
  ·exact h.elim
  ·split at h
   ·rename_i l r hl hr;have a4:(V=none/\l=none)∨∃y k m,V=some y/\e y=.int k m/\l=some m:=by
     cases V with
     |none=>cases hl;exact .inl ⟨rfl,rfl⟩
     |some y=>
      simp only[Ls]at hl;split at hl
      ·rename_i k m hm;cases hl;exact .inr ⟨y,k,m,rfl,G _ _ hm,rfl⟩
      ·cases hl
    have ay:(hi0=none/\r=none)∨∃y k m,hi0=some y/\e y=.int k m/\r=some m:=by
     cases hi0 with
     |none=>cases hr;exact .inl ⟨rfl,rfl⟩
     |some y=>
      simp only[Ls]at hr;split at hr
      ·rename_i k m hm;cases hr;exact .inr ⟨y,k,m,rfl,G _ _ hm,rfl⟩
      ·cases hr
    have I:∀(bb:Bool) (len cap:Nat) (V F:Option Value) (a b:Nat),(V=none->a=0)->(∀v,V=some v->∃k m,v=.int k m/\0<=m/\a=m.toNat/\m<=(b:Int))->
      (F=none->b=len)->(∀v,F=some v->∃k m,v=.int k m/\0<=m/\b=m.toNat/\m<=(cap:Int))->
      aH C.P (we bb len cap V F none) (a,b,cap):=by
     intro bb len cap V F a b O h2 h3 h4 w;cases F with
     |none=>
      have e1:=h3 rfl;subst e1;cases V with
      |none=>rw[O rfl];simp[we]
      |some v=>
       obtain⟨k,m,rfl,x1,rfl,x2⟩:=h2 v rfl;simp[we,vw,asIntOf,x1,x2]
     |some u=>
      obtain⟨k',W,rfl,y1,rfl,y2⟩:=h4 u rfl;cases V with
      |none=>rw[O rfl];simp[we,vw,asIntOf,y1,y2]
      |some v=>
       obtain⟨k,m,rfl,x1,rfl,x2⟩:=h2 v rfl;have x3:¬max W 0<m:=by omega
       simp[we,vw,asIntOf,x1,y1,y2,x3]
    split at h
    ·rename_i p len cap S;rw[G _ _ S];split at h
     ·rename_i i F;split at h
      ·rename_i el D;split at h
       ·rename_i j R;have E:=J.cT F;rw[D]at E;have H:=jk E;have fin:∀(a b:Nat) (v:Value),aH C.P (we true len cap (V.map e) (hi0.map e) none) (a,b,cap)->
          v=.slice (if cap=a then p else p.map (·.add (a*j.size))) (b-a) (cap-a)->K v->
          ∃v,sS C.P (do pure (.value (<-wW t (.slice p len cap) (V.map e) (hi0.map e) (xG e none)))) v/\K v:=by
         intro a b v hb A B;refine⟨v,aH.next ?_,B⟩;unfold wW;refine(aJ H).bind ?_;simp only[xo,Option.map_none];refine(aJ H).bind ?_;refine hb.bind ?_;subst A;exact(dm J R).bind .pure
        have am:(if cap=0 then p else p.map (·.add (0*j.size)))=p:=by
         cases p<;>simp[Addr.add]
        rcases a4 with⟨rfl,rfl⟩|⟨y,k,m,rfl,hy,rfl⟩<;>rcases ay with⟨rfl,rfl⟩|⟨y',k',W,rfl,hy',rfl⟩
        ·exact fin 0 len _ (I _ _ _ _ _ _ _ (λ_=>rfl) (by simp) (λ_=>rfl) (by simp)) (by rw[am];rfl) h
        ·obtain⟨⟨U,Z⟩,B⟩:=h;exact fin 0 W.toNat _ (I _ _ _ _ _ _ _ (λ_=>rfl) (by simp) (by simp) λv A=>by cases A;exact⟨k',W,hy',U,rfl,Z⟩) (by rw[am];rfl) B
        ·obtain⟨⟨U,Z⟩,B⟩:=h;exact fin m.toNat len _ (I _ _ _ _ _ _ _ (by simp) (λv A=>by cases A;exact⟨k,m,hy,U,rfl,Z⟩) (λ_=>rfl) (by simp)) rfl B
        ·obtain⟨⟨U,Z,a3⟩,B⟩:=h;exact fin m.toNat W.toNat _ (I _ _ _ _ _ _ _ (by simp) (λv A=>by cases A;exact⟨k,m,hy,U,rfl,by omega⟩) (by simp) λv A=>by cases A;exact⟨k',W,hy',by omega,rfl,a3⟩) rfl B
       ·exact h.elim
      ·exact h.elim
     ·exact h.elim
    ·rename_i s S;rw[G _ _ S];split at h
     ·rename_i i F;split at h
      ·rename_i D;have E:=J.cT F;rw[D]at E;have H:=uW E;have fin:∀(a b:Nat) (v:Value),aH C.P (we false s.size s.size (V.map e) (hi0.map e) none) (a,b,s.size)->
         v=.string (s.extract a b)->K v->
         ∃v,sS C.P (do pure (.value (<-wW t (.string s) (V.map e) (hi0.map e) (xG e none)))) v/\K v:=by
        intro a b v hb A B;refine⟨v,aH.next ?_,B⟩;unfold wW;refine(aJ H).bind ?_;simp only[xo,Option.map_none];refine(aJ H).bind ?_;subst A;intro w;simp[hb w]
       rcases a4 with⟨rfl,rfl⟩|⟨y,k,m,rfl,hy,rfl⟩<;>rcases ay with⟨rfl,rfl⟩|⟨y',k',W,rfl,hy',rfl⟩
       ·exact fin 0 s.size _ (I _ _ _ _ _ _ _ (λ_=>rfl) (by simp) (λ_=>rfl) (by simp)) rfl h
       ·obtain⟨⟨U,Z⟩,B⟩:=h;exact fin 0 W.toNat _ (I _ _ _ _ _ _ _ (λ_=>rfl) (by simp) (by simp) λv A=>by cases A;exact⟨k',W,hy',U,rfl,Z⟩) rfl B
       ·obtain⟨⟨U,Z⟩,B⟩:=h;exact fin m.toNat s.size _ (I _ _ _ _ _ _ _ (by simp) (λv A=>by cases A;exact⟨k,m,hy,U,rfl,Z⟩) (λ_=>rfl) (by simp)) rfl B
       ·obtain⟨⟨U,Z,a3⟩,B⟩:=h;exact fin m.toNat W.toNat _ (I _ _ _ _ _ _ _ (by simp) (λv A=>by cases A;exact⟨k,m,hy,U,rfl,by omega⟩) (by simp) λv A=>by cases A;exact⟨k',W,hy',by omega,rfl,a3⟩) rfl B
      ·exact h.elim
     ·exact h.elim
    ·rename_i a S;rw[G _ _ S];split at h
     ·rename_i i F;split at h
      ·rename_i n el D;split at h
       ·rename_i j R;have E:=J.cT F;rw[D]at E;have H:=sT E;have fin:∀(a' b:Nat) (v:Value),aH C.P (we false n n (V.map e) (hi0.map e) none) (a',b,n)->
          v=.slice (some (if n=a' then a else a.add (a'*j.size))) (b-a') (n-a')->K v->
          ∃v,sS C.P (do pure (.value (<-wW t (.pointer (some a)) (V.map e) (hi0.map e) (xG e none)))) v/\K v:=by
         intro a' b v hb A B;refine⟨v,aH.next ?_,B⟩;unfold wW;refine(aJ H).bind ?_;simp only[Option.map_none];refine aH.bind (v:=a) .pure ?_;refine hb.bind ?_;subst A;exact(dm J R).bind .pure
        have am:(if n=0 then a else a.add (0*j.size))=a:=by simp[Addr.add]
        rcases a4 with⟨rfl,rfl⟩|⟨y,k,m,rfl,hy,rfl⟩<;>rcases ay with⟨rfl,rfl⟩|⟨y',k',W,rfl,hy',rfl⟩
        ·exact fin 0 n _ (I _ _ _ _ _ _ _ (λ_=>rfl) (by simp) (λ_=>rfl) (by simp)) (by rw[am];rfl) h
        ·obtain⟨⟨U,Z⟩,B⟩:=h;exact fin 0 W.toNat _ (I _ _ _ _ _ _ _ (λ_=>rfl) (by simp) (by simp) λv A=>by cases A;exact⟨k',W,hy',U,rfl,Z⟩) (by rw[am];rfl) B
        ·obtain⟨⟨U,Z⟩,B⟩:=h;exact fin m.toNat n _ (I _ _ _ _ _ _ _ (by simp) (λv A=>by cases A;exact⟨k,m,hy,U,rfl,Z⟩) (λ_=>rfl) (by simp)) rfl B
        ·obtain⟨⟨U,Z,a3⟩,B⟩:=h;exact fin m.toNat W.toNat _ (I _ _ _ _ _ _ _ (by simp) (λv A=>by cases A;exact⟨k,m,hy,U,rfl,by omega⟩) (by simp) λv A=>by cases A;exact⟨k',W,hy',by omega,rfl,a3⟩) rfl B
       ·exact h.elim
      ·exact h.elim
     ·exact h.elim
    ·exact h.elim
   ·exact h.elim
 case extract x n=>
  split at h
  ·rename_i vs S;rw[G _ _ S];split at h
   ·rename_i v A;refine⟨v,aH.next ?_,h⟩;have:(⟨vs⟩:Array Value)[n]?=some v:=by simpa using A
    simp only[Instr.extract,this];exact .pure
   ·exact h.elim
  ·exact h.elim
 case binOp op t x y u=>
  split at h
  ·rename_i a b ha hb;rw[G _ _ ha,G _ _ hb];obtain⟨v,A,B⟩:=Xz (P:=C.P) (x:=x) (y:=y) (M t) h;exact⟨v,A.next,B⟩
  ·exact h.elim
 case unOp op t x=>
  split at h
  ·rename_i v A;rw[G _ _ A];unfold unV at h;split at h
   ·split at h
    ·exact⟨_,aH.next .pure,h⟩
    ·exact h.elim
   ·split at h
    ·exact⟨_,aH.next .pure,h⟩
    ·exact⟨_,aH.next .pure,h⟩
    ·exact h.elim
   ·exact h.elim
  ·exact h.elim
 case convert s d x=>
  split at h
  ·rename_i v ks A bl;rw[G _ _ A];have hs:=IK (M _ _ bl);unfold aeu at h;split at h
   ·split at h
    ·rename_i n _ k B;have H:=IK (M _ _ B);refine⟨_,aH.next ?_,h⟩;unfold convert;refine(aJ hs).bind ((aJ H).bind ?_);exact .pure
    ·exact h.elim
   ·exact h.elim
  ·exact h.elim
 case build t parts=>
  split at h
  ·rename_i vs bk;have hp:(parts.map λ(i,x)=>(i,e x)).toList=vs:=by have:=Jz G bk;simpa using this
   split at h
   ·rename_i i F;obtain⟨z,hz,a8⟩:=sC J F;have ao:i.zero.toArray=z.cells:=by rw[<-a8]
    cases hbig:xj 24 i.size with
    |true=>
     rw[hbig]at h;obtain⟨v,A,B⟩:=h;have a6:(parts.map λ(i,x)=>(i,e x))=vs.toArray:=by rw[<-hp]
     refine⟨v,aH.next ?_,B⟩;show aH C.P (xn t (parts.map λ(i,x)=>(i,e x))) v;rw[a6];exact A
    |false=>
    rw[hbig]at h;simp only[cond_false]at h;split at h
    ·rename_i fs X;have E:=J.cT F;rw[X]at E;obtain⟨gs,hg,rfl⟩:=pA E;split at h
     ·rename_i ps bd;split at h
      ·rename_i cells N;refine⟨_,aH.next (hz.bind ((aJ hg).bind ?_)),h⟩;have a9:aH C.P (gs.mapM λf=>(do pure (f.offset,<-sizeOf f.type):Sem (Nat×Nat))) ps.toArray:=by rw[vy];intro w;have:=nR J bd w;rw[map_eq_pure_bind,Sem.run_bind,this];rfl
       refine a9.bind ?_;have ax:wL (λn=>ps.toArray[n]?) z.cells (parts.map λ(i,x)=>(i,e x)).toList=some cells:=by rw[hp,<-ao];simpa using N
       rw[ax];exact .pure
      ·exact h.elim
     ·exact h.elim
    ·rename_i n el X;have E:=J.cT F;rw[X]at E;have H:=sT E;split at h
     ·rename_i j R;split at h
      ·rename_i cells N;refine⟨_,aH.next (hz.bind ((aJ H).bind ((dm J R).bind ?_))),h⟩;have ax:wL (λi=>some (i*j.size,j.size)) z.cells (parts.map λ(i,x)=>(i,e x)).toList=some cells:=by rw[hp,<-ao];exact N
       rw[ax];exact .pure
      ·exact h.elim
     ·exact h.elim
    ·exact h.elim
   ·exact h.elim
  ·exact h.elim
 case makeFunc fn first captured=>
  split at h
  ·rename_i a b ha hb;have O:first.map e=a.toArray:=by apply yC;simpa using DM G ha
   have h2:captured.map e=b.toArray:=by apply yC;simpa using DM G hb
   refine⟨_,aH.next ?_,h⟩;rw[O,h2];exact .pure
  ·exact h.elim
 case call c=>
  split at h
  ·rename_i b hb;have L:∀{v:Value},aH C.P (builtin b c.argTypes o.type (c.args.map λ| .const _=>true|_=>false) (c.args.map e)) (.value v)->
     sS C.P (do let d<-resolve e c o.type;invoke d.target d.args) v:=by
    intro v A w;have:=A w;unfold resolve;rw[hb];exact this
   have Q:∀{vs:List Value},rz ev c.args.toList=some vs->c.args.map e=vs.toArray:=λA=>by
    apply yC;simpa using DM G A
   have Y:∀{s:Sem Value} {v:Value},aH C.P s v->aH C.P (do pure (Next.value (<-s))) (.value v):=λhs=>hs.bind .pure;split at h
   case h_1=>
    split at h
    ·rename_i t ts x O h2;split at h
     ·rename_i v A;have ha:c.args.map e=#[v]:=by apply yC;rw[xf,h2];simp[G _ _ A]
      have ht:c.argTypes[0]?=some t:=by rw[<-yP,O];rfl
      unfold agE at h;split at h
      ·rename_i p n cap;split at h
       ·rename_i el D;have H:=jk (M _ _ D);refine⟨_,L ?_,h⟩;rw[ha];refine Y ?_;intro w;simp[Builtin.len_,ht,underlying,H,goInt]
       ·exact h.elim
      ·rename_i s;split at h
       ·rename_i D;have H:=uW (M _ _ D);refine⟨_,L ?_,h⟩;rw[ha];refine Y ?_;intro w;simp[Builtin.len_,ht,underlying,H,goInt]
       ·exact h.elim
      ·exact h.elim
     ·exact h.elim
    ·exact h.elim
   case h_2=>
    split at h
    ·rename_i t ts x O h2;split at h
     ·rename_i v A;have ha:c.args.map e=#[v]:=by apply yC;rw[xf,h2];simp[G _ _ A]
      have ht:c.argTypes[0]?=some t:=by rw[<-yP,O];rfl
      unfold agF at h;split at h
      ·rename_i p n cap;split at h
       ·rename_i el D;have H:=jk (M _ _ D);refine⟨_,L ?_,h⟩;rw[ha];refine Y ?_;intro w;simp[Builtin.cap_,ht,underlying,H,goInt]
       ·exact h.elim
      ·exact h.elim
     ·exact h.elim
    ·exact h.elim
   case h_3=>
    split at h
    ·rename_i k a k' b A;refine⟨_,L ?_,h⟩;rw[Q A];refine Y ?_;intro w;simp[Builtin.min_,Builtin.min2]
    ·exact h.elim
   case h_4=>
    split at h
    ·rename_i k a k' b A;refine⟨_,L ?_,h⟩;rw[Q A];refine Y ?_;intro w;simp[Builtin.max_,Builtin.max2]
    ·exact h.elim
   case h_5=>
    split at h
    ·rename_i k a b A;refine⟨_,L ?_,h⟩;rw[Q A];exact Y .pure
    ·exact h.elim
   case h_6=>
    split at h
    ·rename_i k a b A;refine⟨_,L ?_,h⟩;rw[Q A];exact Y .pure
    ·exact h.elim
   all_goals exact h.elim
  ·exact h.elim
 all_goals exact h.elim
end
def an(h:Heap)(a:Addr):Nat->List Value->Prop
 |_,[]=>True
 |n,v::r=>cellOf h (a.add n)=some v/\an h a (n+1) r
structure Bl where
 a:Addr
 ty:Ty
 n:Nat
def Bl.holds(r:Bl)(h:Heap)(y:r.ty.den):Prop:=
 match r.ty,y with
 | .sc s,y=>cellOf h r.a=some (s.enc y)
 | .agg l,y=>an h r.a 0 (Cd l y)
 | .arr s,y=>y.length=r.n/\an h r.a 0 (y.map s.enc)
def wd(T:kb)(op:Op)(ev:Operand->Option Value):Option Bl:=
 match op with
 | .load t x=>match ev x with
  |some (.pointer (some a))=>match T.get t with
   |some i=>match i.cT with
    | .struct _=>match i.ty with
     | .agg l=>bif wQ l.length i.size then some ⟨a,i.ty,i.size⟩else none
     |_=>none
    | .array _ _=>match i.ty with
     | .arr _=>some ⟨a,i.ty,i.size⟩
     |_=>none
    | .other=>none
    |_=>match i.ty with
     | .sc _=>some ⟨a,i.ty,1⟩
     |_=>none
   |none=>none
  |_=>none
 |_=>none
theorem JB:∀(l:List Sc) (x:NW l),(Cd l x).length=l.length
 |[],_=>rfl
 |[_],_=>rfl
 |_::t::r,x=>by simp only[Cd,zo];rw[JB (t::r) x.2];rfl
theorem run_loadCells{P:Program}{w:World}{a:Addr}:∀(vs:List Value) (i:Nat) (b:Array Value),an w.heap a i vs->
  (loadCellsFrom a i vs.length b).run P w=.ok (b++vs.toArray) w
 |[],i,b,_=>by simp[loadCellsFrom]
 |v::r,i,b,h=>by
  simp only[zo,loadCellsFrom,Sem.run_bind,run_load,NU,h.1,Result.andThen_ok];rw[run_loadCells r (i+1) (b.push v) h.2];simp
theorem DN{C:CM}(j:C.Ok){ev:Operand->Option Value}{e:Operand->Value}(G:∀x v,ev x=some v->e x=v){o:Oper}{r:Bl}
  (b:wd C.T o.op ev=some r) {y:r.ty.den} {w:World} (d:r.holds w.heap y):(execOp e o).run C.P w=.ok (.value (r.ty.enc y)) w:=by
 unfold wd at b;split at b
 ·rename_i t x q;simp only[execOp,q];split at b
  ·rename_i a F;rw[G _ _ F];split at b
   ·rename_i i p;have g:(∀v,(loadVar t a).run C.P w=.ok v w->(do let s<-xu t (.pointer (some a));pure (Next.value s):Sem Next).run C.P w=.ok (.value v) w):=by intro v A;have:xu t (.pointer (some a))=loadVar t a:=rfl;rw[this,Sem.run_bind,A];rfl
    split at b
    ·rename_i z h;split at b
     ·rename_i l f;cases hb:wQ l.length i.size with
      |false=>rw[hb]at b;cases b
      |true=>
       rw[hb]at b;simp only[cond_true,zS.injEq]at b;subst b;have k:=zM hb;have c:∀(ty:Ty) (y:ty.den),ty=.agg l->Bl.holds ⟨a,ty,i.size⟩ w.heap y->(loadVar t a).run C.P w=.ok (ty.enc y) w:=by rintro ty y rfl d;unfold loadVar;rw[Sem.run_bind,(kW j p).1 z h w];simp only[Result.andThen_ok,if_true,Sem.run_bind,dm j p w];have m:=run_loadCells (P:=C.P) (w:=w) (a:=a) (Cd l y) 0 #[] d;rw[JB,k]at m;unfold loadCells;rw[m];simp
       exact g _ (c i.ty y f d)
     ·cases b
    ·rename_i n D h;split at b
     ·rename_i s f;cases b;have c:∀(ty:Ty) (y:ty.den),ty=.arr s->Bl.holds ⟨a,ty,i.size⟩ w.heap y->(loadVar t a).run C.P w=.ok (ty.enc y) w:=by rintro ty y rfl ⟨f,d⟩;unfold loadVar;rw[Sem.run_bind,(kW j p).2.1 n D h w];simp only[Result.andThen_ok,if_true,Sem.run_bind,dm j p w];have m:=run_loadCells (P:=C.P) (w:=w) (a:=a) (y.map s.enc) 0 #[] d;rw[List.length_map,f]at m;unfold loadCells;rw[m];simp
      exact g _ (c i.ty y f d)
     ·cases b
    ·cases b
    ·rename_i E B H;split at b
     ·rename_i s f;cases b;have c:∀(ty:Ty) (y:ty.den),ty=.sc s->Bl.holds ⟨a,ty,1⟩ w.heap y->(loadVar t a).run C.P w=.ok (ty.enc y) w:=by rintro ty y rfl d;have u:cellOf w.heap a=some (s.enc y):=d;unfold loadVar;rw[Sem.run_bind,(kW j p).2.2 E B H w];simp[NU,u]
      exact g _ (c i.ty y f d)
     ·cases b
   ·cases b
  ·cases b
 ·cases b
def Typed(t:Ty)(K:Value->Heap->Prop)(v:Value)(h:Heap):Prop:=∃x:t.den,v=t.enc x/\K (t.enc x) h
def Lu(t:Rt)(K:Value->Heap->Prop)(v:Value)(h:Heap):Prop:=∃x:t.den,v=t.enc x/\K (t.enc x) h
def Lv(K:Value->Heap->Prop)(v:Value)(h:Heap):Prop:=∃a:Addr,v=.pointer (some a)/\K (.pointer (some a)) h
def agH(T:kb)(t:TypeId)(tup:List (TypeId×List Ty)):Option Rt:=
 match tup.find? (λp=>wQ p.1 t)with
 |some p=>some (.many p.2)
 |none=>match T.get t with
  |some i=>some (.one i.ty)
  |none=>none
structure Ctx extends CM where
 tup:List (TypeId×List Ty)
 fns:List Bool
structure Ctx.Ok (C:Ctx):Prop extends CM.Ok C.toCM where
 fns:(C.P.funcs.toList.map λf=>!(f.name== "runtime.NumGoroutine")&&f.body.isSome)=C.fns
def XA(C:Ctx)(g:FuncId)(args:List Value)(t:TypeId)(K:Value->Heap->Prop)(h:Heap):Prop:=
 match C.fns[g]? with
 |some true=>match agH C.T t C.tup with
  |some r=>ac C.P g args.toArray h (Lu r K)
  |none=>False
 |_=>False
def Lw(C:Ctx)(o:Oper)(ev:Operand->Option Value)(K:Value->Heap->Prop)(h:Heap):Prop:=
 match o.op with
 | .store t a x=>match ev a,ev x with
  |some p,some v=>ag C.P (Instr.storeAt t p v) h λ_ h'=>K undef h'
  |_,_=>False
 | .alloc t=>ag C.P (Instr.alloc t true (.tuple #[])) h (Lv K)
 | .box t x=>match ev x with
  |some v=>ag C.P (Instr.box t v) h (Lv K)
  |none=>False
 | .makeSlice t l c=>match ev l,ev c with
  |some l,some c=>ag C.P (Instr.makeSlice t l c) h (Typed (.sc .slc) K)
  |_,_=>False
 | .buildSlice t n parts=>match Gk ev parts.toList with
  |some ps=>ag C.P (Instr.buildSlice t n ps.toArray) h (Typed (.sc .slc) K)
  |none=>False
 | .makeMap t none=>ag C.P (Instr.makeMap t none) h (Typed (.sc .mp) K)
 | .lookup t x ix ok=>match ev x,ev ix,agH C.T o.type C.tup with
  |some m,some k,some r=>ag C.P (Instr.lookup t m k ok) h (Lu r K)
  |_,_,_=>False
 | .mapUpdate t m k x=>match ev m,ev k,ev x with
  |some m,some k,some v=>ag C.P (vk t m k v) h λ_ h'=>K undef h'
  |_,_,_=>False
 | .insert t m k x=>match ev m,ev k,ev x with
  |some m,some k,some v=>ag C.P (vk t m k v) h λ_ h'=>K undef h'
  |_,_,_=>False
 | .convert s d x=>match ev x,C.T.get o.type with
  |some v,some i=>ag C.P (convert s d v) h (Typed i.ty K)
  |_,_=>False
 | .binOp op t x y _=>match ev x,ev y,C.T.get o.type with
  |some a,some b,some i=>ag C.P (do eqGuard op t x y a b;binOp op t a b) h (Typed i.ty K)
  |some a,some b,none=>ag C.P (do eqGuard op t x y a b;binOp op t a b) h (Typed (.sc .bool) K)
  |_,_,_=>False
 | .slice t x lo hi mx=>match optVal ev lo,optVal ev hi,optVal ev mx,ev x with
  |some l,some r,some m,some v=>ag C.P (wW t v l r m) h (Typed (.sc .slc) K)
  |_,_,_,_=>False
 | .call c=>match c.callee with
  | .builtin .append=>match rz ev c.args.toList with
   |some vs=>ag C.P (Builtin.append_ c.argTypes o.type vs.toArray) h (Typed (.sc .slc) K)
   |none=>False
  | .builtin .copy=>match rz ev c.args.toList with
   |some vs=>ag C.P (Builtin.copy_ c.argTypes o.type vs.toArray) h (Typed (.sc (.int .i64)) K)
   |none=>False
  | .builtin .clear=>match rz ev c.args.toList with
   |some vs=>ag C.P (Builtin.clear_ c.argTypes o.type vs.toArray) h K
   |none=>False
  | .builtin .len=>match rz ev c.args.toList with
   |some vs=>ag C.P (Builtin.len_ c.argTypes o.type vs.toArray) h (Typed (.sc (.int .i64)) K)
   |none=>False
  | .builtin .unsafeString=>match rz ev c.args.toList with
   |some vs=>ag C.P (Builtin.unsafeString_ c.argTypes o.type vs.toArray) h (Typed (.sc .str) K)
   |none=>False
  | .builtin .delete=>match rz ev c.args.toList with
   |some vs=>ag C.P (Builtin.delete_ c.argTypes o.type vs.toArray) h K
   |none=>False
  | .value f=>match ev f,rz ev c.args.toList with
   |some (.func (.func g) ⟨first⟩ ⟨caps⟩),some vs=>XA C g (first++vs++caps) o.type K h
   |_,_=>False
  |_=>False
 |_=>False
where
 optVal (ev:Operand->Option Value):Option Operand->Option (Option Value)
  |none=>some none
  |some x=>match ev x with
   |some v=>some (some v)
   |none=>none
section
variable {P:Program} {h:Heap} {K:Value->Heap->Prop}
theorem fV{s:Sem Value}(a:ag P s h K):CK P (do pure (.value (<-s))) h K:=
 ag.bind (a.mono λ_ _ b=>ag.pure' b)
theorem Kp{s:Sem Unit}(b:ag P s h λ_ h'=>K undef h'):CK P (do s;pure .skip) h K:=
 ag.bind (b.mono λ_ _ a=>ag.pure' a)
theorem Typed.out{t:Ty}{v:Value}{h:Heap}(x:Typed t K v h):K v h:=by obtain⟨y,rfl,a⟩:=x;exact a
theorem Lu.out{t:Rt}{v:Value}{h:Heap}(x:Lu t K v h):K v h:=by obtain⟨y,rfl,a⟩:=x;exact a
theorem Lv.out{v:Value}{h:Heap}(x:Lv K v h):K v h:=by obtain⟨y,rfl,a⟩:=x;exact a
end
theorem Vj{C:Ctx}(f:C.Ok){g:FuncId}{args:List Value}{t:TypeId}{K:Value->Heap->Prop}{h:Heap}(b:XA C g args t K h):
  CK C.P (callFunc g args.toArray) h K:=by
 unfold XA at b;split at b
 ·rename_i e;split at b
  ·rename_i r i;have a:=congrArg (·[g]?) f.fns;simp only[qR,e]at a;cases hf:C.P.funcs.toList[g]? with
   |none=>rw[hf]at a;cases a
   |some fn=>
    rw[hf]at a;simp only[qQ,zS.injEq,qB,Bool.not_eq_true']at a;have c:C.P.funcs[g]?=some fn:=by simpa using hf
    have d:fn.body.isNone=false:=by cases hbb:fn.body<;>simp[hbb]at a⊢
    unfold callFunc;refine ag.bind (ag.act ?_);simp only[c,a.1,d];exact ag.pure' (b.mono λv h' x=>x.out)
  ·exact b.elim
 ·exact b.elim
theorem XB{C:Ctx}(T:C.Ok){ev:Operand->Option Value}{e:Operand->Value}(A:∀x v,ev x=some v->e x=v){o:Oper}
  {K:Value->Heap->Prop} {h:Heap} (j:Lw C o ev K h):CK C.P (execOp e o) h K:=by
 have H:∀{x:Option Operand} {r:Option Value},Lw.optVal ev x=some r->x.map e=r:=by
  intro x r I;cases x with
  |none=>cases I;rfl
  |some y=>
   simp only[Lw.optVal]at I;split at I
   ·rename_i v B;cases I;rw[qQ,A _ _ B]
   ·cases I
 unfold Lw at j;split at j
 ·rename_i t a x q;simp only[execOp,q];split at j
  ·rename_i p v X B;rw[A _ _ X,A _ _ B];exact Kp j
  ·exact j.elim
 ·rename_i t q;simp only[execOp,q];exact fV (j.mono λ_ _ x=>x.out)
 ·rename_i t x q;simp only[execOp,q];split at j
  ·rename_i v B;rw[A _ _ B];exact fV (j.mono λ_ _ x=>x.out)
  ·exact j.elim
 ·rename_i t l c q;simp only[execOp,q];split at j
  ·rename_i v u B Z;rw[A _ _ B,A _ _ Z];exact fV (j.mono λ_ _ x=>x.out)
  ·exact j.elim
 ·rename_i t n parts q;simp only[execOp,q];split at j
  ·rename_i U M;have:(parts.map λ(i,x)=>(i,e x))=U.toArray:=by apply yC;have:=Jz A M;simpa using this
   rw[this];exact fV (j.mono λ_ _ x=>x.out)
  ·exact j.elim
 ·rename_i t q;simp only[execOp,q];exact fV (j.mono λ_ _ x=>x.out)
 ·rename_i t x ix ok q;simp only[execOp,q];split at j
  ·rename_i m k r G F R;rw[A _ _ G,A _ _ F];exact fV (j.mono λ_ _ x=>x.out)
  ·exact j.elim
 ·rename_i t m k x q;simp only[execOp,q];split at j
  ·rename_i Y W v G F B;rw[A _ _ G,A _ _ F,A _ _ B];exact Kp j
  ·exact j.elim
 ·rename_i t m k x q;simp only[execOp,q];split at j
  ·rename_i Y W v G F B;rw[A _ _ G,A _ _ F,A _ _ B];exact Kp j
  ·exact j.elim
 ·rename_i s d x q;simp only[execOp,q];split at j
  ·rename_i v i B Q;rw[A _ _ B];exact fV (j.mono λ_ _ x=>x.out)
  ·exact j.elim
 ·rename_i op t x y u q;simp only[execOp,q];split at j
  ·rename_i a b i O L Q;rw[A _ _ O,A _ _ L];exact fV (j.mono λ_ _ x=>x.out)
  ·rename_i a b O L Q;rw[A _ _ O,A _ _ L];exact fV (j.mono λ_ _ x=>x.out)
  ·exact j.elim
 ·rename_i t x lo Q mx q;simp only[execOp,q];split at j
  ·rename_i l r m v V R G B;rw[H V,H R,H G,A _ _ B];exact fV (j.mono λ_ _ x=>x.out)
  ·exact j.elim
 ·rename_i c q;simp only[execOp,q];have w:∀{vs:List Value},rz ev c.args.toList=some vs->c.args.map e=vs.toArray:=λB=>by
   apply yC;simpa using DM A B
  split at j
  ·rename_i D;split at j
   ·rename_i vs z;unfold resolve;rw[D,w z];exact fV (j.mono λ_ _ x=>x.out)
   ·exact j.elim
  ·rename_i D;split at j
   ·rename_i vs z;unfold resolve;rw[D,w z];exact fV (j.mono λ_ _ x=>x.out)
   ·exact j.elim
  ·rename_i D;split at j
   ·rename_i vs z;unfold resolve;rw[D,w z];exact fV j
   ·exact j.elim
  ·rename_i D;split at j
   ·rename_i vs z;unfold resolve;rw[D,w z];exact fV (j.mono λ_ _ x=>x.out)
   ·exact j.elim
  ·rename_i D;split at j
   ·rename_i vs z;unfold resolve;rw[D,w z];exact fV (j.mono λ_ _ x=>x.out)
   ·exact j.elim
  ·rename_i D;split at j
   ·rename_i vs z;unfold resolve;rw[D,w z];exact fV j
   ·exact j.elim
  ·rename_i f D;split at j
   ·rename_i g first E vs S z
    unfold resolve;rw[D,w z];simp only[A _ _ S];have:=Vj T j;have J:(⟨first⟩:Array Value)++vs.toArray++(⟨E⟩:Array Value)=(first++vs++E).toArray:=by simp
    have N:CK C.P (callFunc g ((⟨first⟩:Array Value)++vs.toArray++(⟨E⟩:Array Value))) h K:=by rw[J];exact this
    simp only[Deferred.ofValue];exact N
   ·exact j.elim
  ·exact j.elim
 ·exact j.elim
def put(n:Nat)(a:Option Tmp)(K:Env->Heap->Prop)(ρ:Env)(v:Value)(h:Heap):Prop:=
 match a with
 |some d=>bif xj d n then K (.val d v::ρ) h else False
 |none=>K ρ h
theorem wf{n:Nat}{b:Option Tmp}{K:Env->Heap->Prop}{ρ:Env}{v:Value}{h:Heap}(c:put n b K ρ v h){a:Act}(e:Fits n a ρ):
  ∃ρ',Fits n (a.put b v) ρ'/\Ext ρ ρ' a (a.put b v)/\K ρ' h:=by
 unfold put at c;cases b with
 |none=>exact⟨ρ,e,Ext.refl _ _,c⟩
 |some d=>
  simp only at c;cases hb:xj d n with
  |false=>rw[hb]at c;exact c.elim
  |true=>rw[hb]at c;exact⟨_,e.put hb v,Ext.put v v,c⟩
def acA(C:Ctx)(n:Nat)(o:Oper)(K:Env->Heap->Prop)(ρ:Env)(h:Heap):Prop:=
 match CN C.P C.T o.op ρ.eval with
 | .no=>match wd C.T o.op ρ.eval with
  |some r=>∃y:r.ty.den,r.holds h y/\put n o.dst K ρ (r.ty.enc y) h
  |none=>Lw C o ρ.eval (put n o.dst K ρ) h
 |p=>p.holds λv=>put n o.dst K ρ v h
def Lx(ops:Array Oper)(o:Oper)(ρ:Env)(a skip:Env->Prop):Prop:=
 match o.guard with
 |none=>a ρ
 |some (j,want)=>match(ops[j]?).bind (·.dst)with
  |some d=>match ρ.get d with
   |some (.bool b)=>Br b (bif want then a (.val d (.bool true)::ρ)else skip (.val d (.bool true)::ρ)) (bif want then skip (.val d (.bool false)::ρ)else a (.val d (.bool false)::ρ))
   |some (.tuple _)=>skip ρ
   |_=>False
  |none=>False
theorem Fits.known{n:Nat}{a:Act}{ρ:Env}(c:Fits n a ρ){d:Nat}{v:Value}(e:ρ.get d=some v):Fits n a (.val d v::ρ)/\Ext ρ (.val d v::ρ) a a:=by
 refine⟨⟨c.size,c.defers,λt x b=>?_⟩,⟨[.val d v],rfl,λ_ _=>rfl⟩⟩;simp only[Env.get]at b;cases hb:wQ d t with
 |false=>rw[hb]at b;exact c.get t x b
 |true=>
  rw[hb]at b;have:=zM hb;subst this;rw[cond_true]at b;exact c.get _ x (e.trans b)
theorem JC{ops:Array Oper}{o:Oper}{ρ:Env}{g skip:Env->Prop}{n:Nat}{a:Act}(e:Fits n a ρ)(c:Lx ops o ρ g skip):
  ∃ρ',Fits n a ρ'/\Ext ρ ρ' a a/\((Region.wanted o (yielded ops a.tmps)=true/\g ρ')∨(Region.wanted o (yielded ops a.tmps)=false/\skip ρ')):=by
 unfold Lx at c;unfold Region.wanted;split at c
 ·rename_i m;rw[m];exact⟨ρ,e,Ext.refl _ _,.inl ⟨rfl,c⟩⟩
 ·rename_i j f m;rw[m];split at c
  ·rename_i d p;split at c
   ·rename_i b h;have l:yielded ops a.tmps j=some b:=by unfold yielded;rw[p];simp[e.get _ _ h]
    simp only[l];obtain⟨k,i⟩:=e.known h;cases b<;>cases f<;>simp only[Br,cond_true,cond_false]at c
    ·exact⟨_,k,i,.inl ⟨rfl,c⟩⟩
    ·exact⟨_,k,i,.inr ⟨rfl,c⟩⟩
    ·exact⟨_,k,i,.inr ⟨rfl,c⟩⟩
    ·exact⟨_,k,i,.inl ⟨rfl,c⟩⟩
   ·rename_i vs h;have l:yielded ops a.tmps j=none:=by unfold yielded;rw[p];simp[e.get _ _ h]
    simp only[l];exact⟨ρ,e,Ext.refl _ _,.inr ⟨by simp,c⟩⟩
   ·exact c.elim
  ·exact c.elim
theorem ZG{C:Ctx}(f:C.Ok){n:Nat}{o:Oper}{K:Env->Heap->Prop}{ρ:Env}{a:Act}{w:World}(j:Fits n a ρ)(d:acA C n o K ρ w.heap)
  {Q:Exit->Act->World->Prop} {next:Act->World->Prop}
  (s:∀a' w' ρ',Fits n a' ρ'->Ext ρ ρ' a a'->cY w w'->K ρ' w'.heap->next a' w'):o.wp C.P a w next Q:=by
 have g:∀x v,ρ.eval x=some v->a.eval x=v:=λx v h=>j.eval h;have b:∀v w',cY w w'->put n o.dst K ρ v w'.heap->next (a.put o.dst v) w':=λv w' l t=>by
  obtain⟨ρ',q,k,h3⟩:=wf t j;exact s _ _ _ q k l h3
 have c:(CN C.P C.T o.op ρ.eval).holds (λv=>put n o.dst K ρ v w.heap)->o.wp C.P a w next Q:=λh=>by
  obtain⟨v,m,i⟩:=Lt f.toOk g h;unfold Oper.wp;rw[m w];exact b v w (cY.refl w) i
 unfold acA at d;split at d
 ·split at d
  ·rename_i r e;obtain⟨y,p,i⟩:=d;unfold Oper.wp;rw[DN f.toOk g e p];exact b _ w (cY.refl w) i
  ·exact aij (XB f g d) b
 ·exact c d
def IL(C:Ctx)(n:Nat)(ops:Array Oper)(o:Oper)(K:Env->Heap->Prop)(ρ:Env)(h:Heap):Prop:=
 Lx ops o ρ (λρ=>acA C n o K ρ h) (λρ=>put n o.dst K ρ undef h)
theorem Ly{C:Ctx}(g:C.Ok){n:Nat}{ops:Array Oper}{o:Oper}{i:Nat}(l:ops[i]?=some o){K:Env->Heap->Prop}{ρ:Env}{a:Act}{w:World}
  (f:Fits n a ρ) (k:IL C n ops o K ρ w.heap) {Q:Exit->Act->World->Prop} {next:Act->World->Prop}
  (e:∀a' w' ρ',Fits n a' ρ'->Ext ρ ρ' a a'->cY w w'->K ρ' w'.heap->next a' w'):wpOp C.P ops Q i next a w:=by
 obtain⟨ρ',d,c,h3⟩:=JC f k;unfold wpOp;simp only[l];rcases h3 with⟨hw,hr⟩|⟨hw,hr⟩
 ·simp only[hw,if_true];exact .inl (ZG g d hr λa' w' b p x2 x3 m=>e _ _ _ p (c.trans x2) x3 m)
 ·simp only[hw,ze,if_false];obtain⟨b,q,j,h⟩:=wf hr d;exact e _ _ _ q (c.trans j) (cY.refl w) h
def acB(C:Ctx)(n:Nat)(ops:Array Oper)(K:Env->Heap->Prop):List Oper->Env->Heap->Prop
 |[],ρ,h=>K ρ h
 |o::r,ρ,h=>IL C n ops o (acB C n ops K r) ρ h
def Out(n:Nat)(Q:Exit->Env->Heap->Prop)(ρ:Env)(a:Act)(w:World):Exit->Act->World->Prop:=λe a' w'=>
 ∃ρ',Fits n a' ρ'/\Ext ρ ρ' a a'/\cY w w'/\Q e ρ' w'.heap
theorem Pu{C:Ctx}(b:C.Ok){n:Nat}{ops:Array Oper}{K:Env->Heap->Prop}{Q:Exit->Act->World->Prop}{ρ0:Env}{a0:Act}{w0:World}
  (c:∀a w ρ,Fits n a ρ->Ext ρ0 ρ a0 a->cY w0 w->K ρ w.heap->Q .normal a w):
  ∀(r:List Oper) (i:Nat),(∀j,r[j]?=ops[i+j]?)->∀(ρ:Env) (a:Act) (w:World),Fits n a ρ->Ext ρ0 ρ a0 a->cY w0 w->acB C n ops K r ρ w.heap->
   wpOps C.P ops Q (List.range' i r.length) a w
 |[],i,_,ρ,a,w,hf,hx,hl,hs=>c a w ρ hf hx hl hs
 |o::r,i,hr,ρ,a,w,hf,hx,hl,hs=>by
  have f:ops[i]?=some o:=by simpa using(hr 0).symm
  rw[zo,List.range'_succ,wpOps_cons];refine Ly b f hf hs λa' w' ρ' g d h3 e=>?_;exact Pu b c r (i+1) (λj=>by have:=hr (j+1);simpa[Nat.add_assoc,Nat.add_comm 1 j]using this) ρ' a' w' g (hx.trans d) (hl.trans h3) e
abbrev aA:=List (Addr×Value)
def aA.ok:aA->Heap->Prop
 |[],_=>True
 |p::r,h=>cellOf h p.1=some p.2/\aA.ok r h
def mK(a:Addr):Nat->List Value->aA->aA
 |_,[],L=>L
 |n,v::r,L=>(a.add n,v)::mK a (n+1) r L
theorem nS{a:Addr}{h:Heap}:∀{vs:List Value} {n:Nat} {L:aA},(mK a n vs L).ok h↔an h a n vs/\L.ok h
 |[],_,L=>by simp[mK,an]
 |v::r,n,L=>by simp only[mK,aA.ok,an,nS (vs:=r),and_assoc]
def Bl.held(r:Bl)(y:r.ty.den)(L:aA):aA:=
 match r.ty,y with
 | .sc s,y=>(r.a,s.enc y)::L
 | .agg l,y=>mK r.a 0 (Cd l y) L
 | .arr s,y=>mK r.a 0 (y.map s.enc) L
theorem Bl.afr{r:Bl}{y:r.ty.den}{L:aA}{b:Heap}(c:r.holds b y){m:Heap}:(r.held y L).ok m↔r.holds m y/\L.ok m:=by
 obtain⟨a,ty,n⟩:=r;cases ty with
 |sc s=>exact Iff.rfl
 |agg l=>exact nS
 |arr s=>exact nS.trans ⟨λx=>⟨⟨c.1,x.1⟩,x.2⟩,λx=>⟨x.1.2,x.2⟩⟩
structure fZ where
 op:Nat
 r:Bl
 y:r.ty.den
def flat:List fZ->aA
 |[]=>[]
 |p::r=>p.r.held p.y (flat r)
def fZ.ok(p:fZ)(w:World):Prop:=p.r.holds w.heap p.y
def waits(ops:Array Oper)(j i:Nat):Bool:=match ops[j]? with
 |some o=>o.after.any λe=>Region.binds .any e&&wQ e.on i
 |none=>false
def keep(ops:Array Oper)(j:Nat):List fZ->List fZ
 |[]=>[]
 |p::r=>bif waits ops j p.op then keep ops j r else p::keep ops j r
theorem rT{ops:Array Oper}{j:Nat}:∀{L:List fZ},∀p∈keep ops j L,p∈L
 |[],p,h=>by cases h
 |q::r,p,h=>by
  unfold keep at h;cases hw:waits ops j q.op with
  |true=>rw[hw]at h;exact qS _ (rT p h)
  |false=>
   rw[hw]at h;rcases zd.1 h with rfl|h
   ·exact zb
   ·exact qS _ (rT p h)
theorem DO{ops:Array Oper}{j:Nat}:∀{L:List fZ} {p:fZ},p∈L->waits ops j p.op=false->p∈keep ops j L
 |q::r,p,h,hw=>by
  unfold keep;rcases zd.1 h with rfl|h
  ·rw[hw];exact zb
  ·cases hq:waits ops j q.op with
   |true=>exact DO h hw
   |false=>exact qS _ (DO h hw)
theorem Kq{ops:Array Oper}{j:Nat}{p:fZ}:∀{M:List fZ},p∈keep ops j M->waits ops j p.op=false
 |[],h=>by cases h
 |q::r,h=>by
  unfold keep at h;cases hq:waits ops j q.op with
  |true=>rw[hq]at h;exact Kq h
  |false=>
   rw[hq]at h;rcases zd.1 h with rfl|h
   ·exact hq
   ·exact Kq h
theorem Gl{ops:Array Oper}{j:Nat}{L a:List fZ}(c:∀p∈a,p∈L):∀p∈keep ops j a,p∈keep ops j L:=
 λp b=>DO (c p (rT p b)) (Kq b)
def ma(P:Program)(ops:Array Oper)(Q:Exit->Act->World->Prop):Nat->List fZ->Array Bool->Act->World->Prop
 |0,_,listed,a,w=>Region.ready .any ops listed=[]/\Q .normal a w
 |fuel+1,L,listed,a,w=>
  (Region.ready .any ops listed=[]->Q .normal a w)/\
  ∀i∈Region.ready .any ops listed,wpOp P ops Q i (λa' w'=>(∀p∈keep ops i L,p.ok w')/\ma P ops Q fuel (keep ops i L) (listed.setIfInBounds i true) a' w') a w
theorem Lz{P:Program}{ops:Array Oper}{Q:Exit->Act->World->Prop}:∀(b:Nat) (L:List fZ) (c:Array Bool) (a:Act) (w:World),ma P ops Q b L c a w->wpAny P .any ops Q b c a w
 |0,_,_,_,_,h=>h
 |b+1,_,_,_,_,h=>⟨h.1,λi d=>wpOp_mono (λa' w' h'=>Lz b _ _ a' w' h'.2) (h.2 i d)⟩
theorem DP{P:Program}{ops:Array Oper}{Q:Exit->Act->World->Prop}:∀(b:Nat) {L d:List fZ} (c:Array Bool) (a:Act) (w:World),(∀p∈d,p∈L)->ma P ops Q b L c a w->ma P ops Q b d c a w
 |0,_,_,_,_,_,_,h=>h
 |b+1,_,_,_,_,_,hs,h=>⟨h.1,λi e=>wpOp_mono (λa' w' h'=>⟨λp f=>h'.1 p (Gl hs p f),DP b _ a' w' (Gl hs) h'.2⟩) (h.2 i e)⟩
theorem RW{P:Program}{ops:Array Oper}{Q:Exit->Act->World->Prop}{i:Nat}{r:Oper}{v:Value}{T:World->Prop}{N:List fZ}(Z:ops[i]?=some r)(y:∀(j:Nat) (o:Oper) cs b,ops[j]?=some o->o.op≠.select cs b)
  (hQ:∀c a w,Q (.panic c) (a.put r.dst v) w->Q (.panic c) a w) (hN:∀p∈N,p.op=i) (hT:∀w,(∀p∈N,p.ok w)->T w):
  ∀(f:Nat) (L:List fZ) (d:Array Bool) (a:Act) (w:World),
   (∀j s,ops[j]?=some s->j≠i->d.getD j true=false->(∀e∈s.after,Region.binds .any e=true->e.on≠i)->r.apart ops s=true)->
   i∈Region.ready .any ops d->YieldsIf P ops T r v a->(∀p∈N,p.ok w)->(∀p∈L,p.ok w)->
   ma P ops Q f (N++L) (d.setIfInBounds i true) (a.put r.dst v) w->ma P ops Q (f+1) L d a w:=by
 intro f;have A:∀(f:Nat) (L:List fZ) (d:Array Bool) (a:Act) (w:World),YieldsIf P ops T r v a->(∀p∈N,p.ok w)->(∀p∈L,p.ok w)->
   ma P ops Q f (N++L) (d.setIfInBounds i true) (a.put r.dst v) w->
   wpOp P ops Q i (λa' w'=>(∀p∈keep ops i L,p.ok w')/\ma P ops Q f (keep ops i L) (d.setIfInBounds i true) a' w') a w:=λf L d a w G n K H=>
  G.wpOp Z (hT w n) ⟨λp g=>K p (rT p g),DP f _ _ _ (λp g=>wM _ (rT p g)) H⟩
 induction f with
 |zero=>
  intro L d a w _ E G n K H;refine⟨λh=>(by rw[h]at E;cases E),λj S=>?_⟩;by_cases l:j=i
  ·subst l;exact A 0 L d a w G n K H
  ·have:=ready_mono S l;rw[H.1]at this;cases this
 |succ f ih=>
  intro L d a w q E G n K H;refine⟨λh=>(by rw[h]at E;cases E),λj S=>?_⟩;by_cases l:j=i
  ·subst l;exact A (f+1) L d a w G n K H
  ·have F:=H.2 j (ready_mono S l);obtain⟨B,s,u,J⟩:=mem_ready.1 S;have x:∀e∈s.after,Region.binds .any e=true->e.on≠i:=λe he I U=>by
    have F:=J e he I;have Y:=(mem_ready.1 E).1;rw[U]at F;rcases Nat.lt_or_ge i d.size with h'|h'
    ·simp[h']at Y F;rw[Y]at F;cases F
    ·simp[Array.getElem?_eq_none h']at F
   have R:(s.after.any λe=>Region.binds .any e&&wQ e.on i)=false:=by
    cases hc:s.after.any λe=>Region.binds .any e&&wQ e.on i with
    |false=>rfl
    |true=>
     obtain⟨k,W,I⟩:=Array.any_eq_true.1 hc;simp only[qB]at I;exact absurd (zM I.2) (x _ (Array.getElem_mem W) I.1)
   have D:waits ops j i=false:=by unfold waits;rw[u];exact R
   have z:∀p,p∈N->p∈keep ops j (N++L):=λp g=>DO (List.mem_append_left _ g) (by rw[hN p g];exact D);have m:∀p,p∈keep ops j L->p∈keep ops j (N++L):=Gl λp g=>wM _ g;have h2:=wpOp_putIf u (q j s u l B x) (λcs b=>y i r cs b Z) (λcs b=>y j s cs b u) hQ G F;have t:∀k ok,ops[k]?=some ok->k≠i->(d.setIfInBounds j true).getD k true=false->
     (∀e∈ok.after,Region.binds .any e=true->e.on≠i)->r.apart ops ok=true:=λk ok W V M X=>by
    refine q k ok W V ?_ X;by_cases O:j=k
    ·subst O;exact B
    ·rw[getD_set_ne true O]at M;exact M
   refine wpOp_mono (λa' w' h3=>⟨λp g=>h3.2.1 p (m p g),ih (keep ops j L) (d.setIfInBounds j true) a' w' t (ready_mono E (Ne.symm l)) h3.1 (λp g=>h3.2.1 p (z p g)) (λp g=>h3.2.1 p (m p g)) ?_⟩) h2;rw[Array.setIfInBounds_comm _ _ l];refine DP _ _ _ _ (λp g=>?_) h3.2.2;rcases List.mem_append.1 g with g|g
   ·exact z p g
   ·exact m p g
theorem Cf{P:Program}{ops:Array Oper}{Q:Exit->Act->World->Prop}{i:Nat}{e:Oper}{v:Value}{T:World->Prop}{N:List fZ}{d:Nat}{L:List fZ}{b:Array Bool}{a:Act}{w:World}(g:ops[i]?=some e)
  (r:Region.noSelect ops=true) (j:Region.free .any ops b i=true) (o:(Region.ready .any ops b).contains i=true)
  (m:∀c a w,Q (.panic c) (a.put e.dst v) w->Q (.panic c) a w) (l:∀p∈N,p.op=i) (q:∀w,(∀p∈N,p.ok w)->T w) (n:YieldsIf P ops T e v a) (f:∀p∈N,p.ok w) (k:∀p∈L,p.ok w)
  (h:ma P ops Q d (N++L) (b.setIfInBounds i true) (a.put e.dst v) w):ma P ops Q (d+1) L b a w:=
 RW g (Region.noSelect_spec r) m l q d L b a w (Region.free_spec g j) (by simpa using o) n f k h
theorem NX:∀{L:List fZ} {w0:World},(∀p∈L,p.ok w0)->∀{m:Heap},(flat L).ok m->∀p∈L,p.r.holds m p.y
 |[],_,_,_,_,p,a=>by cases a
 |q::r,w0,h0,m,h,p,a=>by
  have h:=(Bl.afr (h0 q zb)).1 h;rcases zd.1 a with rfl|a
  ·exact h.1
  ·exact NX (λp a=>h0 p (qS _ a)) h.2 p a
def aev(T:kb)(t:TypeId):Bool:=match T.get t with
 |some i=>match i.ty with
  | .sc .slc=>true
  |_=>false
 |none=>false
def aew(T:kb):Op->Bool
 | .convert s d _=>!(aev T s||aev T d)
 | .move _| .assign _| .pick .. | .nilCheck _| .fieldAddr .. | .indexAddr .. | .index .. | .field .. | .extract .. | .binOp .. | .unOp .. | .build .. | .makeFunc .. | .load .. =>true
 | .slice _ _ _ _ none=>true
 | .call c=>match c.callee with
  | .builtin .len| .builtin .cap| .builtin .min| .builtin .max| .builtin .real| .builtin .imag=>true
  |_=>false
 |_=>false
def oz(T:kb)(ops:Array Oper)(a:Array Bool):List Nat->Option Nat
 |[]=>none
 |i::r=>match ops[i]? with
  |some o=>bif aew T o.op&&Region.free .any ops a i then some i else oz T ops a r
  |none=>oz T ops a r
def XC(C:Ctx)(n:Nat)(ops:Array Oper)(i:Nat)(o:Oper)(L:List fZ)(K:List fZ->Env->Heap->Prop)(ρ:Env)(h:Heap):Prop:=
 Lx ops o ρ (λρ=>match CN C.P C.T o.op ρ.eval with
  | .no=>match wd C.T o.op ρ.eval with
   |some r=>∃y:r.ty.den,r.holds h y/\put n o.dst (K (⟨i,r,y⟩::L)) ρ (r.ty.enc y) h
   |none=>False
  |p=>p.holds λv=>put n o.dst (K L) ρ v h) (λρ=>put n o.dst (K L) ρ undef h)
def RX(C:Ctx)(n:Nat)(ops:Array Oper)(K:Nat->Env->Heap->Prop)(ρ:Env)(h:Heap):List Nat->Prop
 |[]=>True
 |[i]=>match ops[i]? with
  |some o=>IL C n ops o (K i) ρ h
  |none=>False
 |i::j::r=>(match ops[i]? with
  |some o=>IL C n ops o (K i) ρ h
  |none=>False)/\RX C n ops K ρ h (j::r)
def wi(C:Ctx)(n:Nat)(ops:Array Oper)(K:Env->Heap->Prop):Nat->Array Bool->List fZ->Env->Heap->Prop
 |0,listed,_,ρ,h=>bif (Region.ready .any ops listed).isEmpty then K ρ h else False
 |k+1,listed,L,ρ,h=>match oz C.T ops listed (Region.ready .any ops listed)with
  |some i=>match ops[i]? with
   |some o=>XC C n ops i o L (wi C n ops K k (listed.setIfInBounds i true)) ρ h
   |none=>False
  |none=>match Region.ready .any ops listed with
   |[]=>K ρ h
   |i::r=>RX C n ops (λi ρ h=>(flat (keep ops i L)).ok h/\wi C n ops K k (listed.setIfInBounds i true) (keep ops i L) ρ h) ρ h (i::r)
theorem tW{T:kb}{ops:Array Oper}{a:Array Bool}:∀{rs:List Nat} {i:Nat},oz T ops a rs=some i->i∈rs/\Region.free .any ops a i=true
 |[],_,h=>by cases h
 |j::r,i,h=>by
  simp only[oz]at h;split at h
  ·rename_i o b;cases hb:(aew T o.op&&Region.free .any ops a j)with
   |true=>
    rw[hb]at h;cases h;simp only[qB]at hb;exact⟨zb,hb.2⟩
   |false=>
    rw[hb]at h;have:=tW h;exact⟨qS _ this.1,this.2⟩
  ·have:=tW h;exact⟨qS _ this.1,this.2⟩
theorem Pv{C:Ctx}{n:Nat}{ops:Array Oper}{K:Nat->Env->Heap->Prop}{ρ:Env}{h:Heap}:∀{l:List Nat},RX C n ops K ρ h l->∀i∈l,∃o,ops[i]?=some o/\IL C n ops o (K i) ρ h
 |[],_,i,hi=>by cases hi
 |[j],ha,i,hi=>by
  simp only[qC]at hi;subst hi;simp only[RX]at ha;split at ha
  ·rename_i o a;exact⟨o,a,ha⟩
  ·exact ha.elim
 |j::k::r,ha,i,hi=>by
  obtain⟨b,c⟩:=ha;rcases zd.1 hi with rfl|hi
  ·split at b
   ·rename_i o a;exact⟨o,a,b⟩
   ·exact b.elim
  ·exact Pv c i hi
section
variable {C:Ctx} {n:Nat} {ops:Array Oper} {K:Env->Heap->Prop} {Q:Exit->Act->World->Prop} {ρ0:Env} {a0:Act} {w0:World}
theorem Pw(G:C.Ok)(I:Region.noSelect ops=true)
  (S:∀a w ρ,Fits n a ρ->Ext ρ0 ρ a0 a->cY w0 w->K ρ w.heap->Q .normal a w) (E:∀c a w,¬Q (.panic c) a w):
  ∀(k:Nat) (b:Array Bool) (L:List fZ) (ρ:Env) (a:Act) (w:World),Fits n a ρ->Ext ρ0 ρ a0 a->cY w0 w->(∀p∈L,p.ok w)->
   wi C n ops K k b L ρ w.heap->ma C.P ops Q k L b a w
 |0,b,L,ρ,a,w,hf,hx,hl,hL,h=>by
  simp only[wi]at h;cases hb:(Region.ready .any ops b).isEmpty with
  |false=>rw[hb]at h;exact h.elim
  |true=>rw[hb]at h;exact⟨by simpa using hb,S _ _ _ hf hx hl h⟩
 |k+1,b,L,ρ,a,w,hf,hx,hl,hL,h=>by
  have M:=Pw G I S E k;simp only[wi]at h;split at h
  ·rename_i i J;obtain⟨z,f⟩:=tW J;have e:(Region.ready .any ops b).contains i=true:=by simpa using z
   split at h
   ·rename_i o u;unfold XC at h;obtain⟨ρ',H,O,h3⟩:=JC hf h;have q:∀c a w (v:Value),Q (.panic c) (Act.put a o.dst v) w->Q (.panic c) a w:=λc a w v hq=>absurd hq (E c _ w);have Z:∀x v,Env.eval ρ' x=some v->a.eval x=v:=λx v h=>H.eval h;rcases h3 with⟨t,g⟩|⟨t,g⟩
    ·have s:(CN C.P C.T o.op (Env.eval ρ')).holds (λv=>put n o.dst (wi C n ops K k (b.setIfInBounds i true) L) ρ' v w.heap)->
       ma C.P ops Q (k+1) L b a w:=λd=>by
      obtain⟨v,hv,W⟩:=Lt G.toOk Z d;obtain⟨l,F,D,A⟩:=wf W H;exact Cf (N:=[]) (T:=λ_=>True) u I f e (λc a w=>q c a w v) (λp d=>by cases d) (λ_ _=>trivial) (.inl ⟨t,λw _=>hv w⟩) (λp d=>by cases d) hL
       (M _ L l _ w F (hx.trans (O.trans D)) hl hL A)
     split at g
     ·split at g
      ·rename_i r B;obtain⟨y,Y,W⟩:=g;obtain⟨l,F,D,A⟩:=wf W H;have R:∀p∈[(⟨i,r,y⟩:fZ)],p.ok w:=λp d=>by rw[qC]at d;subst d;exact Y
       refine Cf (N:=[⟨i,r,y⟩]) (T:=λw=>r.holds w.heap y) u I f e (λc a w=>q c a w _) (λp d=>by rw[qC]at d;subst d;rfl)
        (λw h=>h ⟨i,r,y⟩ (qC.2 rfl)) (.inl ⟨t,λw t=>DN G.toOk Z B t⟩) R hL ?_
       refine M _ (⟨i,r,y⟩::L) l _ w F (hx.trans (O.trans D)) hl (λp d=>?_) A;rcases zd.1 d with rfl|d
       ·exact Y
       ·exact hL p d
      ·exact g.elim
     ·exact s g
    ·obtain⟨l,F,D,A⟩:=wf g H;exact Cf (N:=[]) (T:=λ_=>True) u I f e (λc a w=>q c a w undef) (λp d=>by cases d) (λ_ _=>trivial) (.inr ⟨t,rfl⟩) (λp d=>by cases d) hL
      (M _ L l _ w F (hx.trans (O.trans D)) hl hL A)
   ·exact h.elim
  ·split at h
   ·rename_i g;exact⟨λ_=>S _ _ _ hf hx hl h,λi J=>by rw[g]at J;cases J⟩
   ·rename_i i r g;refine⟨λh0=>absurd (g▸h0) (by simp),λj X=>?_⟩;rw[g]at X;obtain⟨o,u,U⟩:=Pv h j X;have m:∀p∈keep ops j L,p.ok w:=λp d=>hL p (rT p d);exact Ly G u hf U λa' w' ρ' x1 x2 x3 V=>⟨NX m V.1,M _ (keep ops j L) ρ' a' w' x1 (hx.trans x2) (hl.trans x3) (NX m V.1) V.2⟩
end
def sched(T:kb)(ops:Array Oper):Nat->Array Bool->Option (List (Nat×Bool))
 |0,listed=>bif (Region.ready .any ops listed).isEmpty then some []else none
 |k+1,listed=>match oz T ops listed (Region.ready .any ops listed)with
  |some i=>(sched T ops k (listed.setIfInBounds i true)).map ((i,true)::·)
  |none=>match Region.ready .any ops listed with
   |[]=>some []
   |[i]=>(sched T ops k (listed.setIfInBounds i true)).map ((i,false)::·)
   |_::_::_=>none
def sU(C:Ctx)(n:Nat)(ops:Array Oper)(K:Env->Heap->Prop):List (Nat×Bool)->List fZ->Env->Heap->Prop
 |[],_,ρ,h=>K ρ h
 |(i,true)::r,L,ρ,h=>match ops[i]? with
  |some o=>XC C n ops i o L (sU C n ops K r) ρ h
  |none=>False
 |(i,false)::r,L,ρ,h=>match ops[i]? with
  |some o=>IL C n ops o (λρ h=>(flat (keep ops i L)).ok h/\sU C n ops K r (keep ops i L) ρ h) ρ h
  |none=>False
theorem Px{C:Ctx}{n:Nat}{ops:Array Oper}{K:Env->Heap->Prop}:∀(k:Nat) (a:Array Bool) (l:List (Nat×Bool)),sched C.T ops k a=some l->
  wi C n ops K k a=sU C n ops K l
 |0,a,l,hs=>by
  simp only[sched]at hs;cases hb:(Region.ready .any ops a).isEmpty with
  |false=>rw[hb]at hs;cases hs
  |true=>
   rw[hb]at hs;cases hs;funext L ρ h;simp only[wi,hb,sU,cond_true]
 |k+1,a,l,hs=>by
  have d:=λi=>Px (C:=C) (n:=n) (ops:=ops) (K:=K) k (a.setIfInBounds i true);funext L ρ h;unfold sched at hs;unfold wi;cases hi:oz C.T ops a (Region.ready .any ops a)with
  |some i=>
   rw[hi]at hs;obtain⟨c,b,rfl⟩:=vi.1 hs;simp only[sU,d i c b]
  |none=>
   rw[hi]at hs;generalize e:Region.ready .any ops a=rd at hs
   match rd,hs with
   |[],hs=>cases hs;simp only[sU]
   |[i],hs=>
    obtain⟨c,b,rfl⟩:=vi.1 hs;simp only[RX,sU,d i c b]
def NY(C:Ctx)(n:Nat)(ops:Array Oper)(a:Bool)(K:Env->Heap->Prop)(ρ:Env)(h:Heap):Prop:=
 match a with
 |false=>acB C n ops K ops.toList ρ h
 |true=>bif Region.noSelect ops then(match sched C.T ops ops.size (vF ops.size false)with
  |some l=>sU C n ops K l [] ρ h
  |none=>wi C n ops K ops.size (vF ops.size false) [] ρ h)else False
theorem RY{C:Ctx}(d:C.Ok){n:Nat}{id:Nat}{ops:Array Oper}{b:Bool}{Q:Exit->Env->Heap->Prop}{ρ:Env}{a:Act}{w:World}(i:Fits n a ρ)
  (h:NY C n ops b (Q .normal) ρ w.heap):(Code.region id ops b).wp C.P (λe a' w'=>(∀c,e≠.panic c)/\Out n Q ρ a w e a' w') a w:=by
 cases b with
 |false=>
  refine wp_region ?_;have:=Pu d (Q:=λe a' w'=>(∀c,e≠.panic c)/\Out n Q ρ a w e a' w') (K:=Q .normal) (ρ0:=ρ) (a0:=a) (w0:=w) (λa' w' ρ' g x2 x3 f=>⟨λc e=>(by cases e),ρ',g,x2,x3,f⟩)
   ops.toList 0 (λj=>by simp) ρ a w i (Ext.refl _ _) (cY.refl _) h
  rw[List.range_eq_range'];simpa using this
 |true=>
  simp only[NY]at h;cases hb:Region.noSelect ops with
  |false=>rw[hb]at h;exact h.elim
  |true=>
   rw[hb]at h;have h:wi C n ops (Q .normal) ops.size (vF ops.size false) [] ρ w.heap:=by
    simp only[cond_true]at h;split at h
    ·rename_i l k;rw[Px _ _ _ k];exact h
    ·exact h
   refine wp_region_any d.mixed (Lz _ [] _ _ _ ?_);exact Pw d hb (Q:=λe a' w'=>(∀c,e≠.panic c)/\Out n Q ρ a w e a' w') (ρ0:=ρ) (a0:=a) (w0:=w) (λa' w' ρ' g x2 x3 f=>⟨λc e=>(by cases e),ρ',g,x2,x3,f⟩)
    (λc a w m=>m.1 c rfl) _ _ [] ρ a {w with drawn:=w.drawn+1} i (Ext.refl _ _) ⟨rfl,rfl,rfl,Nat.le_succ _⟩ (λp o=>by cases o) h
def bi{σ:Type}(rest:σ->Heap->Prop)(B:(σ->Heap->Prop)->Prop):Prop:=∃R:σ->Heap->Prop,(∀s h,R s h->rest s h)/\B R
def aM{σ:Type}(B:σ->(σ->Heap->Prop)->Heap->Prop)(s:σ)(h:Heap):Prop:=
 ∃(τ:Type) (V:τ->σ) (I:τ->Heap->Prop) (μ:τ->Nat) (t0:τ),s=V t0/\I t0 h/\∀t h,I t h->B (V t) (λb h'=>∃a,b=V a/\I a h'/\μ a<μ t) h
theorem ZH{P:Program}{c:Code}{Q:Exit->Act->World->Prop}{a:Act}{w:World}{σ:Type}(R:σ->Act->World->Prop)(μ:σ->World->Nat)(t:σ)(u:R t a w)
  (h:∀s a w,R s a w->c.wp P (Exit.then (λa' w'=>∃m,R m a' w'/\μ m w'<μ s w) Q) a w):(Code.loop c).wp P Q a w:=by
 intro b k cs;have p:∀n s a w,μ s w=n->R s a w->
   ∃e a' w',Q e a' w'/\Arrives P (lone (b.at a (.code c::.inLoop c::k)) cs w) b k cs e a' w':=by
  intro n
  induction n using Nat.strongRecOn with
  |_ n ih=>
   intro s a w z B;obtain⟨e,j,i,f,d⟩:=h s a w B b (.inLoop c::k) cs;cases e with
   |normal=>
    obtain⟨m,o,r⟩:=f;obtain⟨y,A,v,q,g⟩:=ih (μ m i) (z▸r) m j i rfl o;exact⟨y,A,v,q,.of_steps (Steps.trans d (.one step_inLoop)) g⟩
   |exit id=>exact⟨_,j,i,f,.pass (x:=.inLoop c) rfl (λ_ _=>.inl (by simp)) d⟩
   |goto l=>exact⟨_,j,i,f,.pass (x:=.inLoop c) rfl (λ_ _=>.inl (by simp)) d⟩
   |ret=>exact⟨_,j,i,f,.pass (x:=.inLoop c) rfl (λ_ _=>.inl (by simp)) d⟩
   |panic ch=>exact⟨_,j,i,f,.pass (x:=.inLoop c) rfl (λ_ _=>.inl (by simp)) d⟩
   |outgrown=>exact⟨_,j,i,f,.pass (x:=.inLoop c) rfl (λ_ _=>.inl (by simp)) d⟩
 obtain⟨e,a',w',f,d⟩:=p _ t a w rfl u;exact⟨e,a',w',f,.of_steps (.one step_loop) d⟩
inductive al where
 |n
 |two (a b:al)
 |inn (a:al)
 |loop (σ:dK) (κ:df) (a:al)
 |join (σ:dK) (κ:df) (a:al)
 |scope (l:Nat) (σ:dK) (κ:df) (pre rest:List al) (fwd:List (Nat×List al))
 |fwd (a:al) (fwd:List (Nat×List al))
def al.fst:al->al
 | .two a _=>a
 |_=>.n
def al.snd:al->al
 | .two _ b=>b
 |_=>.n
def al.sub:al->al
 | .inn a=>a
 |_=>.n
abbrev QT:=Exit->Env->Heap->Prop
def LA(σ:dK)(κ:df)(ρ:Env)(K:σ.den->Heap->Prop)(Q:QT):QT
 | .normal,ρ',h=>bif within σ κ ρ' (ρ'.length-ρ.length)then(match σ.read ρ' with|some s=>K s h|none=>False)else False
 |e,ρ',h=>Q e ρ' h
def IM(next:Env->Heap->Prop)(Q:QT):QT
 | .normal,ρ,h=>next ρ h
 |e,ρ,h=>Q e ρ h
def ZI(id:Nat)(Q:QT):QT
 | .exit i,ρ,h=>bif wQ i id then Q .normal ρ h else Q (.exit i) ρ h
 |e,ρ,h=>Q e ρ h
abbrev Rec:=Code->al->QT->Env->Heap->Prop
def Bn(rec:Rec):List Code->List al->QT->Env->Heap->Prop
 |[],_,Q,ρ,h=>Q .normal ρ h
 |c::cs,[],Q,ρ,h=>rec c .n (IM (Bn rec cs [] Q) Q) ρ h
 |c::cs,x::xs,Q,ρ,h=>rec c x (IM (Bn rec cs xs Q) Q) ρ h
def chain:Code->Nat->Option (List Code×List Code)
 | .seq a b,l=>match chain a l with
  |some (p,r)=>some (p,r++[b])
  |none=>match chain b l with
   |some (p,r)=>some (a::p,r)
   |none=>none
 | .label l',l=>bif wQ l' l then some ([],[])else none
 |_,_=>none
def aex(a:List (Nat×List al))(l:Nat):Option (List al):=
 match a with
 |[]=>none
 |p::r=>bif wQ p.1 l then some p.2 else aex r l
def IN(rec:Rec)(c:Code)(a:List (Nat×List al))(Q:QT):Nat->QT
 |0=>λ_ _ _=>False
 |g+1=>λe ρ h=>match e with
  | .goto l=>match aex a l with
   |some xs=>match chain c l with
    |some (_,r)=>Bn rec r xs (IN rec c a Q g) ρ h
    |none=>False
   |none=>Q (.goto l) ρ h
  |e=>Q e ρ h
def XD(l:Nat)(σ:dK)(κ:df)(ρ:Env)(K:σ.den->Heap->Prop)(Q:QT):QT
 | .goto l',ρ',h=>bif wQ l' l then(bif within σ κ ρ' (ρ'.length-ρ.length)then(match σ.read ρ' with|some s=>K s h|none=>False)else False)else Q (.goto l') ρ' h
 |e,ρ',h=>Q e ρ' h
def RZ(c:Code)(Q:QT):QT
 | .goto l,ρ,h=>match findLabel c l with
  |none=>Q (.goto l) ρ h
  |some _=>False
 |e,ρ,h=>Q e ρ h
def Sa(C:Ctx)(n:Nat)(rec:Rec)(c:Code)(d:al)(Q:QT)(ρ:Env)(h:Heap):Prop:=
 match d with
 | .join σ κ a=>bi (λs h=>Q .normal (σ.vals s (κ.over ρ)) h) (λK=>rec c a (LA σ κ ρ K Q) ρ h)
 |d=>match c with
  | .skip=>Q .normal ρ h
  | .label _=>Q .normal ρ h
  | .region _ ops draw=>NY C n ops draw (Q .normal) ρ h
  | .seq a b=>rec a d.fst (IM (rec b d.snd Q) Q) ρ h
  | .cond x a b=>match ρ.eval x with
   |some (.bool t)=>Br t (rec a d.fst Q ρ h) (rec b d.snd Q ρ h)
   |_=>False
  | .block id c=>rec c d.sub (ZI id Q) ρ h
  | .exit id=>Q (.exit id) ρ h
  | .goto l=>Q (.goto l) ρ h
  | .ret=>Q .ret ρ h
  | .loop c=>match d with
   | .loop σ κ a=>match σ.read ρ with
    |some s0=>aM (λs K h=>rec c a (LA σ κ (σ.vals s (κ.over ρ)) K Q) (σ.vals s (κ.over ρ)) h) s0 h
    |none=>False
   |_=>False
  | .scope c=>match d with
   | .scope l σ κ pre rest fwd=>match chain c l with
    |some (p,r)=>Bn rec p pre (IM (λρ' h'=>match σ.read ρ' with
     |some s0=>aM (λs K h=>Bn rec r rest (IN rec c fwd (XD l σ κ (σ.vals s (κ.over ρ')) K (RZ c Q)) 4) (σ.vals s (κ.over ρ')) h) s0 h'
     |none=>False) (RZ c Q)) ρ h
    |none=>False
   | .fwd a fwd=>rec c a (IN rec c fwd (RZ c Q) 4) ρ h
   |_=>False
  |_=>False
def vc(C:Ctx)(n:Nat):Nat->Rec
 |0=>λ_ _ _ _ _=>False
 |f+1=>Sa C n (vc C n f)
def IP(C:Ctx)(n:Nat)(rec:Rec):Prop:=∀(c:Code) (b:al) (Q:QT) (ρ:Env) (a:Act) (w:World),Fits n a ρ->rec c b Q ρ w.heap->c.wp C.P (Out n Q ρ a w) a w
section
variable {C:Ctx} {n:Nat} {Q:QT} {ρ ρ':Env} {a a':Act} {w w':World}
theorem Out.base{e:Exit}{b:Act}{c:World}(g:Ext ρ ρ' a a')(k:cY w w')(h:Out n Q ρ' a' w' e b c):Out n Q ρ a w e b c:=by obtain⟨d,j,f,h3,i⟩:=h;exact⟨d,j,g.trans f,k.trans h3,i⟩
theorem Out.mono{f:QT}{e:Exit}{b:Act}{c:World}(k:∀ρ h,Q e ρ h->f e ρ h)(h:Out n Q ρ a w e b c):Out n f ρ a w e b c:=by obtain⟨d,j,g,h3,i⟩:=h;exact⟨d,j,g,h3,k _ _ i⟩
theorem Out.then{next:Env->Heap->Prop}{N:Act->World->Prop}{g:Exit->Act->World->Prop}{e:Exit}{b:Act}{c:World}(h:Out n (IM next Q) ρ a w e b c)
  (k:∀ρ',Fits n b ρ'->Ext ρ ρ' a b->cY w c->next ρ' c.heap->N b c) (l:Out n Q ρ a w e b c->e≠.normal->g e b c):Exit.then N g e b c:=by
 obtain⟨d,j,f,h3,i⟩:=h;cases e<;>first|exact k d j f h3 i|exact l ⟨d,j,f,h3,i⟩ (by simp)
def nT(P:Program):List Code->(Exit->Act->World->Prop)->Act->World->Prop
 |[],Q,a,w=>Q .normal a w
 |c::cs,Q,a,w=>c.wp P (Exit.then (nT P cs Q) Q) a w
theorem kA{P:Program}{Q d:Exit->Act->World->Prop}(b:∀e a w,Q e a w->d e a w):∀(l:List Code) (a:Act) (w:World),nT P l Q a w->nT P l d a w
 |[],_,_,h=>b _ _ _ h
 |c::cs,a,w,h=>wp_mono h λe a w h=>by
  cases e<;>first|exact kA b cs a w h|exact b _ _ _ h
theorem pB{rec:Rec}(d:IP C n rec):∀(l:List Code) (xs:List al) (Q:QT) (ρ:Env) (a:Act) (w:World),Fits n a ρ->Bn rec l xs Q ρ w.heap->nT C.P l (Out n Q ρ a w) a w
 |[],_,Q,ρ,a,w,hf,h=>⟨ρ,hf,Ext.refl _ _,cY.refl _,h⟩
 |c::cs,[],Q,ρ,a,w,hf,h=>by
  refine wp_mono (d c .n _ ρ a w hf h) λe a' w' b=>b.then (λρ' g x2 x3 f=>?_) λb _=>b;exact kA (λe a w h=>h.base x2 x3) cs a' w' (pB d cs [] Q ρ' a' w' g f)
 |c::cs,x::xs,Q,ρ,a,w,hf,h=>by
  refine wp_mono (d c x _ ρ a w hf h) λe a' w' b=>b.then (λρ' g x2 x3 f=>?_) λb _=>b;exact kA (λe a w h=>h.base x2 x3) cs a' w' (pB d cs xs Q ρ' a' w' g f)
end
theorem Cg{P:Program}{b:Code}{Q:Exit->Act->World->Prop}:∀(l:List Code) (a:Act) (w:World),nT P (l++[b]) Q a w->nT P l (Exit.then (b.wp P Q) Q) a w
 |[],a,w,h=>by
  refine wp_mono h λe a w h=>?_;cases e<;>exact h
 |c::cs,a,w,h=>wp_mono h λe a w h=>by
  cases e<;>first|exact Cg cs a w h|exact h
theorem sD:∀{c:Code} {l:Nat} {p r:List Code},chain c l=some (p,r)->∃k,findLabel c l=some k/\
  (∀{P:Program} {Q:Exit->Act->World->Prop} {a:Act} {w:World},nT P r Q a w->k.wp P Q a w)/\
  (∀{P:Program} {Q:Exit->Act->World->Prop} {a:Act} {w:World},nT P p (Exit.then (nT P r Q) Q) a w->c.wp P Q a w)
 | .seq x y,l,p,r,h=>by
  simp only[chain]at h;split at h
  ·rename_i o m d;cases h;obtain⟨k,j,i,h3⟩:=sD d;refine⟨.seq k y,by simp[findLabel,j],λ{P Q a w} h=>wp_seq (i (Cg m a w h)),λ{P Q a w} h=>wp_seq (h3 ?_)⟩;refine kA (λe a w g=>?_) p a w h;cases e<;>first|exact Cg m a w g|exact g
  ·rename_i d;split at h
   ·rename_i o m n;cases h;obtain⟨k,j,i,h3⟩:=sD n;have q:findLabel x l=none:=by
     clear j i h3 n
     induction x with
     |seq a b iha ihb=>
      simp only[chain]at d;split at d
      ·cases d
      ·rename_i s;split at d
       ·cases d
       ·rename_i f;simp[findLabel,iha s,ihb f]
     |label l'=>
      simp only[chain]at d;cases f:wQ l' l with
      |true=>rw[f]at d;cases d
      |false=>
       have:¬l'=l:=λe=>by subst e;simp at f
       simp[findLabel,this]
     |_=>rfl
    refine⟨k,by simp[findLabel,q,j],i,λ{P Q a w} h=>wp_seq (wp_mono h λe a w g=>?_)⟩;cases e<;>first|exact h3 g|exact g
   ·cases h
 | .label l',l,p,r,h=>by
  simp only[chain]at h;cases f:wQ l' l with
  |false=>rw[f]at h;cases h
  |true=>
   rw[f]at h;cases h;have:=zM f;subst this;exact⟨.skip,by simp[findLabel],λh=>wp_skip h,λh=>wp_label h⟩
 | .skip,_,_,_,h=>by cases h
 | .region ..,_,_,_,h=>by cases h
 | .cond ..,_,_,_,h=>by cases h
 | .block ..,_,_,_,h=>by cases h
 | .loop _,_,_,_,h=>by cases h
 | .rangeFunc ..,_,_,_,h=>by cases h
 | .exit _,_,_,_,h=>by cases h
 | .scope _,_,_,_,h=>by cases h
 | .goto _,_,_,_,h=>by cases h
 | .ret,_,_,_,h=>by cases h
 | .refuse _,_,_,_,h=>by cases h
section
variable {P:Program} {c:Code} {Q:Exit->Act->World->Prop} {b:Frame} {k:List Item} {cs:List Frame}
def Reach(P:Program)(c:Code)(Q:Exit->Act->World->Prop)(b:Frame)(k:List Item)(d:List Frame)(a:Act)(w:World)(r:Code):Prop:=
 ∃e a' w',Q e a' w'/\Arrives P (lone (b.at a (.code r::.inScope c::k)) d w) b k d e a' w'
def Good(P:Program)(c:Code)(Q:Exit->Act->World->Prop)(b:Frame)(k:List Item)(d:List Frame):Exit->Act->World->Prop
 | .goto l,a,w=>match findLabel c l with
  |some r=>Reach P c Q b k d a w r
  |none=>Q (.goto l) a w
 |e,a,w=>Q e a w
theorem Sb{m:Machine}{e:Exit}{a:Act}{w:World}(f:Good P c Q b k cs e a w)(d:Arrives P m b (.inScope c::k) cs e a w):
  ∃e a' w',Q e a' w'/\Arrives P m b k cs e a' w':=by
 cases e with
 |normal=>exact⟨.normal,a,w,f,Steps.trans d (.one step_inScope)⟩
 |exit id=>exact⟨.exit id,a,w,f,λi j=>d i (by simp[exitTo,j])⟩
 |goto l=>
  simp only[Good]at f;cases hf:findLabel c l with
  |none=>
   rw[hf]at f;exact⟨.goto l,a,w,f,λi j=>d i (by simp[gotoIn,hf,j])⟩
  |some r=>
   rw[hf]at f;obtain⟨n,o,p,h,g⟩:=f;exact⟨n,o,p,h,.of_steps (d _ (by simp[gotoIn,hf])) g⟩
 |ret=>exact⟨_,a,w,f,d⟩
 |panic ch=>exact⟨_,a,w,f,d⟩
 |outgrown=>exact⟨_,a,w,f,d⟩
theorem Se{r:Code}{a:Act}{w:World}(h:r.wp P (Good P c Q b k cs) a w):Reach P c Q b k cs a w r:=by obtain⟨e,a',w',f,d⟩:=h b (.inScope c::k) cs;exact Sb f d
theorem Fc{a:Act}{w:World}(h:∀b k cs,c.wp P (Good P c Q b k cs) a w):(Code.scope c).wp P Q a w:=by intro b k cs;obtain⟨e,l,m,j,d⟩:=h b k cs b (.inScope c::k) cs;obtain⟨i,a',w',g,f⟩:=Sb j d;exact⟨i,a',w',g,.of_steps (.one step_scope) f⟩
end
section
variable {C:Ctx} {n:Nat} {rec:Rec}
theorem DQ(t:IP C n rec){c:Code}{o:List (Nat×List al)}{q:QT}{u:Exit->Act->World->Prop}{b:Frame}{k:List Item}{s:List Frame}{ρ:Env}{a0:Act}{w0:World}
  (j:∀e i f d,Fits n f i->Ext ρ i a0 f->cY w0 d->q e i d.heap->Good C.P c u b k s e f d):
  ∀(g:Nat) (e:Exit) (i:Env) (f:Act) (d:World),Fits n f i->Ext ρ i a0 f->cY w0 d->IN rec c o q g e i d.heap->Good C.P c u b k s e f d
 |0,_,_,_,_,_,_,_,h=>h.elim
 |g+1,e,i,f,d,hf,hx,hl,h=>by
  cases e with
  |goto l=>
   simp only[IN]at h;split at h
   ·split at h
    ·rename_i p r m;obtain⟨F,D,v,_⟩:=sD m;simp only[Good,D];refine Se (v ?_);refine kA (λe a w x=>?_) _ _ _ (pB t _ _ _ i f d hf h);obtain⟨A,E,B,y,z⟩:=x;exact DQ t j g e A a w E (hx.trans B) (hl.trans y) z
    ·exact h.elim
   ·exact j _ _ _ _ hf hx hl h
  |normal=>exact j _ _ _ _ hf hx hl h
  |exit id=>exact j _ _ _ _ hf hx hl h
  |ret=>exact j _ _ _ _ hf hx hl h
  |panic ch=>exact j _ _ _ _ hf hx hl h
  |outgrown=>exact j _ _ _ _ hf hx hl h
theorem oN{c:Code}{Q:QT}{b:Frame}{k:List Item}{m:List Frame}{ρ:Env}{a0:Act}{w0:World}{e:Exit}{a:Env}{i:Act}{j:World}
  (f:Fits n i a) (d:Ext ρ a a0 i) (g:cY w0 j) (h:RZ c Q e a j.heap):Good C.P c (Out n Q ρ a0 w0) b k m e i j:=by
 cases e with
 |goto l=>
  simp only[RZ]at h;simp only[Good];split at h
  ·rename_i o;simp only[o];exact⟨a,f,d,g,h⟩
  ·exact h.elim
 |normal=>exact⟨a,f,d,g,h⟩
 |exit id=>exact⟨a,f,d,g,h⟩
 |ret=>exact⟨a,f,d,g,h⟩
 |panic ch=>exact⟨a,f,d,g,h⟩
 |outgrown=>exact⟨a,f,d,g,h⟩
theorem Py{a:Act}{σ:dK}{κ:df}{ρ:Env}{s:σ.den}(b:Fits n a ρ)(c:σ.read ρ=some s):Fits n a (σ.vals s (κ.over ρ))/\Ext ρ (σ.vals s (κ.over ρ)) a a:=
 b.rS b (λ_ _ _=>rfl) c
theorem Vk(M:IP C n rec){c:Code}{l:Nat}{σ:dK}{κ:df}{pre rest:List al}{J:List (Nat×List al)}{p r:List Code}(hc:chain c l=some (p,r)){Q:QT}{ρ:Env}{a:Act}{w:World}(hf:Fits n a ρ)
  (h:Bn rec p pre (IM (λρ' h'=>match σ.read ρ' with
     |some O=>aM (λs K h=>Bn rec r rest (IN rec c J (XD l σ κ (σ.vals s (κ.over ρ')) K (RZ c Q)) 4) (σ.vals s (κ.over ρ')) h) O h'
     |none=>False) (RZ c Q)) ρ w.heap):(Code.scope c).wp C.P (Out n Q ρ a w) a w:=by
 refine Fc λb k cs=>?_;obtain⟨kk,Y,U,h3⟩:=sD hc;refine h3 (kA (λe a' w' y=>?_) _ _ _ (pB M _ _ _ ρ a w hf h));refine y.then (λρ' T x2 x3 E=>?_) (λy _=>?_)
 ·split at E
  ·rename_i O z;obtain⟨τ,V,I,μ,t0,e0,hI,i⟩:=E;subst e0;have g:=Py (κ:=κ) T z;have x:∀(m:Nat) (t:τ) (v:Act) (j:World),μ t=m->I t j.heap->Fits n v (σ.vals (V t) (κ.over ρ'))->Ext ρ' (σ.vals (V t) (κ.over ρ')) a' v->cY w' j->
     nT C.P r (Good C.P c (Out n Q ρ a w) b k cs) v j:=by
    intro m
    induction m using Nat.strongRecOn with
    |_ m ih=>
     intro t v j hm L G f d;refine kA (λe a2 w2 y=>?_) _ _ _ (pB M _ _ _ _ v j G (i t j.heap L));obtain⟨ρ2,F,D,A,B⟩:=y;refine DQ M (ρ:=σ.vals (V t) (κ.over ρ')) (a0:=v) (w0:=j) (λe S a3 Z q o z3 z4=>?_) 4 e ρ2 a2 w2 F D A B;cases e with
     |goto l'=>
      simp only[XD]at z4;cases hb:wQ l' l with
      |false=>
       rw[hb]at z4;exact oN q (x2.trans (f.trans o)) (x3.trans (d.trans z3)) z4
      |true=>
       rw[hb]at z4;have:=zM hb;subst this;simp only[Good,Y];cases hw:within σ κ S (S.length-(σ.vals (V t) (κ.over ρ')).length)with
       |false=>rw[hw]at z4;exact z4.elim
       |true=>
        rw[hw]at z4;simp only[cond_true]at z4;split at z4
        ·rename_i s' H;have u:∀t,σ.has t=false->(κ.over []).eJ t=false->a3.tmps[t]?=a'.tmps[t]?:=λt R N=>by
          rw[o.within hw t R N,f.rS t R N]
         obtain⟨u1,u2⟩:=T.rS (κ:=κ) q u H;obtain⟨t',W,i1,X⟩:=z4;subst W;exact Se (U (ih _ (by rw[<-hm];exact X) t' a3 Z rfl i1 u1 u2 (d.trans z3)))
        ·exact z4.elim
     |normal=>exact oN q (x2.trans (f.trans o)) (x3.trans (d.trans z3)) z4
     |exit id=>exact oN q (x2.trans (f.trans o)) (x3.trans (d.trans z3)) z4
     |ret=>exact oN q (x2.trans (f.trans o)) (x3.trans (d.trans z3)) z4
     |panic ch=>exact oN q (x2.trans (f.trans o)) (x3.trans (d.trans z3)) z4
     |outgrown=>exact oN q (x2.trans (f.trans o)) (x3.trans (d.trans z3)) z4
   exact x _ t0 a' w' rfl hI g.1 g.2 (cY.refl _)
  ·exact E.elim
 ·obtain⟨ρ1,F,D,A,B⟩:=y;exact oN F D A B
theorem afs(N:C.Ok)(o:IP C n rec):IP C n (Sa C n rec):=by
 intro c ab Q ρ a w j h;have q:∀{σ:dK} {κ:df} {K:σ.den->Heap->Prop} {e:Exit} {a':Act} {w':World},Out n (LA σ κ ρ K Q) ρ a w e a' w'->(∀s h,K s h->Q .normal (σ.vals s (κ.over ρ)) h)->Out n Q ρ a w e a' w':=by
  intro σ κ K e a' w' g hk;obtain⟨ρ',f,x2,x3,d⟩:=g;cases e with
  |normal=>
   simp only[LA]at d;cases hw:within σ κ ρ' (ρ'.length-ρ.length)with
   |false=>rw[hw]at d;exact d.elim
   |true=>
    rw[hw]at d;simp only[cond_true]at d;split at d
    ·rename_i s Y;obtain⟨H,J⟩:=j.rS (κ:=κ) f (x2.within hw) Y;exact⟨_,H,J,x3,hk _ _ d⟩
    ·exact d.elim
  |exit id=>exact⟨ρ',f,x2,x3,d⟩
  |goto l=>exact⟨ρ',f,x2,x3,d⟩
  |ret=>exact⟨ρ',f,x2,x3,d⟩
  |panic ch=>exact⟨ρ',f,x2,x3,d⟩
  |outgrown=>exact⟨ρ',f,x2,x3,d⟩
 unfold Sa at h;split at h
 ·rename_i σ κ x;obtain⟨K,X,U⟩:=h;exact wp_mono (o c x _ ρ a w j U) λe a' w' g=>q g X
 ·split at h
  ·exact wp_skip ⟨ρ,j,Ext.refl _ _,cY.refl _,h⟩
  ·exact wp_label ⟨ρ,j,Ext.refl _ _,cY.refl _,h⟩
  ·exact wp_mono (RY N j h) λe a' w' g=>g.2
  ·rename_i x y;refine wp_seq (wp_mono (o x _ _ ρ a w j h) λe a' w' g=>g.then (λρ' f x2 x3 d=>?_) λg _=>g);exact wp_mono (o y _ _ ρ' a' w' f d) λe S W g=>g.base x2 x3
  ·rename_i x y z;split at h
   ·rename_i t R;refine wp_cond_split (j.eval R) (λe=>?_) (λe=>?_)
    ·subst e;exact o y _ _ ρ a w j h
    ·subst e;exact o z _ _ ρ a w j h
   ·exact h.elim
  ·rename_i id x;refine wp_block (wp_mono (o x _ _ ρ a w j h) λe a' w' g=>?_);obtain⟨ρ',f,x2,x3,d⟩:=g;cases e with
   |exit i=>
    simp only[Exit.inBlock];simp only[ZI]at d;cases hb:wQ i id with
    |true=>
     rw[hb]at d;rw[if_pos (zM hb)];exact⟨ρ',f,x2,x3,d⟩
    |false=>
     rw[hb]at d;rw[if_neg λe=>by subst e;simp at hb];exact⟨ρ',f,x2,x3,d⟩
   |normal=>exact⟨ρ',f,x2,x3,d⟩
   |goto l=>exact⟨ρ',f,x2,x3,d⟩
   |ret=>exact⟨ρ',f,x2,x3,d⟩
   |panic ch=>exact⟨ρ',f,x2,x3,d⟩
   |outgrown=>exact⟨ρ',f,x2,x3,d⟩
  ·exact wp_exit ⟨ρ,j,Ext.refl _ _,cY.refl _,h⟩
  ·exact wp_goto ⟨ρ,j,Ext.refl _ _,cY.refl _,h⟩
  ·exact wp_ret ⟨ρ,j,Ext.refl _ _,cY.refl _,h⟩
  ·rename_i x;split at h
   ·rename_i σ κ y _;split at h
    ·rename_i s0 E;obtain⟨τ,V,I,μ,t0,Z,hI,u⟩:=h;subst Z;have m:=Py (κ:=κ) j E;refine ZH (σ:=τ) (λt D B=>Fits n D (σ.vals (V t) (κ.over ρ))/\Ext ρ (σ.vals (V t) (κ.over ρ)) a D/\cY w B/\I t B.heap) (λt _=>μ t) t0 ⟨m.1,m.2,cY.refl _,hI⟩ ?_;rintro t D B ⟨G,v,z3,z4⟩;refine wp_mono (o x y _ _ D B G (u t _ z4)) λe a2 w2 g=>?_;obtain⟨ρ',f,x2,x3,d⟩:=g;cases e with
     |normal=>
      simp only[LA]at d;cases hw:within σ κ ρ' (ρ'.length-(σ.vals (V t) (κ.over ρ)).length)with
      |false=>rw[hw]at d;exact d.elim
      |true=>
       rw[hw]at d;simp only[cond_true]at d;split at d
       ·rename_i s' F;have A:∀t,σ.has t=false->(κ.over []).eJ t=false->a2.tmps[t]?=a.tmps[t]?:=λt M L=>by
         rw[x2.within hw t M L,v.rS t M L]
        obtain⟨H,J⟩:=j.rS (κ:=κ) f A F;obtain⟨t',O,i1,T⟩:=d;subst O;exact⟨t',⟨H,J,z3.trans x3,i1⟩,T⟩
       ·exact d.elim
     |exit id=>exact⟨ρ',f,v.trans x2,z3.trans x3,d⟩
     |goto l=>exact⟨ρ',f,v.trans x2,z3.trans x3,d⟩
     |ret=>exact⟨ρ',f,v.trans x2,z3.trans x3,d⟩
     |panic ch=>exact⟨ρ',f,v.trans x2,z3.trans x3,d⟩
     |outgrown=>exact⟨ρ',f,v.trans x2,z3.trans x3,d⟩
    ·exact h.elim
   ·exact h.elim
  ·rename_i x;split at h
   ·split at h
    ·rename_i p r P;exact Vk o P j h
    ·exact h.elim
   ·refine Fc λb k cs=>wp_mono (o x _ _ ρ a w j h) λe a' w' g=>?_;obtain⟨ρ',f,x2,x3,d⟩:=g;exact DQ o (ρ:=ρ) (a0:=a) (w0:=w) (λe ρ3 a3 w3 G v z3 z4=>oN G v z3 z4) 4 e ρ' a' w' f x2 x3 d
   ·exact h.elim
  ·exact h.elim
theorem Sf(a:C.Ok):∀f,IP C n (vc C n f)
 |0=>λ_ _ _ _ _ _ _ h=>h.elim
 |f+1=>afs a (Sf a f)
end
def Gm(C:Ctx)(ρ:Env):List ResultVar->(List Value->Prop)->Heap->Prop
 |[],K,_=>K []
 | .tmp t::r,K,h=>match ρ.get t with
  |some v=>Gm C ρ r (λvs=>K (v::vs)) h
  |none=>False
 | .cell a t::r,K,h=>match wd C.T (.load t (.tmp a)) ρ.eval with
  |some q=>∃y:q.ty.den,q.holds h y/\Gm C ρ r (λvs=>K (q.ty.enc y::vs)) h
  |none=>False
def Gn:List Value->Value
 |[v]=>v
 |vs=>.tuple vs.toArray
def aiC(C:Ctx)(rs:List ResultVar)(R:Value->Heap->Prop):QT
 | .normal,ρ,h=>Gm C ρ rs (λvs=>R (Gn vs) h) h
 | .ret,ρ,h=>Gm C ρ rs (λvs=>R (Gn vs) h) h
 |_,_,_=>False
def Gp:Nat->List Value->Env
 |_,[]=>[]
 |n,v::r=>.val n v::Gp (n+1) r
def fnV(C:Ctx)(d:Func)(a:Nat)(b:al)(args:List Value)(R:Value->Heap->Prop)(h:Heap):Prop:=
 match d.body with
 |some c=>vc C d.ntmps a c b (aiC C d.results.toList R) (Gp 0 args) h
 |none=>False
theorem LB:∀{args:List Value} {n t:Nat} {v:Value},(Gp n args).get t=some v->n<=t/\args[t-n]?=some v
 |[],_,_,_,h=>by cases h
 |u::r,n,t,v,h=>by
  simp only[Gp,Env.get]at h;cases hb:wQ n t with
  |true=>
   rw[hb]at h;have:=zM hb;subst this;simpa using h
  |false=>
   rw[hb]at h;obtain⟨c,a⟩:=LB (args:=r) h;refine⟨by omega,?_⟩;obtain⟨k,b⟩:∃k,t-n=k+1:=⟨t-(n+1),by omega⟩
   rw[b,List.getElem?_cons_succ];have:t-(n+1)=k:=by omega
   rw[<-this];exact a
theorem acC{C:CM}(h:C.Ok){ev:Operand->Option Value}{e:Operand->Value}(f:∀x v,ev x=some v->e x=v){t:TypeId}{x:Operand}{q:Bl}
  (g:wd C.T (.load t x) ev=some q) {y:q.ty.den} {w:World} (d:q.holds w.heap y):(xu t (e x)).run C.P w=.ok (q.ty.enc y) w:=by
 have c:(do pure (Next.value (<-xu t (e x))):Sem Next).run C.P w=.ok (.value (q.ty.enc y)) w:=DN h f (o:=⟨none,.load t x,0, "",#[],none⟩) g d;rw[Sem.run_bind]at c;cases hr:(xu t (e x)).run C.P w with
 |halt a b=>rw[hr]at c;cases c
 |ok v w'=>
  rw[hr]at c;simp only[Result.andThen_ok]at c;cases c;rfl
theorem Gq{C:Ctx}(i:C.Ok){n:Nat}{a:Act}{ρ:Env}(d:Fits n a ρ):∀{rs:List ResultVar} {K:List Value->Prop} {w:World},Gm C ρ rs K w.heap->
  ∃vs,(rs.mapM (λ| .tmp t=>pure (a.tmps.getD t undef)| .cell x t=>(do loadVar t (<-asAddr (a.tmps.getD x undef)):Sem Value)):Sem (List Value)).run C.P w=.ok vs w/\K vs
 |[],K,w,h=>⟨[],rfl,h⟩
 | .tmp t::r,K,w,h=>by
  simp only[Gm]at h;split at h
  ·rename_i v p;obtain⟨vs,j,g⟩:=Gq i d h;refine⟨v::vs,?_,g⟩;have k:a.tmps.getD t undef=v:=by simp[Array.getD_eq_getD_getElem?,d.get t v p]
   rw[List.mapM_cons,Sem.run_bind,Sem.run_pure,Result.andThen_ok,Sem.run_bind,j,k];rfl
  ·exact h.elim
 | .cell x t::r,K,w,h=>by
  simp only[Gm]at h;split at h
  ·rename_i q f;obtain⟨y,s,h⟩:=h;obtain⟨vs,j,g⟩:=Gq i d h;refine⟨q.ty.enc y::vs,?_,g⟩;have m:=acC i.toOk (e:=a.eval) (λx v h=>d.eval h) f s;have o:∃c,a.eval (.tmp x)=.pointer (some c):=by
    unfold wd at f;simp only at f;split at f
    ·rename_i c b;exact⟨c,d.eval b⟩
    ·cases f
   obtain⟨c,b⟩:=o;have k:a.tmps.getD x undef=.pointer (some c):=b;rw[b]at m;rw[List.mapM_cons,Sem.run_bind];simp only[k];have l:(do loadVar t (<-asAddr (.pointer (some c))):Sem Value).run C.P w=.ok (q.ty.enc y) w:=m;rw[l,Result.andThen_ok,Sem.run_bind,j];rfl
  ·exact h.elim
theorem aft{C:Ctx}(l:C.Ok){f:FuncId}{b:Func}(q:C.P.funcs[f]?=some b){a:Nat}{i:al}{args:List Value}(z:args.length<=b.ntmps){R:Value->Heap->Prop}{h:Heap}
  (j:fnV C b a i args R h):ac C.P f args.toArray h R:=by
 rintro w rfl;unfold fnV at j;split at j
 ·rename_i c s;refine calls_of_wp q s ?_;have d:Fits b.ntmps {tmps:=args.toArray++vF (b.ntmps-args.toArray.size) undef,defers:=[]} (Gp 0 args):=by refine⟨by simp;omega,rfl,λt v u=>?_⟩;obtain⟨_,g⟩:=LB u;rw[Nat.sub_zero]at g;have k:t<args.length:=(qo.1 g).1;simp only[Array.getElem?_append,List.size_toArray,k,if_true,List.getElem?_toArray];exact g
  refine wp_mono (Sf l a c i _ _ _ w d j) λe a' w' p=>?_;obtain⟨ρ',o,x2,x3,n⟩:=p;have fin:Gm C ρ' b.results.toList (λvs=>R (Gn vs) w'.heap) w'.heap->a'.defers=[]/\∃v,(results b a'.tmps).run C.P w'=.ok v w'/\(∃m,Ending.returned v=.returned m/\cY w w'/\R m w'.heap):=λx=>by
   obtain⟨vs,y,g⟩:=Gq l o x;refine⟨o.defers,Gn vs,?_,Gn vs,rfl,x3,g⟩;unfold results;rw[vy,map_eq_pure_bind,bind_assoc,Sem.run_bind];refine(congrArg (λr=>Result.andThen r _) y).trans ?_;simp only[Result.andThen_ok,pure_bind,Sem.run_pure];cases vs with
   |nil=>rfl
   |cons v r=>cases r<;>rfl
  cases e<;>first|exact fin n|exact n.elim
 ·exact j.elim
theorem au{C:Ctx}(g:C.Ok){f:FuncId}{b:Func}(c:C.P.funcs[f]?=some b)(a:al){args:List Value}{R:Value->Heap->Prop}{h:Heap}{Q:Prop}(i:Q)
  (d:xC args.length b.ntmps=true:=by kernel_rfl) (e:fnV C b 300 a args R h=Q:=by kernel_rfl):ac C.P f args.toArray h R:=aft g c (zL d) (cast e.symm i)
def az(P:Program)(s:Sem Value)(r:Rt)(h:Heap)(K:r.den->Heap->Prop):Prop:=ag P s h λv h'=>∃x:r.den,v=r.enc x/\K x h'
def aU(P:Program)(s:Sem Value)(h:Heap)(K:Addr->Heap->Prop):Prop:=ag P s h λv h'=>∃a:Addr,v=.pointer (some a)/\K a h'
def ae(P:Program)(f:FuncId)(args:Array Value)(r:Rt)(h:Heap)(K:r.den->Heap->Prop):Prop:=ac P f args h λv h'=>∃x:r.den,v=r.enc x/\K x h'
def ia(C:Ctx)(g:FuncId)(args:List Value)(r:Rt)(h:Heap)(K:r.den->Heap->Prop):Prop:=
 match C.fns[g]? with
 |some true=>ae C.P g args.toArray r h K
 |_=>False
theorem fa{C:Ctx}{g:FuncId}{args:List Value}{r:Rt}{h:Heap}{K:r.den->Heap->Prop}(a:C.fns[g]?=some true)(b:ae C.P g args.toArray r h K):ia C g args r h K:=by unfold ia;rw[a];exact b
end Go.Vc
abbrev cP:=List (List UInt8)
abbrev bc:=List UInt8
abbrev cV:=List (List Int)
abbrev aF:=List Int
abbrev aT:=Option Go.Addr
abbrev be:=List Go.Value
abbrev Kr:=Go.Value->Go.Vc.Heap->Prop
abbrev cI:=Go.FuncId×Array Go.Value×Array Go.Value
abbrev Go.Vc.al.tn(a:Go.Vc.al):Go.Vc.al:=.two .n a
universe u
theorem f9{c:Prop}{h:Decidable c}(hc:c){α:Sort u}{t e:α}:ite c t e=t:=if_pos hc
theorem g0{c:Prop}{h:Decidable c}(hnc:¬c){α:Sort u}{t e:α}:ite c t e=e:=if_neg hnc
theorem g9{p:Prop}[inst:Decidable p]:p->decide p=true:=decide_eq_true
theorem hU{p:Prop}[inst:Decidable p]:¬p->decide p=false:=decide_eq_false
theorem hY{p:Prop}[inst:Decidable p]:decide p=true->p:=of_decide_eq_true
theorem i0{α:Sort u}{a:α}:a=a:=rfl
theorem i4{p:Prop}(h:p:=by omega):p:=h
theorem i5{p:Prop}(h:p:=by decide):p:=h
theorem i6{p:Prop}(h:p:=by dsimp only;omega):p:=h
theorem i7{p:Prop}(h:p:=by simp;omega):p:=h
theorem i9{p:Prop}(h:p:=by simp):p:=h
theorem jj{p:Prop}(h:p:=by dsimp only;rw[ak _];rfl):p:=h
theorem js{p:Prop}(h:p:=by rw[ak _];rfl):p:=h
theorem j0{p:Prop}(h:p:=by cases e):p:=h
theorem j1{p:Prop}(h:p:=by kernel_rfl):p:=h
theorem j3{p:Prop}(h:p:=by rw[ak _];omega):p:=h
theorem j4{p:Prop}(h:p:=by decide+kernel):p:=h
theorem j5{p:Prop}(h:p:=by simpa using h):p:=h
theorem j6{p:Prop}(h:p:=by cases h):p:=h
theorem j7{p:Prop}(h:p:=by simpa using a):p:=h
theorem j8{p:Prop}(h:p:=by rw[addr_add];exact hb.cell i0):p:=h
theorem j9{p:Prop}(h:p:=by simp[Value.cells]):p:=h
theorem kt{p:Prop}(h:p:=by simp at d;omega):p:=h
theorem k7{p:Prop}(h:p:=by simpa using b):p:=h
theorem k8{p:Prop}(h:p:=by simp[aO]):p:=h
theorem k9{p:Prop}(h:p:=by rfl):p:=h
theorem lb{p:Prop}(h:p:=by rw[bT];omega):p:=h
theorem ld{p:Prop}(h:p:=by simp at h):p:=h
theorem ln{p:Prop}(h:p:=by simpa using e):p:=h
theorem lz{p:Prop}(h:p:=by simp[ff]):p:=h
theorem l0{p:Prop}(h:p:=by dsimp only;simp;omega):p:=h
theorem l4{p:Prop}(h:p:=by simp[bV];omega):p:=h
theorem l5{p:Prop}(h:p:=by rw[za];omega):p:=h
theorem l6{p:Prop}(h:p:=by simpa using H):p:=h
theorem l7{p:Prop}(h:p:=by simp[a]):p:=h
theorem l9{p:Prop}(h:p:=by simp[cy];omega):p:=h
theorem mn{p:Prop}(h:p:=by rw[e1];decide):p:=h
theorem m0{p:Prop}(h:p:=by rw[qy];omega):p:=h
theorem m4{p:Prop}(h:p:=by simp[dq];omega):p:=h
theorem m5{p:Prop}(h:p:=by simp[dn];omega):p:=h
theorem m6{p:Prop}(h:p:=by unfold iE;rw[o.refl];rfl):p:=h
theorem m7{p:Prop}(h:p:=by rw[<-w];exact s.cell0 i0):p:=h
theorem m8{p:Prop}(h:p:=by simp[gn]):p:=h
theorem m9{p:Prop}(h:p:=by simpa using e2):p:=h
theorem nb{p:Prop}(h:p:=by rw[tH d];omega):p:=h
theorem nn{p:Prop}(h:p:=by rw[qi (qn _)]):p:=h
theorem nq{p:Prop}(h:p:=by simp[f]):p:=h
theorem ns{p:Prop}(h:p:=by simp[b]):p:=h
theorem n0{p:Prop}(h:p:=by unfold eW;simp;omega):p:=h
theorem n3{p:Prop}(h:p:=by simpa using d):p:=h
theorem n4{p:Prop}(h:p:=by simpa using n):p:=h
theorem n5{p:Prop}(h:p:=by simpa using f):p:=h
theorem n7{p:Prop}(h:p:=by simp[c]):p:=h
theorem n8{p:Prop}(h:p:=by rw[e];rfl):p:=h
theorem n9{p:Prop}(h:p:=by rw[e,ha,hb];decide):p:=h
theorem oi{p:Prop}(h:p:=by simpa using o):p:=h
theorem oj{p:Prop}(h:p:=by simpa using g):p:=h
theorem oo{p:Prop}(h:p:=by rw[m]):p:=h
theorem o0{p:Prop}(h:p:=by simp[e]):p:=h
theorem o1{p:Prop}(h:p:=by assumption):p:=h
theorem o4{p:Prop}(h:p:=by rw[hU b];rfl):p:=h
theorem o5{p:Prop}(h:p:=by simpa using u):p:=h
theorem o6{p:Prop}(h:p:=by simpa using c):p:=h
theorem o7{p:Prop}(h:p:=by rw[wrap_u64];omega):p:=h
theorem o8{p:Prop}(h:p:=by simp[cy]):p:=h
theorem o9{p:Prop}(h:p:=by rw[qU];omega):p:=h
theorem pa{p:Prop}(h:p:=by simp[d]):p:=h
theorem pb{p:Prop}(h:p:=by simp[g]):p:=h
theorem pt{p:Prop}(h:p:=by rw[t];rfl):p:=h
theorem p0{p:Prop}(h:p:=by simp[ib];omega):p:=h
theorem p5{p:Prop}(h:p:=by simp[fv];omega):p:=h
theorem p6{p:Prop}(h:p:=by rw[ok.la];omega):p:=h
theorem p7{p:Prop}(h:p:=by rw[K];exact A):p:=h
theorem p8{p:Prop}(h:p:=by simpa using p):p:=h
theorem p9{p:Prop}(h:p:=by simpa using q):p:=h
theorem qa{p:Prop}(h:p:=by simpa using t):p:=h
theorem qb{p:Prop}(h:p:=by rw[lN];omega):p:=h
theorem qs{p:Prop}(h:p:=by rw[gJ];omega):p:=h
theorem q5{p:Prop}(h:p:=by rw[K];decide):p:=h
theorem q6{p:Prop}(h:p:=by rw[z];decide):p:=h
theorem rb{p:Prop}(h:p:=by simp[h]):p:=h
theorem sb{p:Prop}(h:p:=by simpa using j):p:=h
theorem sp{p:Prop}(h:p:=by rw[q]):p:=h
