/- Lemmas for the proof of the law; no condition. -/
import Derived.Calls
import Derived.Orders
import Derived.Scope
import Derived.KernelRfl
import Derived.Laws.Sem
import Derived.OrdersHeld
set_option linter.unusedVariables false
set_option linter.unusedSimpArgs false
open Nat renaming beq -> wM, ble -> xg, blt -> vZ, eq_of_beq_eq_true -> zJ, le_of_ble_eq_true -> zC, le_refl -> qk
open Bool renaming and_eq_true -> qu, false_eq_true -> zb, or_eq_false_iff -> yw, or_eq_true -> wv, or_false -> xm
open List renaming cons_append -> zp, getElem?_eq_some_iff -> ql, getElem?_map -> qO, length_cons -> zc, mem_append_right -> zP, mem_cons -> qX, mem_cons_of_mem -> qz, mem_cons_self -> qF, mem_singleton -> qx
open BitVec renaming ofInt -> qN
open Go.IntKind renaming i64 -> xF
open Go.Instr renaming alloc -> w7, box -> vq, build -> xc, buildSlice -> zG, fill -> wE, loadAt -> xh, makeMap -> vz, makeSlice -> zt, mapUpdate -> yD, slice -> xv, sliceAt -> yt, sliceBound -> vW, sliceBounds -> wH, storeAt -> qE
open Option renaming map_eq_some_iff -> ve, map_some -> qS, some -> zQ
open Array renaming ext' -> yC, getElem?_toList -> vS, mapM_eq_mapM_toList -> vu, replicate -> vD, toList_map -> vX
open Go.Builtin renaming append_ -> zD, clear_ -> vL, copy_ -> yZ, len_ -> xr
namespace Go.Qw
abbrev Heap:=Array Obj
def cellOf(h:Heap)(a:Addr):Option Value:=
 match h[a.block]? with
 |some (.cells c _ _)=>if a.spot.isSome then none else c[a.off]?
 |_=>none
def Re(h:Heap)(a:Addr):Bool:=
 match h[a.block]? with
 |some (.cells _ _ (lo,hi))=>lo<=a.off&&a.off<hi
 |_=>false
def Rf(h:Heap)(a:Addr)(v:Value):Heap:=
 h.modify a.block λ
  | .cells c elem frozen=>.cells (if a.spot.isSome then c else c.setIfInBounds a.off v) elem frozen
  |o=>o
def shapeOf(h:Heap)(r:Nat):Option (TypeId×Nat):=match h[r]? with|some (.cells c elem _)=>some (elem,c.size)|_=>none
theorem Xw(w:World)(r:Nat):w.shape? r=shapeOf w.heap r:=rfl
theorem Im(w:World)(a:Addr):w.cell? a=cellOf w.heap a:=rfl
theorem abb(w:World)(a:Addr):w.frozen? a=Re w.heap a:=rfl
theorem abc(w:World)(a:Addr)(v:Value):(w.setCell a v).heap=Rf w.heap a v:=rfl
structure cX (w w':World):Prop where
 os:w'.os=w.os
 tape:w'.tape=w.tape
 output:w'.output=w.output
 drawn:w.drawn<=w'.drawn
theorem cX.refl(w:World):cX w w:=⟨rfl,rfl,rfl,qk _⟩
theorem cX.trans{a b c:World}(h:cX a b)(k:cX b c):cX a c:=⟨k.os.trans h.os,k.tape.trans h.tape,k.output.trans h.output,Nat.le_trans h.drawn k.drawn⟩
def ai(P:Program)(f:FuncId)(args:Array Value)(h:Heap)(R:Value->Heap->Prop):Prop:=
 ∀w,w.heap=h->Calls P f args w λe w'=>∃v,e=.returned v/\cX w w'/\R v w'.heap
theorem ai.mono{P:Program}{f:FuncId}{args:Array Value}{h:Heap}{R a:Value->Heap->Prop}(e:ai P f args h R)
  (c:∀v h',R v h'->a v h'):ai P f args h a:=λw g=>
 (e w g).mono λ_ _ ⟨v,b,d,r⟩=>⟨v,b,d,c _ _ r⟩
def aj{α:Type}(P:Program)(s:Sem α)(h:Heap)(K:α->Heap->Prop):Prop:=
 ∀w,w.heap=h->∃v w',s.run P w=.ok v w'/\cX w w'/\K v w'.heap
variable {α β:Type} {P:Program} {h:Heap}
theorem aj.pure'{K:α->Heap->Prop}{a:α}(b:K a h):aj P (Pure.pure a) h K:=λw c=>⟨a,w,rfl,cX.refl w,by rw[c];exact b⟩
theorem aj.bind{s:Sem α}{f:α->Sem β}{K:β->Heap->Prop}(i:aj P s h λv h'=>aj P (f v) h' K):aj P (s>>=f) h K:=by intro w g;obtain⟨v,w',l,j,k⟩:=i w g;obtain⟨e,b,d,a,c⟩:=k w' rfl;exact⟨e,b,by rw[Sem.run_bind,l];exact d,j.trans a,c⟩
theorem aj.mono{s:Sem α}{K d:α->Heap->Prop}(e:aj P s h K)(f:∀v h',K v h'->d v h'):aj P s h d:=λw g=>
 let⟨v,w',a,b,c⟩:=e w g;⟨v,w',a,b,f _ _ c⟩
theorem aj.Xx{K:Program->Heap->Prop}(a:K P h):aj P program h K:=λw b=>⟨P,w,rfl,cX.refl w,by rw[b];exact a⟩
theorem aj.act{a:Addr}{v v0:Value}{m:Mode}{K:Unit->Heap->Prop}(c:v.oneCell'=true)(e:cellOf h a=some v0)(f:Re h a=false)(d:K () (Rf h a v)):
  aj P (store a v m) h K:=λw b=>
 ⟨(),w.setCell a v,by rw[run_store _ _ _ _ _ c,Im,b,e];simp[abb,b,f],⟨rfl,rfl,rfl,qk _⟩,by rw[abc,b];exact d⟩
theorem aj.mI{o:Obj}{K:Nat->Heap->Prop}(a:K h.size (h.push o)):aj P (newObj o) h K:=λw b=>
 ⟨w.heap.size,_,run_newObj P w o,⟨rfl,rfl,rfl,qk _⟩,by simp only[b];exact a⟩
theorem aj.Ff{n:Nat}{K:Unit->Heap->Prop}(a:K () h):aj P (askRoom n) h K:=λw b=>⟨(),w,run_askRoom P w n,cX.refl w,by rw[b];exact a⟩
theorem aj.xW{q:Question}{K:Nat->Heap->Prop}(b:(q.forced=true->K 0 h)/\(q.forced=false->∀n,K (q.cut n) h)):aj P (choose q) h K:=by
 intro w a;cases hq:q.forced with
 |true=>exact⟨0,w,by rw[run_choose,hq];rfl,cX.refl w,by rw[a];exact b.1 hq⟩
 |false=>exact⟨q.cut (w.tape w.drawn q),{w with drawn:=w.drawn+1},by rw[run_choose,hq];rfl,⟨rfl,rfl,rfl,Nat.le_succ _⟩,by show K _ w.heap;rw[a];exact b.2 hq _⟩
theorem aj.sI{r:Nat}{o:Obj}{K:Obj->Heap->Prop}(b:h[r]?=some o)(g:∀c e f,o≠.cells c e f)(d:K o h):aj P (getObj r) h K:=λw a=>by
 refine⟨o,w,?_,cX.refl w,by rw[a];exact d⟩;simp only[getObj,Sem.run,a,b]
theorem aj.Io{r:Nat}{o a:Obj}{K:Unit->Heap->Prop}(d:h[r]?=some o)(i:∀c e f,o≠.cells c e f)(g:K () (h.setIfInBounds r a)):aj P (setObj r a) h K:=λw b=>by
 refine⟨(),{w with heap:=w.heap.setIfInBounds r a},?_,⟨rfl,rfl,rfl,qk _⟩,by show K () (w.heap.setIfInBounds r a);rw[b];exact g⟩;simp only[setObj,Sem.run,b,d]
theorem aj.Ui{r:Nat}{K:Option (TypeId×Nat)->Heap->Prop}(b:K (shapeOf h r) h):aj P (shape r) h K:=λw a=>
 ⟨_,w,run_shape P w r,cX.refl w,by rw[a,Xw,a];exact b⟩
def xX(P:Program)(s:Sem Next)(h:Heap)(K:Value->Heap->Prop):Prop:=
 aj P s h λa h'=>match a with
  | .value v=>K v h'
  | .skip=>K undef h'
  | .enter f args=>ai P f args h' K
  |_=>False
theorem aeG{P:Program}{o:Oper}{a:Act}{w:World}{K:Value->Heap->Prop}{Q:Exit->Act->World->Prop}
  (i:xX P (execOp a.eval o) w.heap K) {next:Act->World->Prop}
  (c:∀v w',cX w w'->K v w'.heap->next (a.put o.dst v) w'):o.wp P a w next Q:=by
 obtain⟨j,w',h,g,b⟩:=i w rfl;unfold Oper.wp;rw[h];cases j<;>simp only at b<;>simp only[Oper.upon]
 case value v=>exact c _ _ g b
 case skip=>exact c _ _ g b
 case enter f args=>
  refine(b w' rfl).mono ?_;rintro e k ⟨v,rfl,d,r⟩;exact c _ _ (g.trans d) r
structure Sl where
 ptr:Option Addr
 len:Nat
 cap:Nat
 deriving Inhabited
inductive Sc where
 |int (k:IntKind)|bool|str|ptr|slc|flt (k:FloatKind)|cpx (k:FloatKind)|mp|fn|any|adr
@[reducible] def Sc.den:Sc->Type
 | .int _=>Int
 | .bool=>Bool
 | .str=>ByteArray
 | .ptr=>Option Addr
 | .slc=>Sl
 | .flt _=>Nat
 | .cpx _=>Nat×Nat
 | .mp=>Option Nat
 | .fn=>FuncId×Array Value×Array Value
 | .any=>Value
 | .adr=>Addr
@[reducible] def Sc.enc:(s:Sc)->s.den->Value
 | .int k,n=>.int k n
 | .bool,x=>.bool x
 | .str,x=>.string x
 | .ptr,a=>.pointer a
 | .slc,x=>.slice x.ptr x.len x.cap
 | .flt k,n=>.float k n
 | .cpx k,x=>.complex k x.1 x.2
 | .mp,r=>.map r
 | .fn,x=>.func (.func x.1) x.2.1 x.2.2
 | .any,v=>v
 | .adr,a=>.pointer (some a)
def xY:IntKind->IntKind->Bool
 | .i8,.i8| .i16,.i16| .i32,.i32| .i64,.i64| .u8,.u8| .u16,.u16| .u32,.u32| .u64,.u64=>true
 |_,_=>false
theorem EI:∀{a b:IntKind},xY a b=true->a=b:=by intro a b;cases a<;>cases b<;>simp[xY]
def BX:FloatKind->FloatKind->Bool
 | .f32,.f32| .f64,.f64=>true
 |_,_=>false
theorem BY:∀{a b:FloatKind},BX a b=true->a=b:=by intro a b;cases a<;>cases b<;>simp[BX]
def Sc.dec:(s:Sc)->Value->Option s.den
 | .int k,.int k' n=>bif xY k k' then some n else none
 | .bool,.bool x=>some x
 | .str,.string x=>some x
 | .ptr,.pointer a=>some a
 | .slc,.slice a l c=>some ⟨a,l,c⟩
 | .flt k,.float k' n=>bif BX k k' then some n else none
 | .cpx k,.complex k' a b=>bif BX k k' then some (a,b)else none
 | .mp,.map r=>some r
 | .fn,.func (.func g) f c=>some (g,f,c)
 | .any,v=>some v
 | .adr,.pointer (some a)=>some a
 |_,_=>none
theorem Sc.pd{s:Sc}{v:Value}{x:s.den}(h:s.dec v=some x):v=s.enc x:=by
 cases s<;>cases v<;>simp only[Sc.dec]at h<;>try(first|(cases h;done)|(cases h;rfl))
 case int.int k k' n=>
  cases hk:xY k k'<;>simp[hk]at h;have:=EI hk;subst this;subst h;rfl
 case flt.float k k' n=>
  cases hk:BX k k'<;>simp[hk]at h;have:=BY hk;subst this;subst h;rfl
 case cpx.complex k k' a b=>
  cases hk:BX k k'<;>simp[hk]at h;have:=BY hk;subst this;subst h;rfl
 case fn.func g f c=>
  cases g<;>first|(cases h;done)|skip
  obtain⟨l⟩:=f;cases l<;>first|(cases h;done)|(cases h;rfl)
 case adr.pointer a=>
  cases a<;>first|(cases h;done)|(cases h;rfl)
@[reducible] def uX:List Sc->Type
 |[]=>Unit
 |[s]=>s.den
 |s::t::r=>s.den×uX (t::r)
@[reducible] def mX:(l:List Sc)->uX l->List Value
 |[],_=>[]
 |[s],x=>[s.enc x]
 |s::t::r,x=>s.enc x.1::mX (t::r) x.2
def Rh:(l:List Sc)->List Value->Option (uX l)
 |[],[]=>some ()
 |[s],[v]=>s.dec v
 |s::t::r,v::vs=>match s.dec v with
  |some x=>match Rh (t::r) vs with
   |some y=>some (x,y)
   |none=>none
  |none=>none
 |_,_=>none
theorem Uj:∀{l:List Sc} {vs:List Value} {x:uX l},Rh l vs=some x->vs=mX l x:=by
 intro l vs
 fun_induction Rh l vs with
 |case1=>intro x _;rfl
 |case2 s v=>intro x h;simp only[mX];rw[Sc.pd h]
 |case3 s t r v vs x hx y hy ih=>intro z h;cases h;simp only[mX];rw[Sc.pd hx,ih hy]
 |case4=>intro x h;cases h
 |case5=>intro x h;cases h
 |case6=>intro x h;cases h
inductive Ty where
 |sc (s:Sc)
 |agg (l:List Sc)
 |arr (s:Sc)
@[reducible] def Ty.den:Ty->Type
 | .sc s=>s.den
 | .agg l=>uX l
 | .arr s=>List s.den
@[reducible] def Ty.enc:(t:Ty)->t.den->Value
 | .sc s,x=>s.enc x
 | .agg l,x=>.agg (mX l x).toArray
 | .arr s,x=>.agg (x.map s.enc).toArray
def Ty.dec:(t:Ty)->Value->Option t.den
 | .sc s,v=>s.dec v
 | .agg l,.agg ⟨cs⟩=>Rh l cs
 |_,_=>none
theorem Ty.pd{t:Ty}{v:Value}{x:t.den}(h:t.dec v=some x):v=t.enc x:=by
 unfold Ty.dec at h;split at h
 ·exact Sc.pd h
 ·have:=Uj h;subst this;rfl
 ·cases h
@[reducible] def La:List Ty->Type
 |[]=>Unit
 |[s]=>s.den
 |s::t::r=>s.den×La (t::r)
@[reducible] def Ri:(l:List Ty)->La l->List Value
 |[],_=>[]
 |[s],x=>[s.enc x]
 |s::t::r,x=>s.enc x.1::Ri (t::r) x.2
inductive Rt where
 |one (t:Ty)
 |many (l:List Ty)
@[reducible] def Rt.den:Rt->Type
 | .one t=>t.den
 | .many l=>La l
@[reducible] def Rt.enc:(r:Rt)->r.den->Value
 | .one t,x=>t.enc x
 | .many l,x=>.tuple (Ri l x).toArray
inductive pf where
 |val (t:Nat) (x:Value)
 |kil (lo hi:Nat)
abbrev Env:=List pf
def pf.eN:pf->Nat->Bool
 | .val s _,t=>wM s t
 | .kil lo hi,t=>xg lo t&&vZ t hi
def Env.get:Env->Nat->Option Value
 |[],_=>none
 | .val s x::r,t=>bif wM s t then some x else Env.get r t
 | .kil lo hi::r,t=>bif xg lo t&&vZ t hi then none else Env.get r t
def Env.eN:Env->Nat->Bool
 |[],_=>false
 |e::r,t=>e.eN t||Env.eN r t
theorem Env.Xy(e:pf)(r:Env)(t:Nat)(h:e.eN t=false):Env.get (e::r) t=Env.get r t:=by
 cases e<;>simp only[pf.eN]at h<;>simp[Env.get,h]
theorem Env.get_append{δ ρ:Env}{t:Nat}(h:δ.eN t=false):Env.get (δ++ρ) t=Env.get ρ t:=by
 induction δ with
 |nil=>rfl
 |cons e r ih=>
  simp only[Env.eN,yw]at h;rw[zp,Env.Xy _ _ _ h.1,ih h.2]
theorem Env.uY{δ ρ:Env}{t:Nat}:Env.eN (δ++ρ) t=(δ.eN t||ρ.eN t):=by
 induction δ with
 |nil=>simp[Env.eN]
 |cons e r ih=>simp[Env.eN,ih,Bool.or_assoc]
structure Fits (n:Nat) (a:Act) (ρ:Env):Prop where
 size:a.tmps.size=n
 defers:a.defers=[]
 get:∀t x,ρ.get t=some x->a.tmps[t]?=some x
def Ext(ρ b:Env)(a c:Act):Prop:=∃δ:Env,b=δ++ρ/\∀t,δ.eN t=false->c.tmps[t]?=a.tmps[t]?
theorem Ext.refl(ρ:Env)(a:Act):Ext ρ ρ a a:=⟨[],rfl,λ_ _=>rfl⟩
theorem Ext.trans{ρ f b:Env}{a e c:Act}(h:Ext ρ f a e)(k:Ext f b e c):Ext ρ b a c:=by obtain⟨δ,rfl,h⟩:=h;obtain⟨g,rfl,k⟩:=k;refine⟨g++δ,by simp,λt d=>?_⟩;rw[Env.uY,yw]at d;rw[k t d.1,h t d.2]
def Env.eval(ρ:Env):Operand->Option Value
 | .tmp t=>ρ.get t
 | .const v=>some v
 | .global g=>some (.pointer (some ⟨g,0,none⟩))
 | .func f=>some (.func (.func f) #[] #[])
theorem Fits.eval{n:Nat}{a:Act}{ρ:Env}(h:Fits n a ρ){x:Operand}{v:Value}(b:ρ.eval x=some v):a.eval x=v:=by
 cases x<;>simp only[Env.eval]at b<;>simp only[Act.eval]
 case tmp t=>have:=h.get t v b;simp[Array.getD_eq_getD_getElem?,this]
 all_goals (injection b)
theorem Fits.put{n:Nat}{a:Act}{ρ:Env}(h:Fits n a ρ){d:Nat}(f:vZ d n=true)(v:Value):Fits n (a.put (some d) v) (.val d v::ρ):=by
 have c:d<n:=zC f;refine⟨by simp[Act.put,h.size],h.defers,λt x b=>?_⟩;simp only[Env.get]at b;simp only[Act.put,Array.getElem?_setIfInBounds];cases hb:wM d t with
 |true=>
  rw[hb]at b;have:d=t:=zJ hb;subst this;simp at b;simp[h.size,c,b]
 |false=>
  rw[hb]at b;have:d≠t:=λe=>by subst e;simp at hb
  simp only[this,if_false];exact h.get t x b
theorem Ext.put{ρ:Env}{a:Act}{d:Nat}(v u:Value):Ext ρ (.val d u::ρ) a (a.put (some d) v):=by
 refine⟨[.val d u],rfl,λt b=>?_⟩;simp only[Env.eN,pf.eN,xm]at b;have:d≠t:=λe=>by subst e;simp at b
 simp[Act.put,this]
abbrev di:=List (Nat×Ty)
@[reducible] def di.den:di->Type
 |[]=>Unit
 |[s]=>s.2.den
 |s::t::r=>s.2.den×di.den (t::r)
def di.vals:(σ:di)->σ.den->Env->Env
 |[],_,ρ=>ρ
 |[s],x,ρ=>.val s.1 (s.2.enc x)::ρ
 |s::t::r,x,ρ=>.val s.1 (s.2.enc x.1)::di.vals (t::r) x.2 ρ
def di.read:(σ:di)->Env->Option σ.den
 |[],_=>some ()
 |[s],ρ=>match ρ.get s.1 with
  |some v=>s.2.dec v
  |none=>none
 |s::t::r,ρ=>match ρ.get s.1 with
  |some v=>match s.2.dec v with
   |some x=>match di.read (t::r) ρ with
    |some y=>some (x,y)
    |none=>none
   |none=>none
  |none=>none
def di.has:di->Nat->Bool
 |[],_=>false
 |s::r,t=>wM s.1 t||di.has r t
abbrev cV:=List (Nat×Nat)
def cV.over:cV->Env->Env
 |[],ρ=>ρ
 |(lo,hi)::r,ρ=>.kil lo hi::cV.over r ρ
def cV.has:cV->Nat->Nat->Bool
 |[],_,_=>false
 |(lo,hi)::r,a,b=>(xg lo a&&xg b hi)||cV.has r a b
def within(σ:di)(κ:cV):Env->Nat->Bool
 |_,0=>true
 |[],_+1=>true
 | .val t _::r,n+1=>(di.has σ t||cV.has κ t (t+1))&&within σ κ r n
 | .kil lo hi::r,n+1=>cV.has κ lo hi&&within σ κ r n
theorem cV.Xz{κ:cV}{a b:Nat}(h:κ.has a b=true){t:Nat}(f:a<=t)(e:t<b)(ρ:Env):∃δ:Env,κ.over ρ=δ++ρ/\δ.eN t=true:=by
 induction κ with
 |nil=>simp[cV.has]at h
 |cons p r ih=>
  obtain⟨d,c⟩:=p;simp only[cV.has,wv,qu]at h;obtain⟨δ,j⟩:∃δ:Env,cV.over r ρ=δ++ρ:=by
   clear ih h
   induction r with
   |nil=>exact⟨[],rfl⟩
   |cons q r ih=>obtain⟨δ,h⟩:=ih;exact⟨.kil q.1 q.2::δ,by show pf.kil q.1 q.2::cV.over r ρ=_;rw[h];rfl⟩
  rcases h with h|h
  ·have k:=zC h.1;have l:=zC h.2;refine⟨.kil d c::δ,by simp[cV.over,j],?_⟩;have i:xg d t=true:=Nat.ble_eq_true_of_le (by omega);have x2:vZ t c=true:=by unfold vZ;exact Nat.ble_eq_true_of_le (by omega)
   simp[Env.eN,pf.eN,i,x2]
  ·obtain⟨g,f,e⟩:=ih h;exact⟨.kil d c::g,by simp[cV.over,f],by simp[Env.eN,e]⟩
theorem cV.Lo(κ:cV)(ρ:Env):κ.over ρ=κ.over []++ρ:=by
 induction κ with
 |nil=>rfl
 |cons p r ih=>obtain⟨a,b⟩:=p;simp[cV.over,ih]
theorem di.Fg:∀(σ:di) (x:σ.den) (ρ:Env),σ.vals x ρ=σ.vals x []++ρ
 |[],_,ρ=>rfl
 |[s],x,ρ=>rfl
 |s::t::r,x,ρ=>by simp only[di.vals];rw[di.Fg (t::r) x.2 ρ];rfl
theorem di.un:∀(σ:di) (x:σ.den) (t:Nat),(σ.vals x []).eN t=σ.has t
 |[],_,_=>rfl
 |[s],x,t=>by simp[di.vals,Env.eN,pf.eN,di.has]
 |s::u::r,x,t=>by
  have:=di.un (u::r) x.2 t;simp only[di.vals,Env.eN,pf.eN,this];rfl
theorem di.Lp:∀(σ:di) (x:σ.den) (e:Env) (t:Nat),σ.has t=true->((σ.vals x [])++e).get t=(σ.vals x []).get t
 |[],_,_,_,h=>by cases h
 |[s],x,e,t,h=>by
  simp only[di.has,xm]at h;simp[di.vals,Env.get,h]
 |s::u::r,x,e,t,h=>by
  simp only[di.vals,zp,Env.get];cases hb:wM s.1 t with
  |true=>rfl
  |false=>
   have h':di.has (u::r) t=true:=by have a:(wM s.1 t||di.has (u::r) t)=true:=h;rw[hb]at a;exact a
   simpa using di.Lp (u::r) x.2 e t h'
theorem cV.Jp{κ:cV}{a b t:Nat}(h:κ.has a b=true)(f:a<=t)(d:t<b):(κ.over []).eN t=true:=by obtain⟨δ,c,e⟩:=cV.Xz h f d [];rw[c];simpa using e
theorem ph{σ:di}{κ:cV}:∀{δ ρ:Env},within σ κ (δ++ρ) δ.length=true->∀t,σ.has t=false->(κ.over []).eN t=false->δ.eN t=false
 |[],_,_,_,_,_=>rfl
 | .val s x::r,ρ,h,t,h1,h2=>by
  simp only[zp,zc,within,qu,wv]at h;simp only[Env.eN,pf.eN,yw];refine⟨?_,ph h.2 t h1 h2⟩;cases hb:wM s t with
  |false=>rfl
  |true=>
   have:s=t:=zJ hb;subst this;rcases h.1 with h|h
   ·rw[h]at h1;cases h1
   ·rw[cV.Jp h (qk _) (Nat.lt_succ_self _)]at h2;cases h2
 | .kil lo hi::r,ρ,h,t,h1,h2=>by
  simp only[zp,zc,within,qu]at h;simp only[Env.eN,pf.eN,yw];refine⟨?_,ph h.2 t h1 h2⟩;cases hb:(xg lo t&&vZ t hi)with
  |false=>rfl
  |true=>
   simp only[qu]at hb;have b:=zC hb.1;have a:t<hi:=zC hb.2;rw[cV.Jp h.1 b a]at h2;cases h2
theorem di.Lq:∀{σ:di} {ρ:Env} {x:σ.den} {t:Nat} {v:Value},σ.read ρ=some x->(σ.vals x []).get t=some v->ρ.get t=some v∨False
 |[],_,_,_,_,_,h=>by simp[di.vals,Env.get]at h
 |[s],ρ,x,t,v,h,hv=>by
  simp only[di.read]at h;split at h
  ·rename_i u b;simp only[di.vals,Env.get]at hv;cases hb:wM s.1 t with
   |true=>
    rw[hb]at hv;have:=zJ hb;simp at hv;subst hv;rw[<-Ty.pd h,<-this];exact .inl b
   |false=>rw[hb]at hv;simp at hv
  ·cases h
 |s::u::r,ρ,x,t,v,h,hv=>by
  simp only[di.read]at h;split at h
  ·rename_i z d;split at h
   ·rename_i y a;split at h
    ·rename_i w c;cases h;simp only[di.vals,Env.get]at hv;cases hb:wM s.1 t with
     |true=>
      rw[hb]at hv;have:=zJ hb;simp at hv;subst hv;rw[<-Ty.pd a,<-this];exact .inl d
     |false=>
      rw[hb]at hv;exact di.Lq (σ:=u::r) c hv
    ·cases h
   ·cases h
  ·cases h
theorem Fits.pi{n:Nat}{a d:Act}{σ:di}{κ:cV}{ρ g:Env}{x:σ.den}(l:Fits n a ρ)(h:Fits n d g)
  (b:∀t,σ.has t=false->(κ.over []).eN t=false->d.tmps[t]?=a.tmps[t]?) (j:σ.read g=some x):
  Fits n d (σ.vals x (κ.over ρ))/\Ext ρ (σ.vals x (κ.over ρ)) a d:=by
 rw[di.Fg,cV.Lo];refine⟨⟨h.size,h.defers,λt v c=>?_⟩,⟨σ.vals x []++κ.over [],by simp,λt f=>?_⟩⟩
 ·cases h1:σ.has t with
  |true=>
   have:∀(e:Env),((σ.vals x [])++e).get t=(σ.vals x []).get t:=λe=>di.Lp σ x e t h1;rw[this]at c;rcases di.Lq j c with h2|h2
   ·exact h.get t v h2
   ·exact h2.elim
  |false=>
   rw[Env.get_append (by rw[di.un];exact h1)]at c;cases h2:(κ.over []).eN t with
   |true=>
    have:∀(e:Env),((κ.over [])++e).get t=none:=by
     intro e;clear b c
     induction κ with
     |nil=>simp[cV.over,Env.eN]at h2
     |cons p r ih=>
      obtain⟨i,k⟩:=p;simp only[cV.over,Env.eN,pf.eN]at h2;simp only[cV.over,zp,Env.get];cases hb:(xg i t&&vZ t k)with
      |true=>rfl
      |false=>rw[hb]at h2;simp at h2;simpa using ih h2
    rw[this]at c;cases c
   |false=>
    rw[Env.get_append h2]at c;rw[b t h1 h2];exact l.get t v c
 ·rw[Env.uY,yw,di.un]at f;exact b t f.1 f.2
theorem Ext.within{a e:Act}{σ:di}{κ:cV}{ρ c:Env}(f:Ext ρ c a e)(d:within σ κ c (c.length-ρ.length)=true):
  ∀t,σ.has t=false->(κ.over []).eN t=false->e.tmps[t]?=a.tmps[t]?:=by
 obtain⟨δ,rfl,h⟩:=f;have b:(δ++ρ).length-ρ.length=δ.length:=by simp
 rw[b]at d;exactλt i g=>h t (ph d t i g)
theorem Ext.pi{a b:Act}{σ:di}{κ:cV}{ρ:Env}{x:σ.den}(d:Ext ρ (σ.vals x (κ.over ρ)) a b):
  ∀t,σ.has t=false->(κ.over []).eN t=false->b.tmps[t]?=a.tmps[t]?:=by
 obtain⟨δ,c,f⟩:=d;rw[di.Fg,cV.Lo,<-List.append_assoc]at c;have:=List.append_cancel_right c;subst this;exactλt g e=>f t (by rw[Env.uY,di.un,g,e];rfl)
inductive mW where
 |int (k:IntKind)|bool|str|flt|cpx|mp|fn|other
 |slice (e:TypeId)|array (n:Nat) (e:TypeId)|struct (fs:List (Nat×TypeId))|ptr (e:TypeId)
def iL:Option TypeDesc->mW
 |some (.int k)=>.int k
 |some .bool=>.bool
 |some .string=>.str
 |some (.float _)=>.flt
 |some (.complex _)=>.cpx
 |some (.map ..)=>.mp
 |some (.func ..)=>.fn
 |some (.slice e)=>.slice e
 |some (.array n e)=>.array n e
 |some (.struct fs)=>.struct (fs.toList.map λf=>(f.offset,f.type))
 |some (.pointer e)=>.ptr e
 |_=>.other
structure TI where
 cj:mW
 ty:Ty
 size:Nat
 bytes:Nat
 zero:List Value
abbrev ke:=List TI
def ke.seen(P:Program)(t:TypeId):mW×Option (Nat×Nat×Option (List Value)):=
 (iL (P.underlying t),(P.info? t).map λi=>(i.size,i.bytes,i.zero.map (·.cells.toList)))
def ke.told(i:TI):mW×Option (Nat×Nat×Option (List Value)):=(i.cj,some (i.size,i.bytes,some i.zero))
def ke.get:ke->Nat->Option TI
 |[],_=>none
 |i::_,0=>some i
 |_::r,t+1=>ke.get r t
structure xZ where
 P:Program
 T:ke
structure xZ.Ok (C:xZ):Prop where
 QE:(List.range C.T.length).map (ke.seen C.P)=C.T.map ke.told
 mixed:C.P.follows .mixedOrders=true
theorem ke.get_eq:∀(T:ke) (t:Nat),T.get t=T[t]?
 |[],_=>rfl
 |_::_,0=>rfl
 |_::r,t+1=>by simp[ke.get,ke.get_eq r t]
theorem xZ.Ok.at{C:xZ}(h:C.Ok){t:Nat}{i:TI}(a:C.T.get t=some i):ke.seen C.P t=ke.told i:=by rw[ke.get_eq]at a;have b:t<C.T.length:=(ql.1 a).1;have:=congrArg (·[t]?) h.QE;simp[b]at this;rw[this,(ql.1 a).2]
def Br(b:Bool)(A B:Prop):Prop:=match b with
 |true=>A
 |false=>B
inductive PV:Type 1 where
 |no
 |val (v:Value)
 |cond (c:Prop) (v:Value)
 |ex (X:Type) (c:X->Prop) (v:X->Value)
 |br (b:Bool) (x y:Value)
def PV.holds(p:PV)(K:Value->Prop):Prop:=match p with
 | .no=>False
 | .val v=>K v
 | .cond c v=>c/\K v
 | .ex _ c v=>∃x,c x/\K (v x)
 | .br b x y=>Br b (K x) (K y)
def ri(P:Program)(s:Sem Next)(v:Value):Prop:=∀w,s.run P w=.ok (.value v) w
def aF{α:Type}(P:Program)(s:Sem α)(v:α):Prop:=∀w,s.run P w=.ok v w
def kf(P:Program)(op:BinOp)(t:TypeId)(x y:Operand)(a b r:Value):Prop:=aF P (do eqGuard op t x y a b;binOp op t a b) r
def ZP:Operand->Bool
 | .tmp _=>true
 |_=>false
def XA(P:Program)(t:TypeId)(x y:Operand)(d:Option mW)(op:BinOp):Value->Value->PV
 | .int k a,.int k' b=>
  match op with
  | .shl=>.cond (0<=b) (.int k (k.wrap (a*2^min b.toNat k.bits)))
  | .shr=>.cond (0<=b) (.int k (a.fdiv (2^min b.toNat k.bits)))
  |_=>bif xY k k' then
   match op with
   | .add=>.val (.int k (k.wrap (a+b)))
   | .sub=>.val (.int k (k.wrap (a-b)))
   | .mul=>.val (.int k (k.wrap (a*b)))
   | .quo=>.cond (b≠0) (.int k (k.wrap (a.tdiv b)))
   | .rem=>.cond (b≠0) (.int k (a.tmod b))
   | .and=>.val (.int k (k.wrap (qN k.bits a&&&qN k.bits b).toNat))
   | .or=>.val (.int k (k.wrap (qN k.bits a|||qN k.bits b).toNat))
   | .xor=>.val (.int k (k.wrap (qN k.bits a^^^qN k.bits b).toNat))
   | .andNot=>.val (.int k (k.wrap (qN k.bits a&&&~~~qN k.bits b).toNat))
   | .eql=>.val (.bool (a==b))
   | .neq=>.val (.bool (a !=b))
   | .lss=>.val (.bool (decide (a<b)))
   | .leq=>.val (.bool (decide (a<=b)))
   | .gtr=>.val (.bool (decide (a>b)))
   | .geq=>.val (.bool (decide (a>=b)))
   |_=>.no
  else .no
 | .float k a,.float k' b=>bif BX k k' then
   match op with
   | .add=>.ex Nat (λr=>k.format.add a b=some r) (λr=>.float k r)
   | .sub=>.ex Nat (λr=>k.format.sub a b=some r) (λr=>.float k r)
   | .mul=>.ex Nat (λr=>k.format.mul a b=some r) (λr=>.float k r)
   | .quo=>.ex Nat (λr=>k.format.div a b=some r) (λr=>.float k r)
   | .eql=>.val (.bool (k.format.order a b==some .eq))
   | .neq=>.val (.bool (k.format.order a b !=some .eq))
   | .lss=>.val (.bool (k.format.order a b==some .lt))
   | .gtr=>.val (.bool (k.format.order a b==some .gt))
   |_=>.no
  else .no
 | .string a,.string b=>
  match op with
  | .eql=>.val (.bool (a.toList==b.toList))
  | .neq=>.val (.bool (!(a.toList==b.toList)))
  | .lss=>.val (.bool (Op.bytesLess a.toList b.toList))
  | .leq=>.val (.bool (Op.bytesLess a.toList b.toList||a.toList==b.toList))
  | .gtr=>.val (.bool (!(Op.bytesLess a.toList b.toList||a.toList==b.toList)))
  | .geq=>.val (.bool (!(Op.bytesLess a.toList b.toList)))
  | .add=>.cond (((a.size+b.size:Nat):Int)<=xF.max) (.string (a++b))
  |_=>.no
 | .bool a,.bool b=>
  match d with
  |some .bool=>match op with
   | .eql=>.val (.bool (a==b))
   | .neq=>.val (.bool (!(a==b)))
   |_=>.no
  |_=>.no
 | .pointer a,.pointer b=>bif ZP y then .ex Bool (λr=>kf P op t x y (.pointer a) (.pointer b) (.bool r)) (λr=>.bool r)else
  match b with
  |none=>match d with
   |some (.ptr _)=>match op with
    | .eql=>.val (.bool a.isNone)
    | .neq=>.val (.bool (!a.isNone))
    |_=>.no
   |_=>.no
  |some _=>.no
 | .slice a _ _,.slice none _ _=>
  match d with
  |some (.slice _)=>match op with
   | .eql=>.val (.bool a.isNone)
   | .neq=>.val (.bool (!a.isNone))
   |_=>.no
  |_=>.no
 | .agg a,.agg b=>.ex Bool (λr=>kf P op t x y (.agg a) (.agg b) (.bool r)) (λr=>.bool r)
 | .complex k a b,.complex k' c e=>
  match op with
  | .eql| .neq=>.ex Bool (λr=>kf P op t x y (.complex k a b) (.complex k' c e) (.bool r)) (λr=>.bool r)
  |_=>.ex (Nat×Nat) (λr=>kf P op t x y (.complex k a b) (.complex k' c e) (.complex k r.1 r.2)) (λr=>.complex k r.1 r.2)
 |_,_=>.no
def XB(P:Program)(t:TypeId)(x y:Operand)(d:Option mW)(op:BinOp)(a:Value):Value->PV
 | .nilIface=>.ex Bool (λr=>kf P op t x y a .nilIface (.bool r)) (λr=>.bool r)
 |b=>XA P t x y d op a b
def unV(op:UnOp):Value->PV
 | .bool b=>match op with
  | .not=>.val (.bool !b)
  |_=>.no
 | .int k n=>match op with
  | .neg=>.val (.int k (k.wrap (0-n)))
  | .xor=>.val (.int k (k.wrap (qN k.bits (if k.signed then-1 else k.max)^^^qN k.bits n).toNat))
  |_=>.no
 |_=>.no
def oY(ev:Operand->Option Value):List Operand->Option (List Value)
 |[]=>some []
 |x::r=>match ev x with
  |some v=>match oY ev r with
   |some vs=>some (v::vs)
   |none=>none
  |none=>none
def BZ(ev:Operand->Option Value):List (Nat×Operand)->Option (List (Nat×Value))
 |[]=>some []
 |(n,x)::r=>match ev x with
  |some v=>match BZ ev r with
   |some vs=>some ((n,v)::vs)
   |none=>none
  |none=>none
def placesOf(T:ke):List (Nat×TypeId)->Option (List (Nat×Nat))
 |[]=>some []
 |(off,t)::r=>match T.get t with
  |some j=>match placesOf T r with
   |some ps=>some ((off,j.size)::ps)
   |none=>none
  |none=>none
def Gj(ev:Operand->Option Value):Option Operand->Option (Option Int)
 |none=>some none
 |some x=>match ev x with
  |some (.int _ n)=>some (some n)
  |_=>none
def acu(d:Option mW):Value->PV
 | .slice _ n _=>match d with
  |some (.slice _)=>.val (.int .i64 n)
  |_=>.no
 | .string s=>match d with
  |some .str=>.val (.int .i64 s.size)
  |_=>.no
 |_=>.no
def acv(d:Option mW):Value->PV
 | .slice _ _ n=>match d with
  |some (.slice _)=>.val (.int .i64 n)
  |_=>.no
 |_=>.no
def ZQ(d:Option mW):Value->PV
 | .int _ n=>match d with
  |some (.int k)=>.val (.int k (k.wrap n))
  |_=>.no
 |_=>.no
def yP(P:Program)(T:ke)(op:Op)(ev:Operand->Option Value):PV:=
 match op with
 | .move x| .assign x=>match ev x with
  |some v=>.val v
  |none=>.no
 | .pick c a b=>match ev c,ev a,ev b with
  |some (.bool t),some x,some y=>.br t x y
  |_,_,_=>.no
 | .nilCheck x=>match ev x with
  |some (.pointer p)=>.ex Addr (λa=>p=some a) (λa=>.pointer (some a))
  |_=>.no
 | .fieldAddr s x f=>match ev x with
  |some (.pointer (some a))=>match T.get s with
   |some i=>match i.cj with
    | .struct fs=>match fs[f]? with
     |some (off,t)=>match T.get t with
      |some j=>bif wM j.size 0 then .no else .val (.pointer (some (a.add off)))
      |none=>.no
     |none=>.no
    |_=>.no
   |none=>.no
  |_=>.no
 | .indexAddr t x ix=>match ev ix with
  |some (.int _ n)=>match ev x with
   |some (.slice p len _)=>match T.get t with
    |some i=>match i.cj with
     | .slice e=>match T.get e with
      |some j=>.ex Addr (λa=>p=some a/\0<=n/\n<(len:Int)) (λa=>.pointer (some (a.add (n.toNat*j.size))))
      |none=>.no
     |_=>.no
    |none=>.no
   |some (.pointer (some a))=>match T.get t with
    |some i=>match i.cj with
     | .array m e=>match T.get e with
      |some j=>.cond (0<=n/\n<(m:Int)) (.pointer (some (a.add (n.toNat*j.size))))
      |none=>.no
     |_=>.no
    |none=>.no
   |_=>.no
  |_=>.no
 | .index t x ix=>match ev ix with
  |some (.int _ n)=>match ev x with
   |some (.string s)=>match T.get t with
    |some i=>match i.cj with
     | .str=>.ex UInt8 (λb=>0<=n/\s.data[n.toNat]?=some b) (λb=>.int .u8 b.toNat)
     |_=>.no
    |none=>.no
   |some (.agg cs)=>match T.get t with
    |some i=>match i.cj with
     | .array m e=>match T.get e with
      |some j=>match j.ty with
       | .sc s=>match j.cj with
        | .struct _=>.no
        | .array _ _=>.no
        | .other=>.no
        |_=>bif wM j.size 1 then .ex s.den (λy=>0<=n/\n<(m:Int)/\cs[n.toNat]?=some (s.enc y)) (λy=>s.enc y)else .no
       |_=>.no
      |none=>.no
     |_=>.no
    |none=>.no
   |_=>.no
  |_=>.no
 | .field s x f=>match ev x with
  |some (.agg ⟨cs⟩)=>match T.get s with
   |some i=>match i.cj with
    | .struct fs=>match fs[f]? with
     |some (off,t)=>match T.get t with
      |some j=>match j.cj with
       | .struct _=>.val (.agg ((cs.drop off).take j.size).toArray)
       | .array _ _=>.val (.agg ((cs.drop off).take j.size).toArray)
       | .other=>.no
       |_=>match cs[off]? with
        |some v=>.val v
        |none=>.no
      |none=>.no
     |none=>.no
    |_=>.no
   |none=>.no
  |_=>.no
 | .slice t x lo hi mx=>match mx with
  |some _=>.no
  |none=>match Gj ev lo,Gj ev hi with
   |some l,some r=>match ev x with
    |some (.slice p len cap)=>match T.get t with
     |some i=>match i.cj with
      | .slice e=>match T.get e with
       |some j=>match l,r with
        |none,none=>.val (.slice p len cap)
        |none,some r=>.cond (0<=r/\r<=(cap:Int)) (.slice p r.toNat cap)
        |some l,none=>.cond (0<=l/\l<=(len:Int)) (.slice (if cap=l.toNat then p else p.map (·.add (l.toNat*j.size))) (len-l.toNat) (cap-l.toNat))
        |some l,some r=>.cond (0<=l/\l<=r/\r<=(cap:Int)) (.slice (if cap=l.toNat then p else p.map (·.add (l.toNat*j.size))) (r.toNat-l.toNat) (cap-l.toNat))
       |none=>.no
      |_=>.no
     |none=>.no
    |some (.string s)=>match T.get t with
     |some i=>match i.cj with
      | .str=>match l,r with
       |none,none=>.val (.string (s.extract 0 s.size))
       |none,some r=>.cond (0<=r/\r<=(s.size:Int)) (.string (s.extract 0 r.toNat))
       |some l,none=>.cond (0<=l/\l<=(s.size:Int)) (.string (s.extract l.toNat s.size))
       |some l,some r=>.cond (0<=l/\l<=r/\r<=(s.size:Int)) (.string (s.extract l.toNat r.toNat))
      |_=>.no
     |none=>.no
    |some (.pointer (some a))=>match T.get t with
     |some i=>match i.cj with
      | .array n e=>match T.get e with
       |some j=>match l,r with
        |none,none=>.val (.slice (some a) n n)
        |none,some r=>.cond (0<=r/\r<=(n:Int)) (.slice (some a) r.toNat n)
        |some l,none=>.cond (0<=l/\l<=(n:Int)) (.slice (some (if n=l.toNat then a else a.add (l.toNat*j.size))) (n-l.toNat) (n-l.toNat))
        |some l,some r=>.cond (0<=l/\l<=r/\r<=(n:Int)) (.slice (some (if n=l.toNat then a else a.add (l.toNat*j.size))) (r.toNat-l.toNat) (n-l.toNat))
       |none=>.no
      |_=>.no
     |none=>.no
    |_=>.no
   |_,_=>.no
 | .extract x n=>match ev x with
  |some (.tuple ⟨vs⟩)=>match vs[n]? with
   |some v=>.val v
   |none=>.no
  |_=>.no
 | .binOp op t x y _=>match ev x,ev y with
  |some a,some b=>XB P t x y ((T.get t).map (·.cj)) op a b
  |_,_=>.no
 | .unOp op _ x=>match ev x with
  |some v=>unV op v
  |none=>.no
 | .convert src dst x=>match ev x,(T.get src).map TI.cj with
  |some v,some (mW.int _)=>ZQ ((T.get dst).map (·.cj)) v
  |_,_=>.no
 | .build t parts=>match BZ ev parts.toList with
  |some vs=>match T.get t with
   |some i=>bif vZ 24 i.size then .ex Value (λv=>aF P (xc t vs.toArray) v) (λv=>v)else match i.cj with
    | .struct fs=>match placesOf T fs with
     |some ps=>match wE (λn=>ps[n]?) i.zero.toArray vs with
      |some cells=>.val (.agg cells)
      |none=>.no
     |none=>.no
    | .array _ e=>match T.get e with
     |some j=>match wE (λn=>some (n*j.size,j.size)) i.zero.toArray vs with
      |some cells=>.val (.agg cells)
      |none=>.no
     |none=>.no
    |_=>.no
   |none=>.no
  |none=>.no
 | .makeFunc fn first captured=>match oY ev first.toList,oY ev captured.toList with
  |some a,some b=>.val (.func fn a.toArray b.toArray)
  |_,_=>.no
 | .call c=>match c.callee with
  | .builtin b=>match b with
   | .len=>match c.argTypes.toList,c.args.toList with
    |t::_,[x]=>match ev x with
     |some v=>acu ((T.get t).map (·.cj)) v
     |none=>.no
    |_,_=>.no
   | .cap=>match c.argTypes.toList,c.args.toList with
    |t::_,[x]=>match ev x with
     |some v=>acv ((T.get t).map (·.cj)) v
     |none=>.no
    |_,_=>.no
   | .min=>match oY ev c.args.toList with
    |some [.int k a,.int _ b]=>.val (.int k (if b<a then b else a))
    |_=>.no
   | .max=>match oY ev c.args.toList with
    |some [.int k a,.int _ b]=>.val (.int k (if b>a then b else a))
    |_=>.no
   | .real=>match oY ev c.args.toList with
    |some [.complex k a _]=>.val (.float k a)
    |_=>.no
   | .imag=>match oY ev c.args.toList with
    |some [.complex k _ b]=>.val (.float k b)
    |_=>.no
   |_=>.no
  |_=>.no
 |_=>.no
theorem aF.next{P:Program}{s:Sem Value}{v:Value}(h:aF P s v):ri P (do pure (.value (<-s))) v:=λw=>by
 rw[Sem.run_bind,h w];rfl
theorem aF.pure{α:Type}{P:Program}{v:α}:aF P (pure v) v:=λ_=>rfl
theorem aF.bind{α β:Type}{P:Program}{s:Sem α}{f:α->Sem β}{v:α}{u:β}(h:aF P s v)(k:aF P (f v) u):aF P (s>>=f) u:=λw=>by
 rw[Sem.run_bind,h w];exact k w
theorem zZ{d:Option TypeDesc}{k:IntKind}(h:iL d=.int k):d=some (.int k):=by unfold iL at h;split at h<;>cases h;rfl
theorem XC{d:Option TypeDesc}(h:iL d=.bool):d=some .bool:=by unfold iL at h;split at h<;>cases h;rfl
theorem sJ{d:Option TypeDesc}(h:iL d=.str):d=some .string:=by unfold iL at h;split at h<;>cases h;rfl
theorem jo{d:Option TypeDesc}{e:TypeId}(h:iL d=.slice e):d=some (.slice e):=by unfold iL at h;split at h<;>cases h;rfl
theorem rj{d:Option TypeDesc}{n:Nat}{e:TypeId}(h:iL d=.array n e):d=some (.array n e):=by unfold iL at h;split at h<;>cases h;rfl
theorem abd{d:Option TypeDesc}{e:TypeId}(h:iL d=.ptr e):d=some (.pointer e):=by unfold iL at h;split at h<;>cases h;rfl
theorem oe{d:Option TypeDesc}{b:List (Nat×TypeId)}(h:iL d=.struct b):∃a,d=some (.struct a)/\b=a.toList.map λf=>(f.offset,f.type):=by unfold iL at h;split at h<;>cases h;exact⟨_,rfl,rfl⟩
variable {t:TypeId} {i:TI}
section
variable {C:xZ}
theorem xZ.Ok.cj(h:C.Ok)(a:C.T.get t=some i):iL (C.P.underlying t)=i.cj:=congrArg Prod.fst (h.at a)
theorem xZ.Ok.info(h:C.Ok)(d:C.T.get t=some i):∃f,C.P.info? t=some f/\f.size=i.size/\f.bytes=i.bytes/\∃z,f.zero=some z/\z.cells.toList=i.zero:=by
 have:=congrArg Prod.snd (h.at d);simp only[ke.seen,ke.told]at this;cases hf:C.P.info? t with
 |none=>rw[hf]at this;cases this
 |some f=>
  rw[hf]at this;simp only[qS,zQ.injEq,Prod.mk.injEq]at this;obtain⟨a,b,c⟩:=this;cases hz:f.zero with
  |none=>rw[hz]at c;cases c
  |some z=>rw[hz]at c;simp at c;exact⟨f,rfl,a,b,z,hz,by simpa using c⟩
theorem aH{P:Program}{t:TypeId}{d:TypeDesc}(h:P.underlying t=some d):aF P (underlying t) d:=λw=>by
 simp[underlying,h]
theorem cZ{P:Program}{t:TypeId}{d:TypeInfo}(h:P.info? t=some d):aF P (typeInfo t) d:=λw=>by
 simp[typeInfo,h]
theorem dT(h:C.Ok)(b:C.T.get t=some i):aF C.P (sizeOf t) i.size:=by obtain⟨f,c,a,_⟩:=h.info b;rw[<-a];exact(cZ c).bind .pure
theorem pM(h:C.Ok)(a:C.T.get t=some i):∃z,aF C.P (zeroValue t) z/\z.cells.toList=i.zero:=by obtain⟨f,d,_,_,z,c,b⟩:=h.info a;refine⟨z,(cZ d).bind ?_,b⟩;rw[c];exact .pure
theorem kM(h:C.Ok)(g:C.T.get t=some i):(∀b,i.cj=.struct b->aF C.P (isAgg t) true)/\(∀n e,i.cj=.array n e->aF C.P (isAgg t) true)/\
  ((∀b,i.cj≠.struct b)->(∀n e,i.cj≠.array n e)->i.cj≠.other->aF C.P (isAgg t) false):=by
 have a:=h.cj g;refine⟨λb c=>?_,λn e c=>?_,λk j h3=>?_⟩
 ·rw[c]at a;obtain⟨l,f,_⟩:=oe a;exact(aH f).bind .pure
 ·rw[c]at a;exact(aH (rj a)).bind .pure
 ·cases hu:C.P.underlying t with
  |none=>rw[hu]at a;exact absurd a.symm h3
  |some d=>
   refine(aH hu).bind ?_;rw[hu]at a;cases d<;>first|exact .pure|(exfalso;simp only[iL]at a;first|exact k _ a.symm|exact j _ _ a.symm)
end
theorem Az{ev:Operand->Option Value}{e:Operand->Value}(c:∀x v,ev x=some v->e x=v):∀{l:List Operand} {vs:List Value},oY ev l=some vs->l.map e=vs:=by
 intro l
 induction l with
 |nil=>intro vs h;cases h;rfl
 |cons x r ih=>
  intro vs h;simp only[oY]at h;split at h
  ·rename_i v b;split at h
   ·rename_i us a;cases h;simp[c _ _ b,ih a]
   ·cases h
  ·cases h
theorem EJ{ev:Operand->Option Value}{e:Operand->Value}(c:∀x v,ev x=some v->e x=v):∀{l:List (Nat×Operand)} {vs:List (Nat×Value)},BZ ev l=some vs->l.map (λp=>(p.1,e p.2))=vs:=by
 intro l
 induction l with
 |nil=>intro vs h;cases h;rfl
 |cons x r ih=>
  intro vs h;obtain⟨n,x⟩:=x;simp only[BZ]at h;split at h
  ·rename_i v b;split at h
   ·rename_i us a;cases h;simp[c _ _ b,ih a]
   ·cases h
  ·cases h
theorem Fh(t:TypeId)(x y:Value):Op.equal t x y=Op.equalIn (9999+1) t x y:=rfl
theorem abe{t:TypeId}(c:P.underlying t=some .bool)(d:Nat)(a b:Bool):aF P (Op.equalIn (d+1) t (.bool a) (.bool b)) (a==b):=λw=>by
 simp[Op.equalIn,underlying,c]
theorem acw{t e:TypeId}(b:P.underlying t=some (.pointer e))(d:Nat)(a:Option Addr):aF P (Op.equalIn (d+1) t (.pointer a) (.pointer none)) a.isNone:=λw=>by
 cases a<;>simp[Op.equalIn,underlying,b]
theorem XD{t e:TypeId}(b:P.underlying t=some (.slice e))(d:Nat)(a:Option Addr)(l c l' f:Nat):aF P (Op.equalIn (d+1) t (.slice a l c) (.slice none l' f)) a.isNone:=λw=>by
 cases a<;>simp[Op.equalIn,underlying,b]
theorem Rj{t:TypeId}{d:Option mW}{op:BinOp}{a b:Value}{x y:Operand}{K:Value->Prop}(o:∀q,d=some q->iL (P.underlying t)=q)
  (h:(XA P t x y d op a b).holds K):∃v,aF P (do eqGuard op t x y a b;binOp op t a b) v/\K v:=by
 have j:∀{a b:Value},¬(a=.nilIface/\b=.nilIface)->(∀u v,¬(a=.agg u/\b=.agg v))->aF P (eqGuard op t x y a b) ():=by
  intro a b f i w;simp only[eqGuard];cases op<;>simp only[Bool.not_true,Bool.not_false,zb,if_true,if_false]<;>
   first
    |rfl
    |(split<;>first|exact absurd ⟨rfl,rfl⟩ f|exact absurd ⟨rfl,rfl⟩ (i _ _)|rfl)
 unfold XA at h;split at h
 ·rename_i k a n b;have g:=j (a:=.int k a) (b:=.int n b) (by simp) (by simp);cases op<;>simp only at h
  case shl=>exact⟨_,g.bind λw=>by simp only[binOp,Op.shift];rw[if_neg (by have:=h.1;omega)];rfl,h.2⟩
  case shr=>exact⟨_,g.bind λw=>by simp only[binOp,Op.shift];rw[if_neg (by have:=h.1;omega)];rfl,h.2⟩
  all_goals
   cases hk:xY k n with
   |false=>rw[hk]at h;simp[PV.holds]at h
   |true=>
    rw[hk]at h;simp only[cond_true,PV.holds]at h;have e:=EI hk;subst e
    first
     |exact⟨_,g.bind λw=>by simp[binOp,Op.intArith,Op.intBits,Op.intCmp],h⟩
     |exact⟨_,g.bind λw=>by simp[binOp,Op.intDiv,h.1],h.2⟩
     |exact h.elim
 ·rename_i k a n b;have g:=j (a:=.float k a) (b:=.float n b) (by simp) (by simp);cases hk:BX k n with
  |false=>rw[hk]at h;simp[PV.holds]at h
  |true=>
   rw[hk]at h;have e:=BY hk;subst e;cases op<;>simp only[cond_true,PV.holds]at h<;>
    first
     |(obtain⟨r,f,i⟩:=h;exact⟨_,g.bind λw=>by simp[binOp,Op.floatArith,f],i⟩)
     |exact⟨_,g.bind λw=>by simp[binOp,Op.floatCmp],h⟩
     |exact h.elim
 ·rename_i a b;have g:=j (a:=.string a) (b:=.string b) (by simp) (by simp);cases op<;>simp only[PV.holds]at h<;>
   first
    |exact⟨_,g.bind λw=>by simp[binOp,Op.stringOp],h⟩
    |exact⟨_,g.bind λw=>by simp only[binOp,Op.stringOp];rw[if_neg (by have:=h.1;omega)];rfl,h.2⟩
    |exact h.elim
 ·rename_i a b;have g:=j (a:=.bool a) (b:=.bool b) (by simp) (by simp);split at h
  ·have m:=XC (o _ rfl);cases op<;>simp only[PV.holds]at h<;>
    first
     |exact⟨_,g.bind (by simp only[binOp,Fh];exact(abe m _ a b).bind .pure),h⟩
     |exact h.elim
  ·exact h.elim
 ·rename_i a b;cases hy:ZP y with
  |true=>
   rw[hy]at h;obtain⟨r,f,i⟩:=h;exact⟨_,f,i⟩
  |false=>
   rw[hy]at h;cases b with
   |some _=>exact h.elim
   |none=>
    have g:=j (a:=.pointer a) (b:=.pointer none) (by simp) (by simp);simp only[cond_false]at h;split at h
    ·rename_i e;have m:=abd (o _ rfl);cases op<;>simp only[PV.holds]at h<;>
      first
       |exact⟨_,g.bind (by simp only[binOp,Fh];exact(acw m _ a).bind .pure),h⟩
       |exact h.elim
    ·exact h.elim
 ·rename_i a l c l' p;have g:=j (a:=.slice a l c) (b:=.slice none l' p) (by simp) (by simp);split at h
  ·rename_i e;have m:=jo (o _ rfl);cases op<;>simp only[PV.holds]at h<;>
    first
     |exact⟨_,g.bind (by simp only[binOp,Fh];exact(XD m _ a l c l' p).bind .pure),h⟩
     |exact h.elim
  ·exact h.elim
 ·obtain⟨r,f,i⟩:=h;exact⟨_,f,i⟩
 ·split at h
  ·obtain⟨r,f,i⟩:=h;exact⟨_,f,i⟩
  ·obtain⟨r,f,i⟩:=h;exact⟨_,f,i⟩
  ·obtain⟨r,f,i⟩:=h;exact⟨_,f,i⟩
 ·exact h.elim
theorem Rl{t:TypeId}{d:Option mW}{op:BinOp}{a b:Value}{x y:Operand}{K:Value->Prop}(e:∀q,d=some q->iL (P.underlying t)=q)
  (h:(XB P t x y d op a b).holds K):∃v,aF P (do eqGuard op t x y a b;binOp op t a b) v/\K v:=by
 unfold XB at h;split at h
 ·obtain⟨r,f,c⟩:=h;exact⟨_,f,c⟩
 ·exact Rj e h
theorem Lr(a:List Value)(off n:Nat):((a.drop off).take n).toArray=(a.toArray).extract off (off+n):=by apply yC;simp[List.extract_eq_take_drop]
variable {e:Operand->Value}
section
variable {C:xZ} {ev:Operand->Option Value}
theorem sT(c:C.Ok):∀{b:List Field} {a:List (Nat×Nat)},placesOf C.T (b.map λf=>(f.offset,f.type))=some a->
  aF C.P (b.mapM λf=>(do pure (f.offset,<-sizeOf f.type):Sem (Nat×Nat))) a
 |[],a,h=>by cases h;exact .pure
 |f::r,a,h=>by
  simp only[List.map_cons,placesOf]at h;split at h
  ·rename_i j e;split at h
   ·rename_i g d;cases h;rw[List.mapM_cons];exact aF.bind ((dT c e).bind .pure) ((sT c d).bind .pure)
   ·cases h
  ·cases h
theorem EK(f:C.Ok){t:TypeId}{j:TI}(g:C.T.get t=some j)(h:∀c,j.cj≠.struct c)(d:∀n e,j.cj≠.array n e)(h3:j.cj≠.other)
  {a:Array Value} {off:Nat} {v:Value} (b:a[off]?=some v):aF C.P (part t a off) v:=by
 refine((kM f g).2.2 h d h3).bind ?_;rw[b];exact .pure
theorem Ls(b:C.Ok){t:TypeId}{j:TI}(c:C.T.get t=some j)(h:(∃a,j.cj=.struct a)∨∃n e,j.cj=.array n e)
  {d:Array Value} {off:Nat}:aF C.P (part t d off) (.agg (d.extract off (off+j.size))):=by
 have f:aF C.P (isAgg t) true:=by
  rcases h with⟨a,h⟩|⟨n,e,h⟩
  ·exact(kM b c).1 a h
  ·exact(kM b c).2.1 n e h
 exact f.bind ((dT b c).bind .pure)
theorem Gk(I:C.Ok)(G:∀x v,ev x=some v->e x=v){o:Oper}{K:Value->Prop}(h:(yP C.P C.T o.op ev).holds K):
  ∃v,ri C.P (execOp e o) v/\K v:=by
 have M:∀t q,(C.T.get t).map (·.cj)=some q->iL (C.P.underlying t)=q:=λt q h=>by
  cases F:C.T.get t with
  |none=>rw[F]at h;cases h
  |some i=>rw[F]at h;cases h;exact I.cj F
 cases hop:o.op<;>rw[hop]at h<;>simp only[yP]at h<;>simp only[execOp,hop]
 case move x=>
  split at h
  ·rename_i v A;rw[G _ _ A];exact⟨v,λ_=>rfl,h⟩
  ·exact h.elim
 case assign x=>
  split at h
  ·rename_i v A;rw[G _ _ A];exact⟨v,λ_=>rfl,h⟩
  ·exact h.elim
 case pick c a b=>
  split at h
  ·rename_i t x y N h2 h3;rw[G _ _ N,G _ _ h2,G _ _ h3];cases t
   ·exact⟨y,λ_=>rfl,h⟩
   ·exact⟨x,λ_=>rfl,h⟩
  ·exact h.elim
 case nilCheck x=>
  split at h
  ·rename_i p hp;obtain⟨a,rfl,B⟩:=h;rw[G _ _ hp];exact⟨_,λ_=>rfl,B⟩
  ·exact h.elim
 case fieldAddr s x f=>
  split at h
  ·rename_i a ha;rw[G _ _ ha];split at h
   ·rename_i i F;split at h
    ·rename_i fs X;split at h
     ·rename_i off t ab;split at h
      ·rename_i j R;cases hz:wM j.size 0 with
       |true=>rw[hz]at h;exact h.elim
       |false=>
        rw[hz]at h;have E:=I.cj F;rw[X]at E;obtain⟨gs,hg,rfl⟩:=oe E;simp only[qO,ve]at ab;obtain⟨g,ar,ap⟩:=ab;cases ap;refine⟨_,aF.next ((aH hg).bind ?_),h⟩;have al:gs[f]?=some g:=by simpa using ar
        simp only[al];refine aF.bind (v:=a) .pure (aF.bind (v:=a.add g.offset) ?_ .pure);unfold fieldPlace;refine(dT I R).bind ?_;have:j.size≠0:=λe=>by rw[e]at hz;cases hz
        rw[if_neg this];exact .pure
      ·exact h.elim
     ·exact h.elim
    ·exact h.elim
   ·exact h.elim
  ·exact h.elim
 case indexAddr t x ix=>
  split at h
  ·rename_i k n hn;rw[G _ _ hn];split at h
   ·rename_i p len cap U;rw[G _ _ U];split at h
    ·rename_i i F;split at h
     ·rename_i el D;split at h
      ·rename_i j R;obtain⟨a,⟨rfl,h0,N⟩,B⟩:=h;have E:=I.cj F;rw[D]at E;have H:=jo E;refine⟨_,aF.next ?_,B⟩;unfold Instr.indexAt;refine aF.bind (v:=(k,n)) .pure ?_;refine(aH H).bind ?_;refine aF.bind (v:=(some a,len,el)) .pure ?_;intro w;have:=dT I R w;simp only[Sem.run_bind,aH H w,Result.andThen_ok];cases hl:decide (len<=1)<;>simp[h0,N,this]
      ·exact h.elim
     ·exact h.elim
    ·exact h.elim
   ·rename_i a U;rw[G _ _ U];split at h
    ·rename_i i F;split at h
     ·rename_i m el D;split at h
      ·rename_i j R;obtain⟨⟨h0,N⟩,B⟩:=h;have E:=I.cj F;rw[D]at E;have H:=rj E;refine⟨_,aF.next ?_,B⟩;unfold Instr.indexAt;refine aF.bind (v:=(k,n)) .pure ?_;refine(aH H).bind ?_;refine aF.bind (v:=(some a,m,el)) .pure ?_;intro w;have:=dT I R w;simp only[Sem.run_bind,aH H w,Result.andThen_ok];cases hl:decide (m<=1)<;>simp[h0,N,this]
      ·exact h.elim
     ·exact h.elim
    ·exact h.elim
   ·exact h.elim
  ·exact h.elim
 case index t x ix=>
  split at h
  ·rename_i k n hn;rw[G _ _ hn];split at h
   ·rename_i s U;rw[G _ _ U];split at h
    ·rename_i i F;split at h
     ·rename_i D;obtain⟨b,⟨h0,N⟩,B⟩:=h;have E:=I.cj F;rw[D]at E;have H:=sJ E;refine⟨_,aF.next ?_,B⟩;unfold Instr.index;refine aF.bind (v:=(k,n)) .pure ?_;refine(aH H).bind ?_;have hb:s[n.toNat]?=some b:=by rw[Array.getElem?_eq_some_iff]at N;obtain⟨a7,hg⟩:=N;have a4:n.toNat<s.size:=a7;rw[getElem?_pos s n.toNat a4];exact congrArg some hg
      simp only[h0,if_true,hb];exact .pure
     ·exact h.elim
    ·exact h.elim
   ·rename_i cs U;rw[G _ _ U];split at h
    ·rename_i i F;split at h
     ·rename_i m el D;split at h
      ·rename_i j R;split at h
       ·rename_i s hs;have E:=I.cj F;rw[D]at E;have H:=rj E;have ah:(∃y,(0<=n/\n<(m:Int)/\cs[n.toNat]?=some (s.enc y))/\K (s.enc y))->(∀fs,j.cj≠.struct fs)->(∀n e,j.cj≠.array n e)->j.cj≠.other->j.size=1->
          ∃v,ri C.P (do pure (.value (<-Instr.index t (.agg cs) (.int k n)))) v/\K v:=by
         rintro⟨y,⟨h0,N,h2⟩,B⟩ d1 d2 d3 a5;refine⟨_,aF.next ?_,B⟩;unfold Instr.index;refine aF.bind (v:=(k,n)) .pure ?_;refine(aH H).bind ?_;simp only[h0,N,and_self,if_true];refine(dT I R).bind ?_;rw[a5,Nat.mul_one];exact EK I R d1 d2 d3 h2
        split at h
        ·exact h.elim
        ·exact h.elim
        ·exact h.elim
        ·rename_i d1 d2 d3;cases hz:wM j.size 1 with
         |false=>rw[hz]at h;exact h.elim
         |true=>
          rw[hz]at h;exact ah h d1 d2 d3 (zJ hz)
       ·exact h.elim
      ·exact h.elim
     ·exact h.elim
    ·exact h.elim
   ·exact h.elim
  ·exact h.elim
 case field s x f=>
  split at h
  ·rename_i cs U;rw[G _ _ U];split at h
   ·rename_i i F;split at h
    ·rename_i fs X;split at h
     ·rename_i off t ab;split at h
      ·rename_i j R;have E:=I.cj F;rw[X]at E;obtain⟨gs,hg,rfl⟩:=oe E;simp only[qO,ve]at ab;obtain⟨g,ar,ap⟩:=ab;cases ap;have al:gs[f]?=some g:=by simpa using ar
       have ah:∀v,aF C.P (part g.type ⟨cs⟩ g.offset) v->K v->∃v,ri C.P (do pure (.value (<-Instr.field s (.agg ⟨cs⟩) f))) v/\K v:=by intro v A B;refine⟨v,aF.next ((aH hg).bind ?_),B⟩;simp only[al];exact aF.bind (v:=(⟨cs⟩:Array Value)) .pure A
       split at h
       ·rename_i bq ax;refine ah _ (Ls I R (.inl ⟨_,ax⟩)) ?_;rw[<-Lr];exact h
       ·rename_i n' e' ax;refine ah _ (Ls I R (.inr ⟨_,_,ax⟩)) ?_;rw[<-Lr];exact h
       ·exact h.elim
       ·rename_i d1 d2 d3;split at h
        ·rename_i v A;exact ah v (EK I R d1 d2 d3 (by simpa using A)) h
        ·exact h.elim
      ·exact h.elim
     ·exact h.elim
    ·exact h.elim
   ·exact h.elim
  ·exact h.elim
 case slice t x W hi0 mx=>
  split at h
  ·exact h.elim
  ·split at h
   ·rename_i l r hl hr;have ay:(W=none/\l=none)∨∃y k m,W=some y/\e y=.int k m/\l=some m:=by
     cases W with
     |none=>cases hl;exact .inl ⟨rfl,rfl⟩
     |some y=>
      simp only[Gj]at hl;split at hl
      ·rename_i k m hm;cases hl;exact .inr ⟨y,k,m,rfl,G _ _ hm,rfl⟩
      ·cases hl
    have ao:(hi0=none/\r=none)∨∃y k m,hi0=some y/\e y=.int k m/\r=some m:=by
     cases hi0 with
     |none=>cases hr;exact .inl ⟨rfl,rfl⟩
     |some y=>
      simp only[Gj]at hr;split at hr
      ·rename_i k m hm;cases hr;exact .inr ⟨y,k,m,rfl,G _ _ hm,rfl⟩
      ·cases hr
    have J:∀(bb:Bool) (len cap:Nat) (W F:Option Value) (a b:Nat),(W=none->a=0)->(∀v,W=some v->∃k m,v=.int k m/\0<=m/\a=m.toNat/\m<=(b:Int))->
      (F=none->b=len)->(∀v,F=some v->∃k m,v=.int k m/\0<=m/\b=m.toNat/\m<=(cap:Int))->
      aF C.P (wH bb len cap W F none) (a,b,cap):=by
     intro bb len cap W F a b N h2 h3 h4 w;cases F with
     |none=>
      have e1:=h3 rfl;subst e1;cases W with
      |none=>rw[N rfl];simp[wH]
      |some v=>
       obtain⟨k,m,rfl,x1,rfl,x2⟩:=h2 v rfl;simp[wH,vW,asIntOf,x1,x2]
     |some u=>
      obtain⟨k',V,rfl,y1,rfl,y2⟩:=h4 u rfl;cases W with
      |none=>rw[N rfl];simp[wH,vW,asIntOf,y1,y2]
      |some v=>
       obtain⟨k,m,rfl,x1,rfl,x2⟩:=h2 v rfl;have x3:¬max V 0<m:=by omega
       simp[wH,vW,asIntOf,x1,y1,y2,x3]
    split at h
    ·rename_i p len cap U;rw[G _ _ U];split at h
     ·rename_i i F;split at h
      ·rename_i el D;split at h
       ·rename_i j R;have E:=I.cj F;rw[D]at E;have H:=jo E;have fin:∀(a b:Nat) (v:Value),aF C.P (wH true len cap (W.map e) (hi0.map e) none) (a,b,cap)->
          v=.slice (if cap=a then p else p.map (·.add (a*j.size))) (b-a) (cap-a)->K v->
          ∃v,ri C.P (do pure (.value (<-yt t (.slice p len cap) (W.map e) (hi0.map e) (Option.map e none)))) v/\K v:=by
         intro a b v hb A B;refine⟨v,aF.next ?_,B⟩;unfold yt;refine(aH H).bind ?_;simp only[xv,Option.map_none];refine(aH H).bind ?_;refine hb.bind ?_;subst A;exact(dT I R).bind .pure
        have ad:(if cap=0 then p else p.map (·.add (0*j.size)))=p:=by
         cases p<;>simp[Addr.add]
        rcases ay with⟨rfl,rfl⟩|⟨y,k,m,rfl,hy,rfl⟩<;>rcases ao with⟨rfl,rfl⟩|⟨y',k',V,rfl,hy',rfl⟩
        ·exact fin 0 len _ (J _ _ _ _ _ _ _ (λ_=>rfl) (by simp) (λ_=>rfl) (by simp)) (by rw[ad];rfl) h
        ·obtain⟨⟨S,Z⟩,B⟩:=h;exact fin 0 V.toNat _ (J _ _ _ _ _ _ _ (λ_=>rfl) (by simp) (by simp) λv A=>by cases A;exact⟨k',V,hy',S,rfl,Z⟩) (by rw[ad];rfl) B
        ·obtain⟨⟨S,Z⟩,B⟩:=h;exact fin m.toNat len _ (J _ _ _ _ _ _ _ (by simp) (λv A=>by cases A;exact⟨k,m,hy,S,rfl,Z⟩) (λ_=>rfl) (by simp)) rfl B
        ·obtain⟨⟨S,Z,a3⟩,B⟩:=h;exact fin m.toNat V.toNat _ (J _ _ _ _ _ _ _ (by simp) (λv A=>by cases A;exact⟨k,m,hy,S,rfl,by omega⟩) (by simp) λv A=>by cases A;exact⟨k',V,hy',by omega,rfl,a3⟩) rfl B
       ·exact h.elim
      ·exact h.elim
     ·exact h.elim
    ·rename_i s U;rw[G _ _ U];split at h
     ·rename_i i F;split at h
      ·rename_i D;have E:=I.cj F;rw[D]at E;have H:=sJ E;have fin:∀(a b:Nat) (v:Value),aF C.P (wH false s.size s.size (W.map e) (hi0.map e) none) (a,b,s.size)->
         v=.string (s.extract a b)->K v->
         ∃v,ri C.P (do pure (.value (<-yt t (.string s) (W.map e) (hi0.map e) (Option.map e none)))) v/\K v:=by
        intro a b v hb A B;refine⟨v,aF.next ?_,B⟩;unfold yt;refine(aH H).bind ?_;simp only[xv,Option.map_none];refine(aH H).bind ?_;subst A;intro w;simp[hb w]
       rcases ay with⟨rfl,rfl⟩|⟨y,k,m,rfl,hy,rfl⟩<;>rcases ao with⟨rfl,rfl⟩|⟨y',k',V,rfl,hy',rfl⟩
       ·exact fin 0 s.size _ (J _ _ _ _ _ _ _ (λ_=>rfl) (by simp) (λ_=>rfl) (by simp)) rfl h
       ·obtain⟨⟨S,Z⟩,B⟩:=h;exact fin 0 V.toNat _ (J _ _ _ _ _ _ _ (λ_=>rfl) (by simp) (by simp) λv A=>by cases A;exact⟨k',V,hy',S,rfl,Z⟩) rfl B
       ·obtain⟨⟨S,Z⟩,B⟩:=h;exact fin m.toNat s.size _ (J _ _ _ _ _ _ _ (by simp) (λv A=>by cases A;exact⟨k,m,hy,S,rfl,Z⟩) (λ_=>rfl) (by simp)) rfl B
       ·obtain⟨⟨S,Z,a3⟩,B⟩:=h;exact fin m.toNat V.toNat _ (J _ _ _ _ _ _ _ (by simp) (λv A=>by cases A;exact⟨k,m,hy,S,rfl,by omega⟩) (by simp) λv A=>by cases A;exact⟨k',V,hy',by omega,rfl,a3⟩) rfl B
      ·exact h.elim
     ·exact h.elim
    ·rename_i a U;rw[G _ _ U];split at h
     ·rename_i i F;split at h
      ·rename_i n el D;split at h
       ·rename_i j R;have E:=I.cj F;rw[D]at E;have H:=rj E;have fin:∀(a' b:Nat) (v:Value),aF C.P (wH false n n (W.map e) (hi0.map e) none) (a',b,n)->
          v=.slice (some (if n=a' then a else a.add (a'*j.size))) (b-a') (n-a')->K v->
          ∃v,ri C.P (do pure (.value (<-yt t (.pointer (some a)) (W.map e) (hi0.map e) (Option.map e none)))) v/\K v:=by
         intro a' b v hb A B;refine⟨v,aF.next ?_,B⟩;unfold yt;refine(aH H).bind ?_;simp only[Option.map_none];refine aF.bind (v:=a) .pure ?_;refine hb.bind ?_;subst A;exact(dT I R).bind .pure
        have ad:(if n=0 then a else a.add (0*j.size))=a:=by simp[Addr.add]
        rcases ay with⟨rfl,rfl⟩|⟨y,k,m,rfl,hy,rfl⟩<;>rcases ao with⟨rfl,rfl⟩|⟨y',k',V,rfl,hy',rfl⟩
        ·exact fin 0 n _ (J _ _ _ _ _ _ _ (λ_=>rfl) (by simp) (λ_=>rfl) (by simp)) (by rw[ad];rfl) h
        ·obtain⟨⟨S,Z⟩,B⟩:=h;exact fin 0 V.toNat _ (J _ _ _ _ _ _ _ (λ_=>rfl) (by simp) (by simp) λv A=>by cases A;exact⟨k',V,hy',S,rfl,Z⟩) (by rw[ad];rfl) B
        ·obtain⟨⟨S,Z⟩,B⟩:=h;exact fin m.toNat n _ (J _ _ _ _ _ _ _ (by simp) (λv A=>by cases A;exact⟨k,m,hy,S,rfl,Z⟩) (λ_=>rfl) (by simp)) rfl B
        ·obtain⟨⟨S,Z,a3⟩,B⟩:=h;exact fin m.toNat V.toNat _ (J _ _ _ _ _ _ _ (by simp) (λv A=>by cases A;exact⟨k,m,hy,S,rfl,by omega⟩) (by simp) λv A=>by cases A;exact⟨k',V,hy',by omega,rfl,a3⟩) rfl B
       ·exact h.elim
      ·exact h.elim
     ·exact h.elim
    ·exact h.elim
   ·exact h.elim
 case extract x n=>
  split at h
  ·rename_i vs U;rw[G _ _ U];split at h
   ·rename_i v A;refine⟨v,aF.next ?_,h⟩;have:(⟨vs⟩:Array Value)[n]?=some v:=by simpa using A
    simp only[Instr.extract,this];exact .pure
   ·exact h.elim
  ·exact h.elim
 case binOp op t x y u=>
  split at h
  ·rename_i a b ha hb;rw[G _ _ ha,G _ _ hb];obtain⟨v,A,B⟩:=Rl (P:=C.P) (x:=x) (y:=y) (M t) h;exact⟨v,A.next,B⟩
  ·exact h.elim
 case unOp op t x=>
  split at h
  ·rename_i v A;rw[G _ _ A];unfold unV at h;split at h
   ·split at h
    ·exact⟨_,aF.next .pure,h⟩
    ·exact h.elim
   ·split at h
    ·exact⟨_,aF.next .pure,h⟩
    ·exact⟨_,aF.next .pure,h⟩
    ·exact h.elim
   ·exact h.elim
  ·exact h.elim
 case convert s d x=>
  split at h
  ·rename_i v ks A a6;rw[G _ _ A];have hs:=zZ (M _ _ a6);unfold ZQ at h;split at h
   ·split at h
    ·rename_i n _ k B;have H:=zZ (M _ _ B);refine⟨_,aF.next ?_,h⟩;unfold convert;refine(aH hs).bind ((aH H).bind ?_);exact .pure
    ·exact h.elim
   ·exact h.elim
  ·exact h.elim
 case build t parts=>
  split at h
  ·rename_i vs bd;have hp:(parts.map λ(i,x)=>(i,e x)).toList=vs:=by have:=EJ G bd;simpa using this
   split at h
   ·rename_i i F;obtain⟨z,hz,bk⟩:=pM I F;have am:i.zero.toArray=z.cells:=by rw[<-bk]
    cases hbig:vZ 24 i.size with
    |true=>
     rw[hbig]at h;obtain⟨v,A,B⟩:=h;have a9:(parts.map λ(i,x)=>(i,e x))=vs.toArray:=by rw[<-hp]
     refine⟨v,aF.next ?_,B⟩;show aF C.P (xc t (parts.map λ(i,x)=>(i,e x))) v;rw[a9];exact A
    |false=>
    rw[hbig]at h;simp only[cond_false]at h;split at h
    ·rename_i fs X;have E:=I.cj F;rw[X]at E;obtain⟨gs,hg,rfl⟩:=oe E;split at h
     ·rename_i ps a8;split at h
      ·rename_i cells O;refine⟨_,aF.next (hz.bind ((aH hg).bind ?_)),h⟩;have bl:aF C.P (gs.mapM λf=>(do pure (f.offset,<-sizeOf f.type):Sem (Nat×Nat))) ps.toArray:=by rw[vu];intro w;have:=sT I a8 w;rw[map_eq_pure_bind,Sem.run_bind,this];rfl
       refine bl.bind ?_;have a0:wE (λn=>ps.toArray[n]?) z.cells (parts.map λ(i,x)=>(i,e x)).toList=some cells:=by rw[hp,<-am];simpa using O
       rw[a0];exact .pure
      ·exact h.elim
     ·exact h.elim
    ·rename_i n el X;have E:=I.cj F;rw[X]at E;have H:=rj E;split at h
     ·rename_i j R;split at h
      ·rename_i cells O;refine⟨_,aF.next (hz.bind ((aH H).bind ((dT I R).bind ?_))),h⟩;have a0:wE (λi=>some (i*j.size,j.size)) z.cells (parts.map λ(i,x)=>(i,e x)).toList=some cells:=by rw[hp,<-am];exact O
       rw[a0];exact .pure
      ·exact h.elim
     ·exact h.elim
    ·exact h.elim
   ·exact h.elim
  ·exact h.elim
 case makeFunc fn first captured=>
  split at h
  ·rename_i a b ha hb;have N:first.map e=a.toArray:=by apply yC;simpa using Az G ha
   have h2:captured.map e=b.toArray:=by apply yC;simpa using Az G hb
   refine⟨_,aF.next ?_,h⟩;rw[N,h2];exact .pure
  ·exact h.elim
 case call c=>
  split at h
  ·rename_i b hb;have L:∀{v:Value},aF C.P (builtin b c.argTypes o.type (c.args.map λ| .const _=>true|_=>false) (c.args.map e)) (.value v)->
     ri C.P (do let d<-resolve e c o.type;invoke d.target d.args) v:=by
    intro v A w;have:=A w;unfold resolve;rw[hb];exact this
   have Q:∀{vs:List Value},oY ev c.args.toList=some vs->c.args.map e=vs.toArray:=λA=>by
    apply yC;simpa using Az G A
   have Y:∀{s:Sem Value} {v:Value},aF C.P s v->aF C.P (do pure (Next.value (<-s))) (.value v):=λhs=>hs.bind .pure;split at h
   case h_1=>
    split at h
    ·rename_i t ts x N h2;split at h
     ·rename_i v A;have ha:c.args.map e=#[v]:=by apply yC;rw[vX,h2];simp[G _ _ A]
      have ht:c.argTypes[0]?=some t:=by rw[<-vS,N];rfl
      unfold acu at h;split at h
      ·rename_i p n cap;split at h
       ·rename_i el D;have H:=jo (M _ _ D);refine⟨_,L ?_,h⟩;rw[ha];refine Y ?_;intro w;simp[xr,ht,underlying,H,goInt]
       ·exact h.elim
      ·rename_i s;split at h
       ·rename_i D;have H:=sJ (M _ _ D);refine⟨_,L ?_,h⟩;rw[ha];refine Y ?_;intro w;simp[xr,ht,underlying,H,goInt]
       ·exact h.elim
      ·exact h.elim
     ·exact h.elim
    ·exact h.elim
   case h_2=>
    split at h
    ·rename_i t ts x N h2;split at h
     ·rename_i v A;have ha:c.args.map e=#[v]:=by apply yC;rw[vX,h2];simp[G _ _ A]
      have ht:c.argTypes[0]?=some t:=by rw[<-vS,N];rfl
      unfold acv at h;split at h
      ·rename_i p n cap;split at h
       ·rename_i el D;have H:=jo (M _ _ D);refine⟨_,L ?_,h⟩;rw[ha];refine Y ?_;intro w;simp[Builtin.cap_,ht,underlying,H,goInt]
       ·exact h.elim
      ·exact h.elim
     ·exact h.elim
    ·exact h.elim
   case h_3=>
    split at h
    ·rename_i k a k' b A;refine⟨_,L ?_,h⟩;rw[Q A];refine Y ?_;intro w;simp[Builtin.min_,Builtin.min2]
    ·exact h.elim
   case h_4=>
    split at h
    ·rename_i k a k' b A;refine⟨_,L ?_,h⟩;rw[Q A];refine Y ?_;intro w;simp[Builtin.max_,Builtin.max2]
    ·exact h.elim
   case h_5=>
    split at h
    ·rename_i k a b A;refine⟨_,L ?_,h⟩;rw[Q A];exact Y .pure
    ·exact h.elim
   case h_6=>
    split at h
    ·rename_i k a b A;refine⟨_,L ?_,h⟩;rw[Q A];exact Y .pure
    ·exact h.elim
   all_goals exact h.elim
  ·exact h.elim
 all_goals exact h.elim
end
def ba(h:Heap)(a:Addr):Nat->List Value->Prop
 |_,[]=>True
 |n,v::r=>cellOf h (a.add n)=some v/\ba h a (n+1) r
structure uo where
 a:Addr
 ty:Ty
 n:Nat
def uo.holds(r:uo)(h:Heap)(y:r.ty.den):Prop:=
 match r.ty,y with
 | .sc s,y=>cellOf h r.a=some (s.enc y)
 | .agg l,y=>ba h r.a 0 (mX l y)
 | .arr s,y=>y.length=r.n/\ba h r.a 0 (y.map s.enc)
def sU(T:ke)(op:Op)(ev:Operand->Option Value):Option uo:=
 match op with
 | .load t x=>match ev x with
  |some (.pointer (some a))=>match T.get t with
   |some i=>match i.cj with
    | .struct _=>match i.ty with
     | .agg l=>bif wM l.length i.size then some ⟨a,i.ty,i.size⟩else none
     |_=>none
    | .array _ _=>match i.ty with
     | .arr _=>some ⟨a,i.ty,i.size⟩
     |_=>none
    | .other=>none
    |_=>match i.ty with
     | .sc _=>some ⟨a,i.ty,1⟩
     |_=>none
   |none=>none
  |_=>none
 |_=>none
theorem EL:∀(l:List Sc) (x:uX l),(mX l x).length=l.length
 |[],_=>rfl
 |[_],_=>rfl
 |_::t::r,x=>by simp only[mX,zc];rw[EL (t::r) x.2];rfl
theorem run_loadCells{P:Program}{w:World}{a:Addr}:∀(vs:List Value) (i:Nat) (b:Array Value),ba w.heap a i vs->
  (loadCellsFrom a i vs.length b).run P w=.ok (b++vs.toArray) w
 |[],i,b,_=>by simp[loadCellsFrom]
 |v::r,i,b,h=>by
  simp only[zc,loadCellsFrom,Sem.run_bind,run_load,Im,h.1,Result.andThen_ok];rw[run_loadCells r (i+1) (b.push v) h.2];simp
theorem AA{C:xZ}(k:C.Ok){ev:Operand->Option Value}{e:Operand->Value}(A:∀x v,ev x=some v->e x=v){o:Oper}{r:uo}
  (b:sU C.T o.op ev=some r) {y:r.ty.den} {w:World} (d:r.holds w.heap y):(execOp e o).run C.P w=.ok (.value (r.ty.enc y)) w:=by
 unfold sU at b;split at b
 ·rename_i t x q;simp only[execOp,q];split at b
  ·rename_i a H;rw[A _ _ H];split at b
   ·rename_i i p;have g:(∀v,(loadVar t a).run C.P w=.ok v w->(do let s<-xh t (.pointer (some a));pure (Next.value s):Sem Next).run C.P w=.ok (.value v) w):=by intro v z;have:xh t (.pointer (some a))=loadVar t a:=rfl;rw[this,Sem.run_bind,z];rfl
    split at b
    ·rename_i B f;split at b
     ·rename_i l h;cases hb:wM l.length i.size with
      |false=>rw[hb]at b;cases b
      |true=>
       rw[hb]at b;simp only[cond_true,zQ.injEq]at b;subst b;have j:=zJ hb;have c:∀(ty:Ty) (y:ty.den),ty=.agg l->uo.holds ⟨a,ty,i.size⟩ w.heap y->(loadVar t a).run C.P w=.ok (ty.enc y) w:=by rintro ty y rfl d;unfold loadVar;rw[Sem.run_bind,(kM k p).1 B f w];simp only[Result.andThen_ok,if_true,Sem.run_bind,dT k p w];have m:=run_loadCells (P:=C.P) (w:=w) (a:=a) (mX l y) 0 #[] d;rw[EL,j]at m;unfold loadCells;rw[m];simp
       exact g _ (c i.ty y h d)
     ·cases b
    ·rename_i n D f;split at b
     ·rename_i s h;cases b;have c:∀(ty:Ty) (y:ty.den),ty=.arr s->uo.holds ⟨a,ty,i.size⟩ w.heap y->(loadVar t a).run C.P w=.ok (ty.enc y) w:=by rintro ty y rfl ⟨h,d⟩;unfold loadVar;rw[Sem.run_bind,(kM k p).2.1 n D f w];simp only[Result.andThen_ok,if_true,Sem.run_bind,dT k p w];have m:=run_loadCells (P:=C.P) (w:=w) (a:=a) (y.map s.enc) 0 #[] d;rw[List.length_map,h]at m;unfold loadCells;rw[m];simp
      exact g _ (c i.ty y h d)
     ·cases b
    ·cases b
    ·rename_i E G F;split at b
     ·rename_i s h;cases b;have c:∀(ty:Ty) (y:ty.den),ty=.sc s->uo.holds ⟨a,ty,1⟩ w.heap y->(loadVar t a).run C.P w=.ok (ty.enc y) w:=by rintro ty y rfl d;have u:cellOf w.heap a=some (s.enc y):=d;unfold loadVar;rw[Sem.run_bind,(kM k p).2.2 E G F w];simp[Im,u]
      exact g _ (c i.ty y h d)
     ·cases b
   ·cases b
  ·cases b
 ·cases b
def Typed(t:Ty)(K:Value->Heap->Prop)(v:Value)(h:Heap):Prop:=∃x:t.den,v=t.enc x/\K (t.enc x) h
def Cb(t:Rt)(K:Value->Heap->Prop)(v:Value)(h:Heap):Prop:=∃x:t.den,v=t.enc x/\K (t.enc x) h
def Cc(K:Value->Heap->Prop)(v:Value)(h:Heap):Prop:=∃a:Addr,v=.pointer (some a)/\K (.pointer (some a)) h
def Rm(K:Value->Heap->Prop)(v:Value)(h:Heap):Prop:=∃(b:Bool) (r:List Value),v=.tuple ⟨.bool b::r⟩/\K (.tuple ⟨.bool b::r⟩) h
def acx(T:ke)(t:TypeId)(tup:List (TypeId×List Ty)):Option Rt:=
 match tup.find? (λp=>wM p.1 t)with
 |some p=>some (.many p.2)
 |none=>match T.get t with
  |some i=>some (.one i.ty)
  |none=>none
structure Ctx extends xZ where
 tup:List (TypeId×List Ty)
 fns:List Bool
structure Ctx.Ok (C:Ctx):Prop extends xZ.Ok C.toxZ where
 fns:(C.P.funcs.toList.map λf=>!(f.name== "runtime.NumGoroutine")&&f.body.isSome)=C.fns
def Ro(C:Ctx)(g:FuncId)(args:List Value)(t:TypeId)(K:Value->Heap->Prop)(h:Heap):Prop:=
 match C.fns[g]? with
 |some true=>match acx C.T t C.tup with
  |some r=>ai C.P g args.toArray h (Cb r K)
  |none=>False
 |_=>False
def Gl(C:Ctx)(o:Oper)(ev:Operand->Option Value)(K:Value->Heap->Prop)(h:Heap):Prop:=
 match o.op with
 | .store t a x=>match ev a,ev x with
  |some p,some v=>aj C.P (qE t p v) h λ_ h'=>K undef h'
  |_,_=>False
 | .alloc t=>aj C.P (w7 t true (.tuple #[])) h (Cc K)
 | .box t x=>match ev x with
  |some v=>aj C.P (vq t v) h (Cc K)
  |none=>False
 | .makeSlice t l c=>match ev l,ev c with
  |some l,some c=>aj C.P (zt t l c) h (Typed (.sc .slc) K)
  |_,_=>False
 | .buildSlice t n parts=>match BZ ev parts.toList with
  |some ps=>aj C.P (zG t n ps.toArray) h (Typed (.sc .slc) K)
  |none=>False
 | .makeMap t none=>aj C.P (vz t none) h (Typed (.sc .mp) K)
 | .lookup t x ix ok=>match ev x,ev ix,acx C.T o.type C.tup with
  |some m,some k,some r=>aj C.P (Instr.lookup t m k ok) h (Cb r K)
  |_,_,_=>False
 | .mapUpdate t m k x=>match ev m,ev k,ev x with
  |some m,some k,some v=>aj C.P (yD t m k v) h λ_ h'=>K undef h'
  |_,_,_=>False
 | .insert t m k x=>match ev m,ev k,ev x with
  |some m,some k,some v=>aj C.P (yD t m k v) h λ_ h'=>K undef h'
  |_,_,_=>False
 | .range t x=>match ev x with
  |some m=>aj C.P (Instr.range t m) h (Cc K)
  |none=>False
 | .next it s=>match ev it with
  |some i=>aj C.P (Instr.next i s o.type) h (Rm K)
  |none=>False
 | .entry it=>match ev it with
  |some i=>aj C.P (Instr.entry i) h (Cb (.many [.sc .str,.sc .slc]) K)
  |none=>False
 | .convert s d x=>match ev x,C.T.get o.type with
  |some v,some i=>aj C.P (convert s d v) h (Typed i.ty K)
  |_,_=>False
 | .binOp op t x y _=>match ev x,ev y,C.T.get o.type with
  |some a,some b,some i=>aj C.P (do eqGuard op t x y a b;binOp op t a b) h (Typed i.ty K)
  |some a,some b,none=>aj C.P (do eqGuard op t x y a b;binOp op t a b) h (Typed (.sc .bool) K)
  |_,_,_=>False
 | .slice t x lo hi mx=>match optVal ev lo,optVal ev hi,optVal ev mx,ev x with
  |some l,some r,some m,some v=>aj C.P (yt t v l r m) h (Typed (.sc .slc) K)
  |_,_,_,_=>False
 | .call c=>match c.callee with
  | .builtin .append=>match oY ev c.args.toList with
   |some vs=>aj C.P (zD c.argTypes o.type vs.toArray) h (Typed (.sc .slc) K)
   |none=>False
  | .builtin .copy=>match oY ev c.args.toList with
   |some vs=>aj C.P (yZ c.argTypes o.type vs.toArray) h (Typed (.sc (.int .i64)) K)
   |none=>False
  | .builtin .clear=>match oY ev c.args.toList with
   |some vs=>aj C.P (vL c.argTypes o.type vs.toArray) h K
   |none=>False
  | .builtin .len=>match oY ev c.args.toList with
   |some vs=>aj C.P (xr c.argTypes o.type vs.toArray) h (Typed (.sc (.int .i64)) K)
   |none=>False
  | .builtin .unsafeString=>match oY ev c.args.toList with
   |some vs=>aj C.P (Builtin.unsafeString_ c.argTypes o.type vs.toArray) h (Typed (.sc .str) K)
   |none=>False
  | .builtin .delete=>match oY ev c.args.toList with
   |some vs=>aj C.P (Builtin.delete_ c.argTypes o.type vs.toArray) h K
   |none=>False
  | .value f=>match ev f,oY ev c.args.toList with
   |some (.func (.func g) ⟨first⟩ ⟨caps⟩),some vs=>Ro C g (first++vs++caps) o.type K h
   |_,_=>False
  |_=>False
 |_=>False
where
 optVal (ev:Operand->Option Value):Option Operand->Option (Option Value)
  |none=>some none
  |some x=>match ev x with
   |some v=>some (some v)
   |none=>none
variable {K:Value->Heap->Prop}
theorem eW{s:Sem Value}(b:aj P s h K):xX P (do pure (.value (<-s))) h K:=
 aj.bind (b.mono λ_ _ a=>aj.pure' a)
theorem Fi{s:Sem Unit}(a:aj P s h λ_ h'=>K undef h'):xX P (do s;pure .skip) h K:=
 aj.bind (a.mono λ_ _ b=>aj.pure' b)
theorem Typed.out{t:Ty}{v:Value}{h:Heap}(x:Typed t K v h):K v h:=by obtain⟨y,rfl,a⟩:=x;exact a
theorem Cb.out{t:Rt}{v:Value}{h:Heap}(x:Cb t K v h):K v h:=by obtain⟨y,rfl,a⟩:=x;exact a
theorem Rm.out{v:Value}{h:Heap}(x:Rm K v h):K v h:=by obtain⟨b,r,rfl,a⟩:=x;exact a
theorem Cc.out{v:Value}{h:Heap}(x:Cc K v h):K v h:=by obtain⟨y,rfl,a⟩:=x;exact a
theorem Ot{C:Ctx}(e:C.Ok){g:FuncId}{args:List Value}{t:TypeId}{K:Value->Heap->Prop}{h:Heap}(b:Ro C g args t K h):
  xX C.P (callFunc g args.toArray) h K:=by
 unfold Ro at b;split at b
 ·rename_i d;split at b
  ·rename_i r i;have a:=congrArg (·[g]?) e.fns;simp only[qO,d]at a;cases hf:C.P.funcs.toList[g]? with
   |none=>rw[hf]at a;cases a
   |some fn=>
    rw[hf]at a;simp only[qS,zQ.injEq,qu,Bool.not_eq_true']at a;have c:C.P.funcs[g]?=some fn:=by simpa using hf
    have f:fn.body.isNone=false:=by cases hbb:fn.body<;>simp[hbb]at a⊢
    unfold callFunc;refine aj.bind (aj.Xx ?_);simp only[c,a.1,f];exact aj.pure' (b.mono λv h' x=>x.out)
  ·exact b.elim
 ·exact b.elim
theorem Rp{C:Ctx}(T:C.Ok){ev:Operand->Option Value}{e:Operand->Value}(A:∀x v,ev x=some v->e x=v){o:Oper}
  {K:Value->Heap->Prop} {h:Heap} (j:Gl C o ev K h):xX C.P (execOp e o) h K:=by
 have H:∀{x:Option Operand} {r:Option Value},Gl.optVal ev x=some r->x.map e=r:=by
  intro x r I;cases x with
  |none=>cases I;rfl
  |some y=>
   simp only[Gl.optVal]at I;split at I
   ·rename_i v B;cases I;rw[qS,A _ _ B]
   ·cases I
 unfold Gl at j;split at j
 ·rename_i t a x q;simp only[execOp,q];split at j
  ·rename_i p v W B;rw[A _ _ W,A _ _ B];exact Fi j
  ·exact j.elim
 ·rename_i t q;simp only[execOp,q];exact eW (j.mono λ_ _ x=>x.out)
 ·rename_i t x q;simp only[execOp,q];split at j
  ·rename_i v B;rw[A _ _ B];exact eW (j.mono λ_ _ x=>x.out)
  ·exact j.elim
 ·rename_i t l c q;simp only[execOp,q];split at j
  ·rename_i v u B U;rw[A _ _ B,A _ _ U];exact eW (j.mono λ_ _ x=>x.out)
  ·exact j.elim
 ·rename_i t n parts q;simp only[execOp,q];split at j
  ·rename_i Z O;have:(parts.map λ(i,x)=>(i,e x))=Z.toArray:=by apply yC;have:=EJ A O;simpa using this
   rw[this];exact eW (j.mono λ_ _ x=>x.out)
  ·exact j.elim
 ·rename_i t q;simp only[execOp,q];exact eW (j.mono λ_ _ x=>x.out)
 ·rename_i t x ix ok q;simp only[execOp,q];split at j
  ·rename_i m k r E G R;rw[A _ _ E,A _ _ G];exact eW (j.mono λ_ _ x=>x.out)
  ·exact j.elim
 ·rename_i t m k x q;simp only[execOp,q];split at j
  ·rename_i X Y v E G B;rw[A _ _ E,A _ _ G,A _ _ B];exact Fi j
  ·exact j.elim
 ·rename_i t m k x q;simp only[execOp,q];split at j
  ·rename_i X Y v E G B;rw[A _ _ E,A _ _ G,A _ _ B];exact Fi j
  ·exact j.elim
 ·rename_i t x q;simp only[execOp,q];split at j
  ·rename_i m E;rw[A _ _ E];exact eW (j.mono λ_ _ x=>x.out)
  ·exact j.elim
 ·rename_i S s q;simp only[execOp,q];split at j
  ·rename_i m E;rw[A _ _ E];exact eW (j.mono λ_ _ x=>x.out)
  ·exact j.elim
 ·rename_i S q;simp only[execOp,q];split at j
  ·rename_i m E;rw[A _ _ E];exact eW (j.mono λ_ _ x=>x.out)
  ·exact j.elim
 ·rename_i s d x q;simp only[execOp,q];split at j
  ·rename_i v i B N;rw[A _ _ B];exact eW (j.mono λ_ _ x=>x.out)
  ·exact j.elim
 ·rename_i op t x y u q;simp only[execOp,q];split at j
  ·rename_i a b i Q L N;rw[A _ _ Q,A _ _ L];exact eW (j.mono λ_ _ x=>x.out)
  ·rename_i a b Q L N;rw[A _ _ Q,A _ _ L];exact eW (j.mono λ_ _ x=>x.out)
  ·exact j.elim
 ·rename_i t x lo N mx q;simp only[execOp,q];split at j
  ·rename_i l r m v hl R E B;rw[H hl,H R,H E,A _ _ B];exact eW (j.mono λ_ _ x=>x.out)
  ·exact j.elim
 ·rename_i c q;simp only[execOp,q];have w:∀{vs:List Value},oY ev c.args.toList=some vs->c.args.map e=vs.toArray:=λB=>by
   apply yC;simpa using Az A B
  split at j
  ·rename_i D;split at j
   ·rename_i vs z;unfold resolve;rw[D,w z];exact eW (j.mono λ_ _ x=>x.out)
   ·exact j.elim
  ·rename_i D;split at j
   ·rename_i vs z;unfold resolve;rw[D,w z];exact eW (j.mono λ_ _ x=>x.out)
   ·exact j.elim
  ·rename_i D;split at j
   ·rename_i vs z;unfold resolve;rw[D,w z];exact eW j
   ·exact j.elim
  ·rename_i D;split at j
   ·rename_i vs z;unfold resolve;rw[D,w z];exact eW (j.mono λ_ _ x=>x.out)
   ·exact j.elim
  ·rename_i D;split at j
   ·rename_i vs z;unfold resolve;rw[D,w z];exact eW (j.mono λ_ _ x=>x.out)
   ·exact j.elim
  ·rename_i D;split at j
   ·rename_i vs z;unfold resolve;rw[D,w z];exact eW j
   ·exact j.elim
  ·rename_i f D;split at j
   ·rename_i g first F vs V z
    unfold resolve;rw[D,w z];simp only[A _ _ V];have:=Ot T j;have J:(⟨first⟩:Array Value)++vs.toArray++(⟨F⟩:Array Value)=(first++vs++F).toArray:=by simp
    have M:xX C.P (callFunc g ((⟨first⟩:Array Value)++vs.toArray++(⟨F⟩:Array Value))) h K:=by rw[J];exact this
    simp only[Deferred.ofValue];exact M
   ·exact j.elim
  ·exact j.elim
 ·exact j.elim
def put(n:Nat)(a:Option Tmp)(K:Env->Heap->Prop)(ρ:Env)(v:Value)(h:Heap):Prop:=
 match a with
 |some d=>bif vZ d n then K (.val d v::ρ) h else False
 |none=>K ρ h
theorem sV{n:Nat}{b:Option Tmp}{K:Env->Heap->Prop}{ρ:Env}{v:Value}{h:Heap}(c:put n b K ρ v h){a:Act}(e:Fits n a ρ):
  ∃ρ',Fits n (a.put b v) ρ'/\Ext ρ ρ' a (a.put b v)/\K ρ' h:=by
 unfold put at c;cases b with
 |none=>exact⟨ρ,e,Ext.refl _ _,c⟩
 |some d=>
  simp only at c;cases hb:vZ d n with
  |false=>rw[hb]at c;exact c.elim
  |true=>rw[hb]at c;exact⟨_,e.put hb v,Ext.put v v,c⟩
def XE(C:Ctx)(n:Nat)(o:Oper)(K:Env->Heap->Prop)(ρ:Env)(h:Heap):Prop:=
 match yP C.P C.T o.op ρ.eval with
 | .no=>match sU C.T o.op ρ.eval with
  |some r=>∃y:r.ty.den,r.holds h y/\put n o.dst K ρ (r.ty.enc y) h
  |none=>Gl C o ρ.eval (put n o.dst K ρ) h
 |p=>p.holds λv=>put n o.dst K ρ v h
def Gm(ops:Array Oper)(o:Oper)(ρ:Env)(a skip:Env->Prop):Prop:=
 match o.guard with
 |none=>a ρ
 |some (j,want)=>match(ops[j]?).bind (·.dst)with
  |some d=>match ρ.get d with
   |some (.bool b)=>Br b (bif want then a (.val d (.bool true)::ρ)else skip (.val d (.bool true)::ρ)) (bif want then skip (.val d (.bool false)::ρ)else a (.val d (.bool false)::ρ))
   |some (.tuple _)=>skip ρ
   |_=>False
  |none=>False
theorem Fits.known{n:Nat}{a:Act}{ρ:Env}(c:Fits n a ρ){d:Nat}{v:Value}(e:ρ.get d=some v):Fits n a (.val d v::ρ)/\Ext ρ (.val d v::ρ) a a:=by
 refine⟨⟨c.size,c.defers,λt x b=>?_⟩,⟨[.val d v],rfl,λ_ _=>rfl⟩⟩;simp only[Env.get]at b;cases hb:wM d t with
 |false=>rw[hb]at b;exact c.get t x b
 |true=>
  rw[hb]at b;have:=zJ hb;subst this;rw[cond_true]at b;exact c.get _ x (e.trans b)
theorem EM{ops:Array Oper}{o:Oper}{ρ:Env}{e skip:Env->Prop}{n:Nat}{a:Act}(f:Fits n a ρ)(c:Gm ops o ρ e skip):
  ∃ρ',Fits n a ρ'/\Ext ρ ρ' a a/\((Region.wanted o (yielded ops a.tmps)=true/\e ρ')∨(Region.wanted o (yielded ops a.tmps)=false/\skip ρ')):=by
 unfold Gm at c;unfold Region.wanted;split at c
 ·rename_i l;rw[l];exact⟨ρ,f,Ext.refl _ _,.inl ⟨rfl,c⟩⟩
 ·rename_i j g l;rw[l];split at c
  ·rename_i d p;split at c
   ·rename_i b h;have m:yielded ops a.tmps j=some b:=by unfold yielded;rw[p];simp[f.get _ _ h]
    simp only[m];obtain⟨i,k⟩:=f.known h;cases b<;>cases g<;>simp only[Br,cond_true,cond_false]at c
    ·exact⟨_,i,k,.inl ⟨rfl,c⟩⟩
    ·exact⟨_,i,k,.inr ⟨rfl,c⟩⟩
    ·exact⟨_,i,k,.inr ⟨rfl,c⟩⟩
    ·exact⟨_,i,k,.inl ⟨rfl,c⟩⟩
   ·rename_i vs h;have m:yielded ops a.tmps j=none:=by unfold yielded;rw[p];simp[f.get _ _ h]
    simp only[m];exact⟨ρ,f,Ext.refl _ _,.inr ⟨by simp,c⟩⟩
   ·exact c.elim
  ·exact c.elim
theorem Uk{C:Ctx}(g:C.Ok){n:Nat}{o:Oper}{K:Env->Heap->Prop}{ρ:Env}{a:Act}{w:World}(j:Fits n a ρ)(d:XE C n o K ρ w.heap)
  {Q:Exit->Act->World->Prop} {next:Act->World->Prop}
  (p:∀a' w' ρ',Fits n a' ρ'->Ext ρ ρ' a a'->cX w w'->K ρ' w'.heap->next a' w'):o.wp C.P a w next Q:=by
 have f:∀x v,ρ.eval x=some v->a.eval x=v:=λx v h=>j.eval h;have b:∀v w',cX w w'->put n o.dst K ρ v w'.heap->next (a.put o.dst v) w':=λv w' s l=>by
  obtain⟨ρ',m,t,h3⟩:=sV l j;exact p _ _ _ m t s h3
 have c:(yP C.P C.T o.op ρ.eval).holds (λv=>put n o.dst K ρ v w.heap)->o.wp C.P a w next Q:=λh=>by
  obtain⟨v,k,i⟩:=Gk g.toOk f h;unfold Oper.wp;rw[k w];exact b v w (cX.refl w) i
 unfold XE at d;split at d
 ·split at d
  ·rename_i r e;obtain⟨y,q,i⟩:=d;unfold Oper.wp;rw[AA g.toOk f e q];exact b _ w (cX.refl w) i
  ·exact aeG (Rp g f d) b
 ·exact c d
def Ec(C:Ctx)(n:Nat)(ops:Array Oper)(o:Oper)(K:Env->Heap->Prop)(ρ:Env)(h:Heap):Prop:=
 Gm ops o ρ (λρ=>XE C n o K ρ h) (λρ=>put n o.dst K ρ undef h)
theorem Gn{C:Ctx}(g:C.Ok){n:Nat}{ops:Array Oper}{o:Oper}{i:Nat}(m:ops[i]?=some o){K:Env->Heap->Prop}{ρ:Env}{a:Act}{w:World}
  (h:Fits n a ρ) (p:Ec C n ops o K ρ w.heap) {Q:Exit->Act->World->Prop} {next:Act->World->Prop}
  (d:∀a' w' ρ',Fits n a' ρ'->Ext ρ ρ' a a'->cX w w'->K ρ' w'.heap->next a' w'):wpOp C.P ops Q i next a w:=by
 obtain⟨ρ',c,e,h3⟩:=EM h p;unfold wpOp;simp only[m];rcases h3 with⟨hw,hr⟩|⟨hw,hr⟩
 ·simp only[hw,if_true];exact .inl (Uk g c hr λa' w' b f x2 x3 j=>d _ _ _ f (e.trans x2) x3 j)
 ·simp only[hw,zb,if_false];obtain⟨b,l,q,k⟩:=sV hr c;exact d _ _ _ l (e.trans q) (cX.refl w) k
def XF(C:Ctx)(n:Nat)(ops:Array Oper)(K:Env->Heap->Prop):List Oper->Env->Heap->Prop
 |[],ρ,h=>K ρ h
 |o::r,ρ,h=>Ec C n ops o (XF C n ops K r) ρ h
def Out(n:Nat)(Q:Exit->Env->Heap->Prop)(ρ:Env)(a:Act)(w:World):Exit->Act->World->Prop:=λe a' w'=>
 ∃ρ',Fits n a' ρ'/\Ext ρ ρ' a a'/\cX w w'/\Q e ρ' w'.heap
theorem Jq{C:Ctx}(b:C.Ok){n:Nat}{ops:Array Oper}{K:Env->Heap->Prop}{Q:Exit->Act->World->Prop}{ρ0:Env}{a0:Act}{w0:World}
  (c:∀a w ρ,Fits n a ρ->Ext ρ0 ρ a0 a->cX w0 w->K ρ w.heap->Q .normal a w):
  ∀(r:List Oper) (i:Nat),(∀j,r[j]?=ops[i+j]?)->∀(ρ:Env) (a:Act) (w:World),Fits n a ρ->Ext ρ0 ρ a0 a->cX w0 w->XF C n ops K r ρ w.heap->
   wpOps C.P ops Q (List.range' i r.length) a w
 |[],i,_,ρ,a,w,hf,hx,hl,hs=>c a w ρ hf hx hl hs
 |o::r,i,hr,ρ,a,w,hf,hx,hl,hs=>by
  have f:ops[i]?=some o:=by simpa using(hr 0).symm
  rw[zc,List.range'_succ,wpOps_cons];refine Gn b f hf hs λa' w' ρ' e g h3 d=>?_;exact Jq b c r (i+1) (λj=>by have:=hr (j+1);simpa[Nat.add_assoc,Nat.add_comm 1 j]using this) ρ' a' w' e (hx.trans g) (hl.trans h3) d
abbrev bH:=List (Addr×Value)
def bH.ok:bH->Heap->Prop
 |[],_=>True
 |p::r,h=>cellOf h p.1=some p.2/\bH.ok r h
def nw(a:Addr):Nat->List Value->bH->bH
 |_,[],L=>L
 |n,v::r,L=>(a.add n,v)::nw a (n+1) r L
theorem na{a:Addr}{h:Heap}:∀{vs:List Value} {n:Nat} {L:bH},(nw a n vs L).ok h↔ba h a n vs/\L.ok h
 |[],_,L=>by simp[nw,ba]
 |v::r,n,L=>by simp only[nw,bH.ok,ba,na (vs:=r),and_assoc]
def uo.held(r:uo)(y:r.ty.den)(L:bH):bH:=
 match r.ty,y with
 | .sc s,y=>(r.a,s.enc y)::L
 | .agg l,y=>nw r.a 0 (mX l y) L
 | .arr s,y=>nw r.a 0 (y.map s.enc) L
theorem uo.abf{r:uo}{y:r.ty.den}{L:bH}{b:Heap}(c:r.holds b y){m:Heap}:(r.held y L).ok m↔r.holds m y/\L.ok m:=by
 obtain⟨a,ty,n⟩:=r;cases ty with
 |sc s=>exact Iff.rfl
 |agg l=>exact na
 |arr s=>exact na.trans ⟨λx=>⟨⟨c.1,x.1⟩,x.2⟩,λx=>⟨x.1.2,x.2⟩⟩
structure gj where
 op:Nat
 r:uo
 y:r.ty.den
def flat:List gj->bH
 |[]=>[]
 |p::r=>p.r.held p.y (flat r)
def gj.ok(p:gj)(w:World):Prop:=p.r.holds w.heap p.y
def waits(ops:Array Oper)(j i:Nat):Bool:=match ops[j]? with
 |some o=>o.after.any λe=>Region.binds .any e&&wM e.on i
 |none=>false
def keep(ops:Array Oper)(j:Nat):List gj->List gj
 |[]=>[]
 |p::r=>bif waits ops j p.op then keep ops j r else p::keep ops j r
theorem pj{ops:Array Oper}{j:Nat}:∀{L:List gj},∀p∈keep ops j L,p∈L
 |[],p,h=>by cases h
 |q::r,p,h=>by
  unfold keep at h;cases hw:waits ops j q.op with
  |true=>rw[hw]at h;exact qz _ (pj p h)
  |false=>
   rw[hw]at h;rcases qX.1 h with rfl|h
   ·exact qF
   ·exact qz _ (pj p h)
theorem AB{ops:Array Oper}{j:Nat}:∀{L:List gj} {p:gj},p∈L->waits ops j p.op=false->p∈keep ops j L
 |q::r,p,h,hw=>by
  unfold keep;rcases qX.1 h with rfl|h
  ·rw[hw];exact qF
  ·cases hq:waits ops j q.op with
   |true=>exact AB h hw
   |false=>exact qz _ (AB h hw)
theorem Fj{ops:Array Oper}{j:Nat}{p:gj}:∀{M:List gj},p∈keep ops j M->waits ops j p.op=false
 |[],h=>by cases h
 |q::r,h=>by
  unfold keep at h;cases hq:waits ops j q.op with
  |true=>rw[hq]at h;exact Fj h
  |false=>
   rw[hq]at h;rcases qX.1 h with rfl|h
   ·exact hq
   ·exact Fj h
theorem Cd{ops:Array Oper}{j:Nat}{L b:List gj}(c:∀p∈b,p∈L):∀p∈keep ops j b,p∈keep ops j L:=
 λp a=>AB (c p (pj p a)) (Fj a)
def lI(P:Program)(ops:Array Oper)(Q:Exit->Act->World->Prop):Nat->List gj->Array Bool->Act->World->Prop
 |0,_,listed,a,w=>Region.ready .any ops listed=[]/\Q .normal a w
 |fuel+1,L,listed,a,w=>
  (Region.ready .any ops listed=[]->Q .normal a w)/\
  ∀i∈Region.ready .any ops listed,wpOp P ops Q i (λa' w'=>(∀p∈keep ops i L,p.ok w')/\lI P ops Q fuel (keep ops i L) (listed.setIfInBounds i true) a' w') a w
theorem Gp{P:Program}{ops:Array Oper}{Q:Exit->Act->World->Prop}:∀(b:Nat) (L:List gj) (c:Array Bool) (a:Act) (w:World),lI P ops Q b L c a w->wpAny P .any ops Q b c a w
 |0,_,_,_,_,h=>h
 |b+1,_,_,_,_,h=>⟨h.1,λi d=>wpOp_mono (λa' w' h'=>Gp b _ _ a' w' h'.2) (h.2 i d)⟩
theorem AC{P:Program}{ops:Array Oper}{Q:Exit->Act->World->Prop}:∀(b:Nat) {L d:List gj} (c:Array Bool) (a:Act) (w:World),(∀p∈d,p∈L)->lI P ops Q b L c a w->lI P ops Q b d c a w
 |0,_,_,_,_,_,_,h=>h
 |b+1,_,_,_,_,_,hs,h=>⟨h.1,λi f=>wpOp_mono (λa' w' h'=>⟨λp e=>h'.1 p (Cd hs p e),AC b _ a' w' (Cd hs) h'.2⟩) (h.2 i f)⟩
theorem Lt{P:Program}{ops:Array Oper}{Q:Exit->Act->World->Prop}{i:Nat}{u:Oper}{v:Value}{T:World->Prop}{N:List gj}(Y:ops[i]?=some u)(B:∀(j:Nat) (o:Oper) cs b,ops[j]?=some o->o.op≠.select cs b)
  (hQ:∀c a w,Q (.panic c) (a.put u.dst v) w->Q (.panic c) a w) (hN:∀p∈N,p.op=i) (hT:∀w,(∀p∈N,p.ok w)->T w):
  ∀(f:Nat) (L:List gj) (d:Array Bool) (a:Act) (w:World),
   (∀j r,ops[j]?=some r->j≠i->d.getD j true=false->(∀e∈r.after,Region.binds .any e=true->e.on≠i)->u.apart ops r=true)->
   i∈Region.ready .any ops d->YieldsIf P ops T u v a->(∀p∈N,p.ok w)->(∀p∈L,p.ok w)->
   lI P ops Q f (N++L) (d.setIfInBounds i true) (a.put u.dst v) w->lI P ops Q (f+1) L d a w:=by
 intro f;have z:∀(f:Nat) (L:List gj) (d:Array Bool) (a:Act) (w:World),YieldsIf P ops T u v a->(∀p∈N,p.ok w)->(∀p∈L,p.ok w)->
   lI P ops Q f (N++L) (d.setIfInBounds i true) (a.put u.dst v) w->
   wpOp P ops Q i (λa' w'=>(∀p∈keep ops i L,p.ok w')/\lI P ops Q f (keep ops i L) (d.setIfInBounds i true) a' w') a w:=λf L d a w G q R H=>
  G.wpOp Y (hT w q) ⟨λp g=>R p (pj p g),AC f _ _ _ (λp g=>zP _ (pj p g)) H⟩
 induction f with
 |zero=>
  intro L d a w _ D G q R H;refine⟨λh=>(by rw[h]at D;cases D),λj S=>?_⟩;by_cases l:j=i
  ·subst l;exact z 0 L d a w G q R H
  ·have:=ready_mono S l;rw[H.1]at this;cases this
 |succ f ih=>
  intro L d a w n D G q R H;refine⟨λh=>(by rw[h]at D;cases D),λj S=>?_⟩;by_cases l:j=i
  ·subst l;exact z (f+1) L d a w G q R H
  ·have E:=H.2 j (ready_mono S l);obtain⟨x,r,t,M⟩:=mem_ready.1 S;have A:∀e∈r.after,Region.binds .any e=true->e.on≠i:=λe he I W=>by
    have E:=M e he I;have Z:=(mem_ready.1 D).1;rw[W]at E;rcases Nat.lt_or_ge i d.size with h'|h'
    ·simp[h']at Z E;rw[Z]at E;cases E
    ·simp[Array.getElem?_eq_none h']at E
   have K:(r.after.any λe=>Region.binds .any e&&wM e.on i)=false:=by
    cases hc:r.after.any λe=>Region.binds .any e&&wM e.on i with
    |false=>rfl
    |true=>
     obtain⟨k,X,I⟩:=Array.any_eq_true.1 hc;simp only[qu]at I;exact absurd (zJ I.2) (A _ (Array.getElem_mem X) I.1)
   have F:waits ops j i=false:=by unfold waits;rw[t];exact K
   have y:∀p,p∈N->p∈keep ops j (N++L):=λp g=>AB (List.mem_append_left _ g) (by rw[hN p g];exact F);have m:∀p,p∈keep ops j L->p∈keep ops j (N++L):=Cd λp g=>zP _ g;have h2:=wpOp_putIf t (n j r t l x A) (λcs b=>B i u cs b Y) (λcs b=>B j r cs b t) hQ G E;have s:∀k ok,ops[k]?=some ok->k≠i->(d.setIfInBounds j true).getD k true=false->
     (∀e∈ok.after,Region.binds .any e=true->e.on≠i)->u.apart ops ok=true:=λk ok X U O V=>by
    refine n k ok X U ?_ V;by_cases J:j=k
    ·subst J;exact x
    ·rw[getD_set_ne true J]at O;exact O
   refine wpOp_mono (λa' w' h3=>⟨λp g=>h3.2.1 p (m p g),ih (keep ops j L) (d.setIfInBounds j true) a' w' s (ready_mono D (Ne.symm l)) h3.1 (λp g=>h3.2.1 p (y p g)) (λp g=>h3.2.1 p (m p g)) ?_⟩) h2;rw[Array.setIfInBounds_comm _ _ l];refine AC _ _ _ _ (λp g=>?_) h3.2.2;rcases List.mem_append.1 g with g|g
   ·exact y p g
   ·exact m p g
theorem uZ{P:Program}{ops:Array Oper}{Q:Exit->Act->World->Prop}{i:Nat}{e:Oper}{v:Value}{T:World->Prop}{N:List gj}{d:Nat}{L:List gj}{b:Array Bool}{a:Act}{w:World}(g:ops[i]?=some e)
  (q:Region.noSelect ops=true) (k:Region.free .any ops b i=true) (m:(Region.ready .any ops b).contains i=true)
  (n:∀c a w,Q (.panic c) (a.put e.dst v) w->Q (.panic c) a w) (j:∀p∈N,p.op=i) (l:∀w,(∀p∈N,p.ok w)->T w) (o:YieldsIf P ops T e v a) (f:∀p∈N,p.ok w) (r:∀p∈L,p.ok w)
  (h:lI P ops Q d (N++L) (b.setIfInBounds i true) (a.put e.dst v) w):lI P ops Q (d+1) L b a w:=
 Lt g (Region.noSelect_spec q) n j l d L b a w (Region.free_spec g k) (by simpa using m) o f r h
theorem Ip:∀{L:List gj} {w0:World},(∀p∈L,p.ok w0)->∀{m:Heap},(flat L).ok m->∀p∈L,p.r.holds m p.y
 |[],_,_,_,_,p,a=>by cases a
 |q::r,w0,h0,m,h,p,a=>by
  have h:=(uo.abf (h0 q qF)).1 h;rcases qX.1 a with rfl|a
  ·exact h.1
  ·exact Ip (λp a=>h0 p (qz _ a)) h.2 p a
def ZR(T:ke)(t:TypeId):Bool:=match T.get t with
 |some i=>match i.ty with
  | .sc .slc=>true
  |_=>false
 |none=>false
def ZS(T:ke):Op->Bool
 | .convert s d _=>!(ZR T s||ZR T d)
 | .move _| .assign _| .pick .. | .nilCheck _| .fieldAddr .. | .indexAddr .. | .index .. | .field .. | .extract .. | .binOp .. | .unOp .. | .build .. | .makeFunc .. | .load .. =>true
 | .slice _ _ _ _ none=>true
 | .call c=>match c.callee with
  | .builtin .len| .builtin .cap| .builtin .min| .builtin .max| .builtin .real| .builtin .imag=>true
  |_=>false
 |_=>false
def ny(T:ke)(ops:Array Oper)(a:Array Bool):List Nat->Option Nat
 |[]=>none
 |i::r=>match ops[i]? with
  |some o=>bif ZS T o.op&&Region.free .any ops a i then some i else ny T ops a r
  |none=>ny T ops a r
def Rq(C:Ctx)(n:Nat)(ops:Array Oper)(i:Nat)(o:Oper)(L:List gj)(K:List gj->Env->Heap->Prop)(ρ:Env)(h:Heap):Prop:=
 Gm ops o ρ (λρ=>match yP C.P C.T o.op ρ.eval with
  | .no=>match sU C.T o.op ρ.eval with
   |some r=>∃y:r.ty.den,r.holds h y/\put n o.dst (K (⟨i,r,y⟩::L)) ρ (r.ty.enc y) h
   |none=>False
  |p=>p.holds λv=>put n o.dst (K L) ρ v h) (λρ=>put n o.dst (K L) ρ undef h)
def Lu(C:Ctx)(n:Nat)(ops:Array Oper)(K:Nat->Env->Heap->Prop)(ρ:Env)(h:Heap):List Nat->Prop
 |[]=>True
 |[i]=>match ops[i]? with
  |some o=>Ec C n ops o (K i) ρ h
  |none=>False
 |i::j::r=>(match ops[i]? with
  |some o=>Ec C n ops o (K i) ρ h
  |none=>False)/\Lu C n ops K ρ h (j::r)
def sW(C:Ctx)(n:Nat)(ops:Array Oper)(K:Env->Heap->Prop):Nat->Array Bool->List gj->Env->Heap->Prop
 |0,listed,_,ρ,h=>bif (Region.ready .any ops listed).isEmpty then K ρ h else False
 |k+1,listed,L,ρ,h=>match ny C.T ops listed (Region.ready .any ops listed)with
  |some i=>match ops[i]? with
   |some o=>Rq C n ops i o L (sW C n ops K k (listed.setIfInBounds i true)) ρ h
   |none=>False
  |none=>match Region.ready .any ops listed with
   |[]=>K ρ h
   |i::r=>Lu C n ops (λi ρ h=>(flat (keep ops i L)).ok h/\sW C n ops K k (listed.setIfInBounds i true) (keep ops i L) ρ h) ρ h (i::r)
theorem rH{T:ke}{ops:Array Oper}{a:Array Bool}:∀{rs:List Nat} {i:Nat},ny T ops a rs=some i->i∈rs/\Region.free .any ops a i=true
 |[],_,h=>by cases h
 |j::r,i,h=>by
  simp only[ny]at h;split at h
  ·rename_i o b;cases hb:(ZS T o.op&&Region.free .any ops a j)with
   |true=>
    rw[hb]at h;cases h;simp only[qu]at hb;exact⟨qF,hb.2⟩
   |false=>
    rw[hb]at h;have:=rH h;exact⟨qz _ this.1,this.2⟩
  ·have:=rH h;exact⟨qz _ this.1,this.2⟩
theorem Jr{C:Ctx}{n:Nat}{ops:Array Oper}{K:Nat->Env->Heap->Prop}{ρ:Env}{h:Heap}:∀{l:List Nat},Lu C n ops K ρ h l->∀i∈l,∃o,ops[i]?=some o/\Ec C n ops o (K i) ρ h
 |[],_,i,hi=>by cases hi
 |[j],ha,i,hi=>by
  simp only[qx]at hi;subst hi;simp only[Lu]at ha;split at ha
  ·rename_i o a;exact⟨o,a,ha⟩
  ·exact ha.elim
 |j::k::r,ha,i,hi=>by
  obtain⟨b,c⟩:=ha;rcases qX.1 hi with rfl|hi
  ·split at b
   ·rename_i o a;exact⟨o,a,b⟩
   ·exact b.elim
  ·exact Jr c i hi
variable {n:Nat} {ops:Array Oper} {Q:Exit->Act->World->Prop} {ρ0:Env} {a0:Act} {w0:World}
section
variable {C:Ctx} {K:Env->Heap->Prop}
theorem Js(G:C.Ok)(M:Region.noSelect ops=true)
  (V:∀a w ρ,Fits n a ρ->Ext ρ0 ρ a0 a->cX w0 w->K ρ w.heap->Q .normal a w) (E:∀c a w,¬Q (.panic c) a w):
  ∀(k:Nat) (b:Array Bool) (L:List gj) (ρ:Env) (a:Act) (w:World),Fits n a ρ->Ext ρ0 ρ a0 a->cX w0 w->(∀p∈L,p.ok w)->
   sW C n ops K k b L ρ w.heap->lI C.P ops Q k L b a w
 |0,b,L,ρ,a,w,hf,hx,hl,hL,h=>by
  simp only[sW]at h;cases hb:(Region.ready .any ops b).isEmpty with
  |false=>rw[hb]at h;exact h.elim
  |true=>rw[hb]at h;exact⟨by simpa using hb,V _ _ _ hf hx hl h⟩
 |k+1,b,L,ρ,a,w,hf,hx,hl,hL,h=>by
  have H:=Js G M V E k;simp only[sW]at h;split at h
  ·rename_i i J;obtain⟨A,f⟩:=rH J;have e:(Region.ready .any ops b).contains i=true:=by simpa using A
   split at h
   ·rename_i o z;unfold Rq at h;obtain⟨ρ',I,W,h3⟩:=EM hf h;have q:∀c a w (v:Value),Q (.panic c) (Act.put a o.dst v) w->Q (.panic c) a w:=λc a w v hq=>absurd hq (E c _ w);have X:∀x v,Env.eval ρ' x=some v->a.eval x=v:=λx v h=>I.eval h;rcases h3 with⟨t,g⟩|⟨t,g⟩
    ·have s:(yP C.P C.T o.op (Env.eval ρ')).holds (λv=>put n o.dst (sW C n ops K k (b.setIfInBounds i true) L) ρ' v w.heap)->
       lI C.P ops Q (k+1) L b a w:=λd=>by
      obtain⟨v,hv,U⟩:=Gk G.toOk X d;obtain⟨l,D,F,B⟩:=sV U I;exact uZ (N:=[]) (T:=λ_=>True) z M f e (λc a w=>q c a w v) (λp d=>by cases d) (λ_ _=>trivial) (.inl ⟨t,λw _=>hv w⟩) (λp d=>by cases d) hL
       (H _ L l _ w D (hx.trans (W.trans F)) hl hL B)
     split at g
     ·split at g
      ·rename_i r u;obtain⟨y,Z,U⟩:=g;obtain⟨l,D,F,B⟩:=sV U I;have S:∀p∈[(⟨i,r,y⟩:gj)],p.ok w:=λp d=>by rw[qx]at d;subst d;exact Z
       refine uZ (N:=[⟨i,r,y⟩]) (T:=λw=>r.holds w.heap y) z M f e (λc a w=>q c a w _) (λp d=>by rw[qx]at d;subst d;rfl)
        (λw h=>h ⟨i,r,y⟩ (qx.2 rfl)) (.inl ⟨t,λw t=>AA G.toOk X u t⟩) S hL ?_
       refine H _ (⟨i,r,y⟩::L) l _ w D (hx.trans (W.trans F)) hl (λp d=>?_) B;rcases qX.1 d with rfl|d
       ·exact Z
       ·exact hL p d
      ·exact g.elim
     ·exact s g
    ·obtain⟨l,D,F,B⟩:=sV g I;exact uZ (N:=[]) (T:=λ_=>True) z M f e (λc a w=>q c a w undef) (λp d=>by cases d) (λ_ _=>trivial) (.inr ⟨t,rfl⟩) (λp d=>by cases d) hL
      (H _ L l _ w D (hx.trans (W.trans F)) hl hL B)
   ·exact h.elim
  ·split at h
   ·rename_i g;exact⟨λ_=>V _ _ _ hf hx hl h,λi J=>by rw[g]at J;cases J⟩
   ·rename_i i r g;refine⟨λh0=>absurd (g▸h0) (by simp),λj Y=>?_⟩;rw[g]at Y;obtain⟨o,z,R⟩:=Jr h j Y;have m:∀p∈keep ops j L,p.ok w:=λp d=>hL p (pj p d);exact Gn G z hf R λa' w' ρ' x1 x2 x3 O=>⟨Ip m O.1,H _ (keep ops j L) ρ' a' w' x1 (hx.trans x2) (hl.trans x3) (Ip m O.1) O.2⟩
end
def sched(T:ke)(ops:Array Oper):Nat->Array Bool->Option (List (Nat×Bool))
 |0,listed=>bif (Region.ready .any ops listed).isEmpty then some []else none
 |k+1,listed=>match ny T ops listed (Region.ready .any ops listed)with
  |some i=>(sched T ops k (listed.setIfInBounds i true)).map ((i,true)::·)
  |none=>match Region.ready .any ops listed with
   |[]=>some []
   |[i]=>(sched T ops k (listed.setIfInBounds i true)).map ((i,false)::·)
   |_::_::_=>none
def rk(C:Ctx)(n:Nat)(ops:Array Oper)(K:Env->Heap->Prop):List (Nat×Bool)->List gj->Env->Heap->Prop
 |[],_,ρ,h=>K ρ h
 |(i,true)::r,L,ρ,h=>match ops[i]? with
  |some o=>Rq C n ops i o L (rk C n ops K r) ρ h
  |none=>False
 |(i,false)::r,L,ρ,h=>match ops[i]? with
  |some o=>Ec C n ops o (λρ h=>(flat (keep ops i L)).ok h/\rk C n ops K r (keep ops i L) ρ h) ρ h
  |none=>False
theorem Jt{C:Ctx}{n:Nat}{ops:Array Oper}{K:Env->Heap->Prop}:∀(k:Nat) (a:Array Bool) (l:List (Nat×Bool)),sched C.T ops k a=some l->
  sW C n ops K k a=rk C n ops K l
 |0,a,l,hs=>by
  simp only[sched]at hs;cases hb:(Region.ready .any ops a).isEmpty with
  |false=>rw[hb]at hs;cases hs
  |true=>
   rw[hb]at hs;cases hs;funext L ρ h;simp only[sW,hb,rk,cond_true]
 |k+1,a,l,hs=>by
  have c:=λi=>Jt (C:=C) (n:=n) (ops:=ops) (K:=K) k (a.setIfInBounds i true);funext L ρ h;unfold sched at hs;unfold sW;cases hi:ny C.T ops a (Region.ready .any ops a)with
  |some i=>
   rw[hi]at hs;obtain⟨l',b,rfl⟩:=ve.1 hs;simp only[rk,c i l' b]
  |none=>
   rw[hi]at hs;generalize d:Region.ready .any ops a=rd at hs
   match rd,hs with
   |[],hs=>cases hs;simp only[rk]
   |[i],hs=>
    obtain⟨l',b,rfl⟩:=ve.1 hs;simp only[Lu,rk,c i l' b]
def Iq(C:Ctx)(n:Nat)(ops:Array Oper)(a:Bool)(K:Env->Heap->Prop)(ρ:Env)(h:Heap):Prop:=
 match a with
 |false=>XF C n ops K ops.toList ρ h
 |true=>bif Region.noSelect ops then(match sched C.T ops ops.size (vD ops.size false)with
  |some l=>rk C n ops K l [] ρ h
  |none=>sW C n ops K ops.size (vD ops.size false) [] ρ h)else False
theorem Lv{C:Ctx}(f:C.Ok){n:Nat}{id:Nat}{ops:Array Oper}{b:Bool}{Q:Exit->Env->Heap->Prop}{ρ:Env}{a:Act}{w:World}(i:Fits n a ρ)
  (h:Iq C n ops b (Q .normal) ρ w.heap):(Code.region id ops b).wp C.P (λe a' w'=>(∀c,e≠.panic c)/\Out n Q ρ a w e a' w') a w:=by
 cases b with
 |false=>
  refine wp_region ?_;have:=Jq f (Q:=λe a' w'=>(∀c,e≠.panic c)/\Out n Q ρ a w e a' w') (K:=Q .normal) (ρ0:=ρ) (a0:=a) (w0:=w) (λa' w' ρ' d x2 x3 g=>⟨λc e=>(by cases e),ρ',d,x2,x3,g⟩)
   ops.toList 0 (λj=>by simp) ρ a w i (Ext.refl _ _) (cX.refl _) h
  rw[List.range_eq_range'];simpa using this
 |true=>
  simp only[Iq]at h;cases hb:Region.noSelect ops with
  |false=>rw[hb]at h;exact h.elim
  |true=>
   rw[hb]at h;have h:sW C n ops (Q .normal) ops.size (vD ops.size false) [] ρ w.heap:=by
    simp only[cond_true]at h;split at h
    ·rename_i l o;rw[Jt _ _ _ o];exact h
    ·exact h
   refine wp_region_any f.mixed (Gp _ [] _ _ _ ?_);exact Js f hb (Q:=λe a' w'=>(∀c,e≠.panic c)/\Out n Q ρ a w e a' w') (ρ0:=ρ) (a0:=a) (w0:=w) (λa' w' ρ' d x2 x3 g=>⟨λc e=>(by cases e),ρ',d,x2,x3,g⟩)
    (λc a w k=>k.1 c rfl) _ _ [] ρ a {w with drawn:=w.drawn+1} i (Ext.refl _ _) ⟨rfl,rfl,rfl,Nat.le_succ _⟩ (λp m=>by cases m) h
def np{σ:Type}(rest:σ->Heap->Prop)(B:(σ->Heap->Prop)->Prop):Prop:=∃R:σ->Heap->Prop,(∀s h,R s h->rest s h)/\B R
def gm{σ:Type}(B:σ->(σ->Heap->Prop)->Heap->Prop)(s:σ)(h:Heap):Prop:=
 ∃(τ:Type) (V:τ->σ) (I:τ->Heap->Prop) (μ:τ->Nat) (t0:τ),s=V t0/\I t0 h/\∀t h,I t h->B (V t) (λb h'=>∃a,b=V a/\I a h'/\μ a<μ t) h
theorem Ul{P:Program}{c:Code}{Q:Exit->Act->World->Prop}{a:Act}{w:World}{σ:Type}(R:σ->Act->World->Prop)(μ:σ->World->Nat)(t:σ)(B:R t a w)
  (i:∀s a w,R s a w->c.wp P (Exit.then (λa' w'=>∃m,R m a' w'/\μ m w'<μ s w) Q) a w):(Code.loop c).wp P Q a w:=by
 intro b k cs;have p:∀n s a w,μ s w=n->R s a w->
   ∃e a' w',Q e a' w'/\Arrives P (lone (b.at a (.code c::.inLoop c::k)) cs w) b k cs e a' w':=by
  intro n
  induction n using Nat.strongRecOn with
  |_ n ih=>
   intro s a w v u;obtain⟨e,j,g,f,d⟩:=i s a w u b (.inLoop c::k) cs;cases e with
   |normal=>
    obtain⟨m,o,q⟩:=f;obtain⟨A,y,z,r,h⟩:=ih (μ m g) (v▸q) m j g rfl o;exact⟨A,y,z,r,.of_steps (Steps.trans d (.one step_inLoop)) h⟩
   |exit id=>exact⟨_,j,g,f,.pass (x:=.inLoop c) rfl (λ_ _=>.inl (by simp)) d⟩
   |goto l=>exact⟨_,j,g,f,.pass (x:=.inLoop c) rfl (λ_ _=>.inl (by simp)) d⟩
   |ret=>exact⟨_,j,g,f,.pass (x:=.inLoop c) rfl (λ_ _=>.inl (by simp)) d⟩
   |panic ch=>exact⟨_,j,g,f,.pass (x:=.inLoop c) rfl (λ_ _=>.inl (by simp)) d⟩
   |outgrown=>exact⟨_,j,g,f,.pass (x:=.inLoop c) rfl (λ_ _=>.inl (by simp)) d⟩
 obtain⟨e,a',w',f,d⟩:=p _ t a w rfl B;exact⟨e,a',w',f,.of_steps (.one step_loop) d⟩
inductive bZ where
 |n
 |two (a b:bZ)
 |inn (a:bZ)
 |loop (σ:di) (κ:cV) (a:bZ)
 |join (σ:di) (κ:cV) (a:bZ)
 |scope (l:Nat) (σ:di) (κ:cV) (pre rest:List bZ) (fwd:List (Nat×List bZ))
 |fwd (a:bZ) (fwd:List (Nat×List bZ))
def bZ.fst:bZ->bZ
 | .two a _=>a
 |_=>.n
def bZ.snd:bZ->bZ
 | .two _ b=>b
 |_=>.n
def bZ.sub:bZ->bZ
 | .inn a=>a
 |_=>.n
abbrev QT:=Exit->Env->Heap->Prop
def Gq(σ:di)(κ:cV)(ρ:Env)(K:σ.den->Heap->Prop)(Q:QT):QT
 | .normal,ρ',h=>bif within σ κ ρ' (ρ'.length-ρ.length)then(match σ.read ρ' with|some s=>K s h|none=>False)else False
 |e,ρ',h=>Q e ρ' h
def Ed(next:Env->Heap->Prop)(Q:QT):QT
 | .normal,ρ,h=>next ρ h
 |e,ρ,h=>Q e ρ h
def Um(id:Nat)(Q:QT):QT
 | .exit i,ρ,h=>bif wM i id then Q .normal ρ h else Q (.exit i) ρ h
 |e,ρ,h=>Q e ρ h
abbrev Rec:=Code->bZ->QT->Env->Heap->Prop
def uq(rec:Rec):List Code->List bZ->QT->Env->Heap->Prop
 |[],_,Q,ρ,h=>Q .normal ρ h
 |c::cs,[],Q,ρ,h=>rec c .n (Ed (uq rec cs [] Q) Q) ρ h
 |c::cs,x::xs,Q,ρ,h=>rec c x (Ed (uq rec cs xs Q) Q) ρ h
def chain:Code->Nat->Option (List Code×List Code)
 | .seq a b,l=>match chain a l with
  |some (p,r)=>some (p,r++[b])
  |none=>match chain b l with
   |some (p,r)=>some (a::p,r)
   |none=>none
 | .label l',l=>bif wM l' l then some ([],[])else none
 |_,_=>none
def ZT(a:List (Nat×List bZ))(l:Nat):Option (List bZ):=
 match a with
 |[]=>none
 |p::r=>bif wM p.1 l then some p.2 else ZT r l
def Ee(rec:Rec)(c:Code)(a:List (Nat×List bZ))(Q:QT):Nat->QT
 |0=>λ_ _ _=>False
 |g+1=>λe ρ h=>match e with
  | .goto l=>match ZT a l with
   |some xs=>match chain c l with
    |some (_,r)=>uq rec r xs (Ee rec c a Q g) ρ h
    |none=>False
   |none=>Q (.goto l) ρ h
  |e=>Q e ρ h
def Rs(l:Nat)(σ:di)(κ:cV)(ρ:Env)(K:σ.den->Heap->Prop)(Q:QT):QT
 | .goto l',ρ',h=>bif wM l' l then(bif within σ κ ρ' (ρ'.length-ρ.length)then(match σ.read ρ' with|some s=>K s h|none=>False)else False)else Q (.goto l') ρ' h
 |e,ρ',h=>Q e ρ' h
def Lw(c:Code)(Q:QT):QT
 | .goto l,ρ,h=>match findLabel c l with
  |none=>Q (.goto l) ρ h
  |some _=>False
 |e,ρ,h=>Q e ρ h
def Lx(C:Ctx)(n:Nat)(rec:Rec)(c:Code)(d:bZ)(Q:QT)(ρ:Env)(h:Heap):Prop:=
 match d with
 | .join σ κ a=>np (λs h=>Q .normal (σ.vals s (κ.over ρ)) h) (λK=>rec c a (Gq σ κ ρ K Q) ρ h)
 |d=>match c with
  | .skip=>Q .normal ρ h
  | .label _=>Q .normal ρ h
  | .region _ ops draw=>Iq C n ops draw (Q .normal) ρ h
  | .seq a b=>rec a d.fst (Ed (rec b d.snd Q) Q) ρ h
  | .cond x a b=>match ρ.eval x with
   |some (.bool t)=>Br t (rec a d.fst Q ρ h) (rec b d.snd Q ρ h)
   |_=>False
  | .block id c=>rec c d.sub (Um id Q) ρ h
  | .exit id=>Q (.exit id) ρ h
  | .goto l=>Q (.goto l) ρ h
  | .ret=>Q .ret ρ h
  | .loop c=>match d with
   | .loop σ κ a=>match σ.read ρ with
    |some s0=>gm (λs K h=>rec c a (Gq σ κ (σ.vals s (κ.over ρ)) K Q) (σ.vals s (κ.over ρ)) h) s0 h
    |none=>False
   |_=>False
  | .scope c=>match d with
   | .scope l σ κ pre rest fwd=>match chain c l with
    |some (p,r)=>uq rec p pre (Ed (λρ' h'=>match σ.read ρ' with
     |some s0=>gm (λs K h=>uq rec r rest (Ee rec c fwd (Rs l σ κ (σ.vals s (κ.over ρ')) K (Lw c Q)) 4) (σ.vals s (κ.over ρ')) h) s0 h'
     |none=>False) (Lw c Q)) ρ h
    |none=>False
   | .fwd a fwd=>rec c a (Ee rec c fwd (Lw c Q) 4) ρ h
   |_=>False
  |_=>False
def vc(C:Ctx)(n:Nat):Nat->Rec
 |0=>λ_ _ _ _ _=>False
 |f+1=>Lx C n (vc C n f)
def Ef(C:Ctx)(n:Nat)(rec:Rec):Prop:=∀(c:Code) (b:bZ) (Q:QT) (ρ:Env) (a:Act) (w:World),Fits n a ρ->rec c b Q ρ w.heap->c.wp C.P (Out n Q ρ a w) a w
variable {ρ ρ':Env} {a a':Act} {w w':World}
section
variable {C:Ctx} {Q:QT}
theorem Out.base{e:Exit}{c:Act}{b:World}(f:Ext ρ ρ' a a')(g:cX w w')(h:Out n Q ρ' a' w' e c b):Out n Q ρ a w e c b:=by obtain⟨d,j,i,h3,k⟩:=h;exact⟨d,j,f.trans i,g.trans h3,k⟩
theorem Out.then{next:Env->Heap->Prop}{N:Act->World->Prop}{j:Exit->Act->World->Prop}{e:Exit}{c:Act}{b:World}(h:Out n (Ed next Q) ρ a w e c b)
  (l:∀ρ',Fits n c ρ'->Ext ρ ρ' a c->cX w b->next ρ' b.heap->N c b) (k:Out n Q ρ a w e c b->e≠.normal->j e c b):Exit.then N j e c b:=by
 obtain⟨d,g,f,h3,i⟩:=h;cases e<;>first|exact l d g f h3 i|exact k ⟨d,g,f,h3,i⟩ (by simp)
def nc(P:Program):List Code->(Exit->Act->World->Prop)->Act->World->Prop
 |[],Q,a,w=>Q .normal a w
 |c::cs,Q,a,w=>c.wp P (Exit.then (nc P cs Q) Q) a w
theorem kw{P:Program}{Q d:Exit->Act->World->Prop}(b:∀e a w,Q e a w->d e a w):∀(l:List Code) (a:Act) (w:World),nc P l Q a w->nc P l d a w
 |[],_,_,h=>b _ _ _ h
 |c::cs,a,w,h=>wp_mono h λe a w h=>by
  cases e<;>first|exact kw b cs a w h|exact b _ _ _ h
theorem og{rec:Rec}(d:Ef C n rec):∀(l:List Code) (xs:List bZ) (Q:QT) (ρ:Env) (a:Act) (w:World),Fits n a ρ->uq rec l xs Q ρ w.heap->nc C.P l (Out n Q ρ a w) a w
 |[],_,Q,ρ,a,w,hf,h=>⟨ρ,hf,Ext.refl _ _,cX.refl _,h⟩
 |c::cs,[],Q,ρ,a,w,hf,h=>by
  refine wp_mono (d c .n _ ρ a w hf h) λe a' w' b=>b.then (λρ' f x2 x3 g=>?_) λb _=>b;exact kw (λe a w h=>h.base x2 x3) cs a' w' (og d cs [] Q ρ' a' w' f g)
 |c::cs,x::xs,Q,ρ,a,w,hf,h=>by
  refine wp_mono (d c x _ ρ a w hf h) λe a' w' b=>b.then (λρ' f x2 x3 g=>?_) λb _=>b;exact kw (λe a w h=>h.base x2 x3) cs a' w' (og d cs xs Q ρ' a' w' f g)
end
theorem vj{P:Program}{b:Code}{Q:Exit->Act->World->Prop}:∀(l:List Code) (a:Act) (w:World),nc P (l++[b]) Q a w->nc P l (Exit.then (b.wp P Q) Q) a w
 |[],a,w,h=>by
  refine wp_mono h λe a w h=>?_;cases e<;>exact h
 |c::cs,a,w,h=>wp_mono h λe a w h=>by
  cases e<;>first|exact vj cs a w h|exact h
theorem pN:∀{c:Code} {l:Nat} {p r:List Code},chain c l=some (p,r)->∃k,findLabel c l=some k/\
  (∀{P:Program} {Q:Exit->Act->World->Prop} {a:Act} {w:World},nc P r Q a w->k.wp P Q a w)/\
  (∀{P:Program} {Q:Exit->Act->World->Prop} {a:Act} {w:World},nc P p (Exit.then (nc P r Q) Q) a w->c.wp P Q a w)
 | .seq x y,l,p,r,h=>by
  simp only[chain]at h;split at h
  ·rename_i o m d;cases h;obtain⟨k,i,j,h3⟩:=pN d;refine⟨.seq k y,by simp[findLabel,i],λ{P Q a w} h=>wp_seq (j (vj m a w h)),λ{P Q a w} h=>wp_seq (h3 ?_)⟩;refine kw (λe a w g=>?_) p a w h;cases e<;>first|exact vj m a w g|exact g
  ·rename_i d;split at h
   ·rename_i o m n;cases h;obtain⟨k,i,j,h3⟩:=pN n;have q:findLabel x l=none:=by
     clear i j h3 n
     induction x with
     |seq a b iha ihb=>
      simp only[chain]at d;split at d
      ·cases d
      ·rename_i s;split at d
       ·cases d
       ·rename_i f;simp[findLabel,iha s,ihb f]
     |label l'=>
      simp only[chain]at d;cases f:wM l' l with
      |true=>rw[f]at d;cases d
      |false=>
       have:¬l'=l:=λe=>by subst e;simp at f
       simp[findLabel,this]
     |_=>rfl
    refine⟨k,by simp[findLabel,q,i],j,λ{P Q a w} h=>wp_seq (wp_mono h λe a w g=>?_)⟩;cases e<;>first|exact h3 g|exact g
   ·cases h
 | .label l',l,p,r,h=>by
  simp only[chain]at h;cases f:wM l' l with
  |false=>rw[f]at h;cases h
  |true=>
   rw[f]at h;cases h;have:=zJ f;subst this;exact⟨.skip,by simp[findLabel],λh=>wp_skip h,λh=>wp_label h⟩
 | .skip,_,_,_,h=>by cases h
 | .region ..,_,_,_,h=>by cases h
 | .cond ..,_,_,_,h=>by cases h
 | .block ..,_,_,_,h=>by cases h
 | .loop _,_,_,_,h=>by cases h
 | .rangeFunc ..,_,_,_,h=>by cases h
 | .exit _,_,_,_,h=>by cases h
 | .scope _,_,_,_,h=>by cases h
 | .goto _,_,_,_,h=>by cases h
 | .ret,_,_,_,h=>by cases h
 | .refuse _,_,_,_,h=>by cases h
variable {c:Code} {b:Frame} {k:List Item} {cs:List Frame}
def Reach(P:Program)(c:Code)(Q:Exit->Act->World->Prop)(b:Frame)(k:List Item)(d:List Frame)(a:Act)(w:World)(r:Code):Prop:=
 ∃e a' w',Q e a' w'/\Arrives P (lone (b.at a (.code r::.inScope c::k)) d w) b k d e a' w'
def Good(P:Program)(c:Code)(Q:Exit->Act->World->Prop)(b:Frame)(k:List Item)(d:List Frame):Exit->Act->World->Prop
 | .goto l,a,w=>match findLabel c l with
  |some r=>Reach P c Q b k d a w r
  |none=>Q (.goto l) a w
 |e,a,w=>Q e a w
theorem Ly{m:Machine}{e:Exit}{a:Act}{w:World}(f:Good P c Q b k cs e a w)(d:Arrives P m b (.inScope c::k) cs e a w):
  ∃e a' w',Q e a' w'/\Arrives P m b k cs e a' w':=by
 cases e with
 |normal=>exact⟨.normal,a,w,f,Steps.trans d (.one step_inScope)⟩
 |exit id=>exact⟨.exit id,a,w,f,λj i=>d j (by simp[exitTo,i])⟩
 |goto l=>
  simp only[Good]at f;cases hf:findLabel c l with
  |none=>
   rw[hf]at f;exact⟨.goto l,a,w,f,λj i=>d j (by simp[gotoIn,hf,i])⟩
  |some r=>
   rw[hf]at f;obtain⟨p,n,o,h,g⟩:=f;exact⟨p,n,o,h,.of_steps (d _ (by simp[gotoIn,hf])) g⟩
 |ret=>exact⟨_,a,w,f,d⟩
 |panic ch=>exact⟨_,a,w,f,d⟩
 |outgrown=>exact⟨_,a,w,f,d⟩
theorem Lz{r:Code}{a:Act}{w:World}(h:r.wp P (Good P c Q b k cs) a w):Reach P c Q b k cs a w r:=by obtain⟨e,a',w',f,d⟩:=h b (.inScope c::k) cs;exact Ly f d
theorem BI{a:Act}{w:World}(h:∀b k cs,c.wp P (Good P c Q b k cs) a w):(Code.scope c).wp P Q a w:=by intro b k cs;obtain⟨e,m,l,i,d⟩:=h b k cs b (.inScope c::k) cs;obtain⟨f,a',w',j,g⟩:=Ly i d;exact⟨f,a',w',j,.of_steps (.one step_scope) g⟩
variable {rec:Rec}
section
variable {C:Ctx}
theorem AD(s:Ef C n rec){c:Code}{o:List (Nat×List bZ)}{u:QT}{q:Exit->Act->World->Prop}{b:Frame}{k:List Item}{t:List Frame}{ρ:Env}{a0:Act}{w0:World}
  (j:∀e i f d,Fits n f i->Ext ρ i a0 f->cX w0 d->u e i d.heap->Good C.P c q b k t e f d):
  ∀(g:Nat) (e:Exit) (i:Env) (f:Act) (d:World),Fits n f i->Ext ρ i a0 f->cX w0 d->Ee rec c o u g e i d.heap->Good C.P c q b k t e f d
 |0,_,_,_,_,_,_,_,h=>h.elim
 |g+1,e,i,f,d,hf,hx,hl,h=>by
  cases e with
  |goto l=>
   simp only[Ee]at h;split at h
   ·split at h
    ·rename_i p r m;obtain⟨F,y,D,_⟩:=pN m;simp only[Good,y];refine Lz (D ?_);refine kw (λe a w v=>?_) _ _ _ (og s _ _ _ i f d hf h);obtain⟨B,z,E,x,A⟩:=v;exact AD s j g e B a w z (hx.trans E) (hl.trans x) A
    ·exact h.elim
   ·exact j _ _ _ _ hf hx hl h
  |normal=>exact j _ _ _ _ hf hx hl h
  |exit id=>exact j _ _ _ _ hf hx hl h
  |ret=>exact j _ _ _ _ hf hx hl h
  |panic ch=>exact j _ _ _ _ hf hx hl h
  |outgrown=>exact j _ _ _ _ hf hx hl h
theorem nM{c:Code}{Q:QT}{b:Frame}{k:List Item}{m:List Frame}{ρ:Env}{a0:Act}{w0:World}{e:Exit}{a:Env}{i:Act}{j:World}
  (g:Fits n i a) (d:Ext ρ a a0 i) (f:cX w0 j) (h:Lw c Q e a j.heap):Good C.P c (Out n Q ρ a0 w0) b k m e i j:=by
 cases e with
 |goto l=>
  simp only[Lw]at h;simp only[Good];split at h
  ·rename_i o;simp only[o];exact⟨a,g,d,f,h⟩
  ·exact h.elim
 |normal=>exact⟨a,g,d,f,h⟩
 |exit id=>exact⟨a,g,d,f,h⟩
 |ret=>exact⟨a,g,d,f,h⟩
 |panic ch=>exact⟨a,g,d,f,h⟩
 |outgrown=>exact⟨a,g,d,f,h⟩
theorem Ju{a:Act}{σ:di}{κ:cV}{ρ:Env}{s:σ.den}(b:Fits n a ρ)(c:σ.read ρ=some s):Fits n a (σ.vals s (κ.over ρ))/\Ext ρ (σ.vals s (κ.over ρ)) a a:=
 b.pi b (λ_ _ _=>rfl) c
theorem Ou(E:Ef C n rec){c:Code}{l:Nat}{σ:di}{κ:cV}{pre rest:List bZ}{L:List (Nat×List bZ)}{p r:List Code}(hc:chain c l=some (p,r)){Q:QT}{ρ:Env}{a:Act}{w:World}(hf:Fits n a ρ)
  (h:uq rec p pre (Ed (λρ' h'=>match σ.read ρ' with
     |some T=>gm (λs K h=>uq rec r rest (Ee rec c L (Rs l σ κ (σ.vals s (κ.over ρ')) K (Lw c Q)) 4) (σ.vals s (κ.over ρ')) h) T h'
     |none=>False) (Lw c Q)) ρ w.heap):(Code.scope c).wp C.P (Out n Q ρ a w) a w:=by
 refine BI λb k cs=>?_;obtain⟨kk,U,h2,h3⟩:=pN hc;refine h3 (kw (λe a' w' x=>?_) _ _ _ (og E _ _ _ ρ a w hf h));refine x.then (λρ' R x2 x3 A=>?_) (λx _=>?_)
 ·split at A
  ·rename_i T M;obtain⟨τ,V,I,μ,t0,W,hI,i⟩:=A;subst W;have g:=Ju (κ:=κ) R M;have y:∀(m:Nat) (t:τ) (v:Act) (q:World),μ t=m->I t q.heap->Fits n v (σ.vals (V t) (κ.over ρ'))->Ext ρ' (σ.vals (V t) (κ.over ρ')) a' v->cX w' q->
     nc C.P r (Good C.P c (Out n Q ρ a w) b k cs) v q:=by
    intro m
    induction m using Nat.strongRecOn with
    |_ m ih=>
     intro t v q hm D z f d;refine kw (λe a2 w2 x=>?_) _ _ _ (og E _ _ _ _ v q z (i t q.heap D));obtain⟨X,H,F,G,J⟩:=x;refine AD E (ρ:=σ.vals (V t) (κ.over ρ')) (a0:=v) (w0:=q) (λe N a3 w3 u j z3 z4=>?_) 4 e X a2 w2 H F G J;cases e with
     |goto l'=>
      simp only[Rs]at z4;cases hb:wM l' l with
      |false=>
       rw[hb]at z4;exact nM u (x2.trans (f.trans j)) (x3.trans (d.trans z3)) z4
      |true=>
       rw[hb]at z4;have:=zJ hb;subst this;simp only[Good,U];cases hw:within σ κ N (N.length-(σ.vals (V t) (κ.over ρ')).length)with
       |false=>rw[hw]at z4;exact z4.elim
       |true=>
        rw[hw]at z4;simp only[cond_true]at z4;split at z4
        ·rename_i s' B;have o:∀t,σ.has t=false->(κ.over []).eN t=false->a3.tmps[t]?=a'.tmps[t]?:=λt O S=>by
          rw[j.within hw t O S,f.pi t O S]
         obtain⟨u1,u2⟩:=R.pi (κ:=κ) u o B;obtain⟨t',Z,Y,i2⟩:=z4;subst Z;exact Lz (h2 (ih _ (by rw[<-hm];exact i2) t' a3 w3 rfl Y u1 u2 (d.trans z3)))
        ·exact z4.elim
     |normal=>exact nM u (x2.trans (f.trans j)) (x3.trans (d.trans z3)) z4
     |exit id=>exact nM u (x2.trans (f.trans j)) (x3.trans (d.trans z3)) z4
     |ret=>exact nM u (x2.trans (f.trans j)) (x3.trans (d.trans z3)) z4
     |panic ch=>exact nM u (x2.trans (f.trans j)) (x3.trans (d.trans z3)) z4
     |outgrown=>exact nM u (x2.trans (f.trans j)) (x3.trans (d.trans z3)) z4
   exact y _ t0 a' w' rfl hI g.1 g.2 (cX.refl _)
  ·exact A.elim
 ·obtain⟨ρ1,H,F,G,J⟩:=x;exact nM H F G J
theorem abg(P:C.Ok)(o:Ef C n rec):Ef C n (Lx C n rec):=by
 intro c ab Q ρ a w j h;have u:∀{σ:di} {κ:cV} {K:σ.den->Heap->Prop} {e:Exit} {a':Act} {w':World},Out n (Gq σ κ ρ K Q) ρ a w e a' w'->(∀s h,K s h->Q .normal (σ.vals s (κ.over ρ)) h)->Out n Q ρ a w e a' w':=by
  intro σ κ K e a' w' g hk;obtain⟨ρ',f,x2,x3,d⟩:=g;cases e with
  |normal=>
   simp only[Gq]at d;cases hw:within σ κ ρ' (ρ'.length-ρ.length)with
   |false=>rw[hw]at d;exact d.elim
   |true=>
    rw[hw]at d;simp only[cond_true]at d;split at d
    ·rename_i s hs;obtain⟨H,G⟩:=j.pi (κ:=κ) f (x2.within hw) hs;exact⟨_,H,G,x3,hk _ _ d⟩
    ·exact d.elim
  |exit id=>exact⟨ρ',f,x2,x3,d⟩
  |goto l=>exact⟨ρ',f,x2,x3,d⟩
  |ret=>exact⟨ρ',f,x2,x3,d⟩
  |panic ch=>exact⟨ρ',f,x2,x3,d⟩
  |outgrown=>exact⟨ρ',f,x2,x3,d⟩
 unfold Lx at h;split at h
 ·rename_i σ κ x;obtain⟨K,U,O⟩:=h;exact wp_mono (o c x _ ρ a w j O) λe a' w' g=>u g U
 ·split at h
  ·exact wp_skip ⟨ρ,j,Ext.refl _ _,cX.refl _,h⟩
  ·exact wp_label ⟨ρ,j,Ext.refl _ _,cX.refl _,h⟩
  ·exact wp_mono (Lv P j h) λe a' w' g=>g.2
  ·rename_i x y;refine wp_seq (wp_mono (o x _ _ ρ a w j h) λe a' w' g=>g.then (λρ' f x2 x3 d=>?_) λg _=>g);exact wp_mono (o y _ _ ρ' a' w' f d) λe R ad g=>g.base x2 x3
  ·rename_i x y z;split at h
   ·rename_i t N;refine wp_cond_split (j.eval N) (λe=>?_) (λe=>?_)
    ·subst e;exact o y _ _ ρ a w j h
    ·subst e;exact o z _ _ ρ a w j h
   ·exact h.elim
  ·rename_i id x;refine wp_block (wp_mono (o x _ _ ρ a w j h) λe a' w' g=>?_);obtain⟨ρ',f,x2,x3,d⟩:=g;cases e with
   |exit i=>
    simp only[Exit.inBlock];simp only[Um]at d;cases hb:wM i id with
    |true=>
     rw[hb]at d;rw[if_pos (zJ hb)];exact⟨ρ',f,x2,x3,d⟩
    |false=>
     rw[hb]at d;rw[if_neg λe=>by subst e;simp at hb];exact⟨ρ',f,x2,x3,d⟩
   |normal=>exact⟨ρ',f,x2,x3,d⟩
   |goto l=>exact⟨ρ',f,x2,x3,d⟩
   |ret=>exact⟨ρ',f,x2,x3,d⟩
   |panic ch=>exact⟨ρ',f,x2,x3,d⟩
   |outgrown=>exact⟨ρ',f,x2,x3,d⟩
  ·exact wp_exit ⟨ρ,j,Ext.refl _ _,cX.refl _,h⟩
  ·exact wp_goto ⟨ρ,j,Ext.refl _ _,cX.refl _,h⟩
  ·exact wp_ret ⟨ρ,j,Ext.refl _ _,cX.refl _,h⟩
  ·rename_i x;split at h
   ·rename_i σ κ y _;split at h
    ·rename_i s0 J;obtain⟨τ,V,I,μ,t0,e0,T,q⟩:=h;subst e0;have m:=Ju (κ:=κ) j J;refine Ul (σ:=τ) (λt D B=>Fits n D (σ.vals (V t) (κ.over ρ))/\Ext ρ (σ.vals (V t) (κ.over ρ)) a D/\cX w B/\I t B.heap) (λt _=>μ t) t0 ⟨m.1,m.2,cX.refl _,T⟩ ?_;rintro t D B ⟨F,v,z3,z4⟩;refine wp_mono (o x y _ _ D B F (q t _ z4)) λe W w2 g=>?_;obtain⟨ρ',f,x2,x3,d⟩:=g;cases e with
     |normal=>
      simp only[Gq]at d;cases hw:within σ κ ρ' (ρ'.length-(σ.vals (V t) (κ.over ρ)).length)with
      |false=>rw[hw]at d;exact d.elim
      |true=>
       rw[hw]at d;simp only[cond_true]at d;split at d
       ·rename_i s' E;have A:∀t,σ.has t=false->(κ.over []).eN t=false->W.tmps[t]?=a.tmps[t]?:=λt M L=>by
         rw[x2.within hw t M L,v.pi t M L]
        obtain⟨H,G⟩:=j.pi (κ:=κ) f A E;obtain⟨Y,X,i1,Z⟩:=d;subst X;exact⟨Y,⟨H,G,z3.trans x3,i1⟩,Z⟩
       ·exact d.elim
     |exit id=>exact⟨ρ',f,v.trans x2,z3.trans x3,d⟩
     |goto l=>exact⟨ρ',f,v.trans x2,z3.trans x3,d⟩
     |ret=>exact⟨ρ',f,v.trans x2,z3.trans x3,d⟩
     |panic ch=>exact⟨ρ',f,v.trans x2,z3.trans x3,d⟩
     |outgrown=>exact⟨ρ',f,v.trans x2,z3.trans x3,d⟩
    ·exact h.elim
   ·exact h.elim
  ·rename_i x;split at h
   ·split at h
    ·rename_i p r S;exact Ou o S j h
    ·exact h.elim
   ·refine BI λb k cs=>wp_mono (o x _ _ ρ a w j h) λe a' w' g=>?_;obtain⟨ρ',f,x2,x3,d⟩:=g;exact AD o (ρ:=ρ) (a0:=a) (w0:=w) (λe ρ3 a3 w3 F v z3 z4=>nM F v z3 z4) 4 e ρ' a' w' f x2 x3 d
   ·exact h.elim
  ·exact h.elim
theorem LA(a:C.Ok):∀f,Ef C n (vc C n f)
 |0=>λ_ _ _ _ _ _ _ h=>h.elim
 |f+1=>abg a (LA a f)
end
def Ce(C:Ctx)(ρ:Env):List ResultVar->(List Value->Prop)->Heap->Prop
 |[],K,_=>K []
 | .tmp t::r,K,h=>match ρ.get t with
  |some v=>Ce C ρ r (λvs=>K (v::vs)) h
  |none=>False
 | .cell a t::r,K,h=>match sU C.T (.load t (.tmp a)) ρ.eval with
  |some q=>∃y:q.ty.den,q.holds h y/\Ce C ρ r (λvs=>K (q.ty.enc y::vs)) h
  |none=>False
def Cf:List Value->Value
 |[v]=>v
 |vs=>.tuple vs.toArray
def Cg(C:Ctx)(rs:List ResultVar)(R:Value->Heap->Prop):QT
 | .normal,ρ,h=>Ce C ρ rs (λvs=>R (Cf vs) h) h
 | .ret,ρ,h=>Ce C ρ rs (λvs=>R (Cf vs) h) h
 |_,_,_=>False
def Ch:Nat->List Value->Env
 |_,[]=>[]
 |n,v::r=>.val n v::Ch (n+1) r
def Un(C:Ctx)(b:Func)(a:Nat)(d:bZ)(args:List Value)(R:Value->Heap->Prop)(h:Heap):Prop:=
 match b.body with
 |some c=>vc C b.ntmps a c d (Cg C b.results.toList R) (Ch 0 args) h
 |none=>False
theorem Gr:∀{args:List Value} {n t:Nat} {v:Value},(Ch n args).get t=some v->n<=t/\args[t-n]?=some v
 |[],_,_,_,h=>by cases h
 |u::r,n,t,v,h=>by
  simp only[Ch,Env.get]at h;cases hb:wM n t with
  |true=>
   rw[hb]at h;have:=zJ hb;subst this;simpa using h
  |false=>
   rw[hb]at h;obtain⟨c,a⟩:=Gr (args:=r) h;refine⟨by omega,?_⟩;obtain⟨k,b⟩:∃k,t-n=k+1:=⟨t-(n+1),by omega⟩
   rw[b,List.getElem?_cons_succ];have:t-(n+1)=k:=by omega
   rw[<-this];exact a
theorem XG{C:xZ}(g:C.Ok){ev:Operand->Option Value}{e:Operand->Value}(f:∀x v,ev x=some v->e x=v){t:TypeId}{x:Operand}{q:uo}
  (h:sU C.T (.load t x) ev=some q) {y:q.ty.den} {w:World} (d:q.holds w.heap y):(xh t (e x)).run C.P w=.ok (q.ty.enc y) w:=by
 have c:(do pure (Next.value (<-xh t (e x))):Sem Next).run C.P w=.ok (.value (q.ty.enc y)) w:=AA g f (o:=⟨none,.load t x,0, "",#[],none⟩) h d;rw[Sem.run_bind]at c;cases hr:(xh t (e x)).run C.P w with
 |halt a b=>rw[hr]at c;cases c
 |ok v w'=>
  rw[hr]at c;simp only[Result.andThen_ok]at c;cases c;rfl
theorem Ci{C:Ctx}(g:C.Ok){n:Nat}{a:Act}{ρ:Env}(f:Fits n a ρ):∀{rs:List ResultVar} {K:List Value->Prop} {w:World},Ce C ρ rs K w.heap->
  ∃vs,(rs.mapM (λ| .tmp t=>pure (a.tmps.getD t undef)| .cell x t=>(do loadVar t (<-asAddr (a.tmps.getD x undef)):Sem Value)):Sem (List Value)).run C.P w=.ok vs w/\K vs
 |[],K,w,h=>⟨[],rfl,h⟩
 | .tmp t::r,K,w,h=>by
  simp only[Ce]at h;split at h
  ·rename_i v o;obtain⟨vs,j,l⟩:=Ci g f h;refine⟨v::vs,?_,l⟩;have i:a.tmps.getD t undef=v:=by simp[Array.getD_eq_getD_getElem?,f.get t v o]
   rw[List.mapM_cons,Sem.run_bind,Sem.run_pure,Result.andThen_ok,Sem.run_bind,j,i];rfl
  ·exact h.elim
 | .cell x t::r,K,w,h=>by
  simp only[Ce]at h;split at h
  ·rename_i q d;obtain⟨y,s,h⟩:=h;obtain⟨vs,j,l⟩:=Ci g f h;refine⟨q.ty.enc y::vs,?_,l⟩;have m:=XG g.toOk (e:=a.eval) (λx v h=>f.eval h) d s;have p:∃c,a.eval (.tmp x)=.pointer (some c):=by
    unfold sU at d;simp only at d;split at d
    ·rename_i c b;exact⟨c,f.eval b⟩
    ·cases d
   obtain⟨c,b⟩:=p;have i:a.tmps.getD x undef=.pointer (some c):=b;rw[b]at m;rw[List.mapM_cons,Sem.run_bind];simp only[i];have k:(do loadVar t (<-asAddr (.pointer (some c))):Sem Value).run C.P w=.ok (q.ty.enc y) w:=m;rw[k,Result.andThen_ok,Sem.run_bind,j];rfl
  ·exact h.elim
theorem Qg{C:Ctx}(m:C.Ok){f:FuncId}{d:Func}(u:C.P.funcs[f]?=some d){a:Nat}{g:bZ}{args:List Value}(z:args.length<=d.ntmps){R:Value->Heap->Prop}{h:Heap}
  (j:Un C d a g args R h):ai C.P f args.toArray h R:=by
 rintro w rfl;unfold Un at j;split at j
 ·rename_i c s;refine calls_of_wp u s ?_;have b:Fits d.ntmps {tmps:=args.toArray++vD (d.ntmps-args.toArray.size) undef,defers:=[]} (Ch 0 args):=by refine⟨by simp;omega,rfl,λt v p=>?_⟩;obtain⟨_,i⟩:=Gr p;rw[Nat.sub_zero]at i;have k:t<args.length:=(ql.1 i).1;simp only[Array.getElem?_append,List.size_toArray,k,if_true,List.getElem?_toArray];exact i
  refine wp_mono (LA m a c g _ _ _ w b j) λe a' w' q=>?_;obtain⟨ρ',l,x2,x3,n⟩:=q;have fin:Ce C ρ' d.results.toList (λvs=>R (Cf vs) w'.heap) w'.heap->a'.defers=[]/\∃v,(results d a'.tmps).run C.P w'=.ok v w'/\(∃o,Ending.returned v=.returned o/\cX w w'/\R o w'.heap):=λx=>by
   obtain⟨vs,y,i⟩:=Ci m l x;refine⟨l.defers,Cf vs,?_,Cf vs,rfl,x3,i⟩;unfold results;rw[vu,map_eq_pure_bind,bind_assoc,Sem.run_bind];refine(congrArg (λr=>Result.andThen r _) y).trans ?_;simp only[Result.andThen_ok,pure_bind,Sem.run_pure];cases vs with
   |nil=>rfl
   |cons v r=>cases r<;>rfl
  cases e<;>first|exact fin n|exact n.elim
 ·exact j.elim
theorem acy{C:Ctx}(d:C.Ok){f:FuncId}{a:Func}(i:C.P.funcs[f]?=some a)(b:bZ){args:List Value}{R:Value->Heap->Prop}{h:Heap}{Q:Prop}(c:Q)
  (g:xg args.length a.ntmps=true:=by kernel_rfl) (e:Un C a 300 b args R h=Q:=by kernel_rfl):ai C.P f args.toArray h R:=Qg d i (zC g) (cast e.symm c)
def bG(P:Program)(s:Sem Value)(r:Rt)(h:Heap)(K:r.den->Heap->Prop):Prop:=aj P s h λv h'=>∃x:r.den,v=r.enc x/\K x h'
def aeH(P:Program)(s:Sem Value)(h:Heap)(K:Bool->List Value->Heap->Prop):Prop:=aj P s h λv h'=>∃(b:Bool) (r:List Value),v=.tuple ⟨.bool b::r⟩/\K b r h'
def oh(P:Program)(s:Sem Value)(h:Heap)(K:Addr->Heap->Prop):Prop:=aj P s h λv h'=>∃a:Addr,v=.pointer (some a)/\K a h'
def ol(P:Program)(f:FuncId)(args:Array Value)(r:Rt)(h:Heap)(K:r.den->Heap->Prop):Prop:=ai P f args h λv h'=>∃x:r.den,v=r.enc x/\K x h'
def sX(C:Ctx)(g:FuncId)(args:List Value)(r:Rt)(h:Heap)(K:r.den->Heap->Prop):Prop:=
 match C.fns[g]? with
 |some true=>ol C.P g args.toArray r h K
 |_=>False
theorem eU{C:Ctx}{g:FuncId}{args:List Value}{r:Rt}{h:Heap}{K:r.den->Heap->Prop}(a:C.fns[g]?=some true)(b:ol C.P g args.toArray r h K):sX C g args r h K:=by unfold sX;rw[a];exact b
namespace Rk
open Go
inductive Er where
 |val (t:Nat) (v:Value)
 |tf (t:Nat) (b:Nat)
abbrev Ev:=List Er
def acz:Nat->Value
 |0=>.bool false
 |_+1=>.bool true
def Rv:Bool->Value->Ev->Nat->Value
 |true,x,_,_=>x
 |false,_,[],_=>.tuple #[]
 |false,_,.val s x::r,t=>Rv (s==t) x r t
 |false,_,.tf s n::r,t=>Rv (s==t) (acz n) r t
abbrev Fk(ρ:Ev)(t:Nat):Value:=Rv false (.tuple #[]) ρ t
inductive Gd where
 |k (n:Nat)
 |v (v:Value)
def Lb:Bool->Gd->Ev->Nat->Gd
 |true,x,_,_=>x
 |false,_,[],_=>.k 0
 |false,_,.val s x::r,t=>Lb (s==t) (.v x) r t
 |false,_,.tf s n::r,t=>Lb (s==t) (.k n) r t
abbrev acA(ρ:Ev)(t:Nat):Gd:=Lb false (.k 0) ρ t
def eO(ρ:Ev):Operand->Value
 | .tmp t=>Fk ρ t
 | .const v=>v
 | .global g=>.pointer (some ⟨g,0,none⟩)
 | .func f=>.func (.func f) #[] #[]
def Gs(ρ:Ev):List Operand->List Value
 |[]=>[]
 |x::r=>eO ρ x::Gs ρ r
def Lc(ρ:Ev):List (Nat×Operand)->List (Nat×Value)
 |[]=>[]
 |(n,x)::r=>(n,eO ρ x)::Lc ρ r
def Gt(ρ:Ev):Option Operand->Option Value
 |none=>none
 |some x=>some (eO ρ x)
def Rw:Bool->Bool
 |true=>false
 |false=>true
def acB:Bool->Bool->Bool
 |true,b=>b
 |false,_=>false
def XH:Bool->Bool->Bool
 |true,_=>true
 |false,b=>b
def Fl:Bool->Bool->Bool
 |true,b=>Rw b
 |false,_=>false
def mJ{α:Type}(d:α):List α->Nat->α
 |[],_=>d
 |a::_,0=>a
 |_::r,n+1=>mJ d r n
def LB{α:Type}:Nat->List α->List α
 |0,l=>l
 |_+1,[]=>[]
 |n+1,_::r=>LB n r
def LC{α:Type}:Nat->List α->List α
 |0,_=>[]
 |_+1,[]=>[]
 |n+1,a::r=>a::LC n r
def pO{α:Type}:List α->List α->List α
 |[],m=>m
 |a::r,m=>a::pO r m
def XI{α:Type}:List α->Nat
 |[]=>0
 |_::r=>XI r+1
def Rx:TI:=⟨.other,.sc .any,0,0,[]⟩
def acC(l:List TI)(t:Nat):TI:=mJ Rx l t
def Ry:mW->Nat->Nat×TypeId
 | .struct fs,f=>mJ (0,0) fs f
 | .int _,_| .bool,_| .str,_| .flt,_| .cpx,_| .mp,_| .fn,_| .other,_| .slice _,_| .array ..,_| .ptr _,_=>(0,0)
def Gu:mW->TypeId
 | .slice e=>e
 | .array _ e=>e
 | .int _| .bool| .str| .flt| .cpx| .mp| .fn| .other| .struct _| .ptr _=>0
inductive Rz:Type 1 where
 |val (v:Value)
 |cond (c:Prop) (v:Value)
 |ex (X:Type) (c:X->Prop) (v:X->Value)
 |br (b:Bool) (x y:Value)
 |ld (a:Addr) (t:Ty) (n:Nat)
 |ru (α:Type) (s:Sem α)
 |ra (s:Sem Value)
 |rr (s:Sem Value) (t:Rt)
 |ca (f:FuncId) (l:List Value) (t:Rt)
 |dy (f:FuncId) (l:List Value) (t:Rt)
 |bad
def acD:Value->Value->Value->Rz
 | .bool b,x,y=>.br b x y
 |_,_,_=>.bad
def acE:Value->Rz
 | .pointer p=>.ex Addr (λa=>p=some a) (λa=>.pointer (some a))
 |_=>.bad
def acF:Value->Nat->Rz
 | .pointer (some a),n=>.val (.pointer (some (a.add n)))
 |_,_=>.bad
def acG:Value->Value->mW->Nat->Rz
 | .slice p len _,.int _ n,.slice _,z=>.ex Addr (λa=>p=some a/\0<=n/\n<(len:Int)) (λa=>.pointer (some (a.add (n.toNat*z))))
 | .pointer (some a),.int _ n,.array m _,z=>.cond (0<=n/\n<(m:Int)) (.pointer (some (a.add (n.toNat*z))))
 |_,_,_,_=>.bad
def ZU:Ty->Nat->List Value->Int->Array Value->Rz
 | .sc s,m,_,n,cs=>.ex s.den (λy=>0<=n/\n<(m:Int)/\cs[n.toNat]?=some (s.enc y)) (λy=>s.enc y)
 |_,_,_,_,_=>.bad
def acH:Value->Value->mW->Ty->Rz
 | .string s,.int _ n,.str,_=>.ex UInt8 (λb=>0<=n/\s.data[n.toNat]?=some b) (λb=>.int .u8 b.toNat)
 | .agg cs,.int _ n,.array m _,t=>ZU t m [] n cs
 |_,_,_,_=>.bad
def ZV:mW->List Value->Nat->Nat->Value
 | .struct _,cs,o,z=>.agg (LC z (LB o cs)).toArray
 | .array ..,cs,o,z=>.agg (LC z (LB o cs)).toArray
 | .int _,cs,o,_| .bool,cs,o,_| .str,cs,o,_| .flt,cs,o,_| .cpx,cs,o,_| .mp,cs,o,_| .fn,cs,o,_| .other,cs,o,_| .slice _,cs,o,_| .ptr _,cs,o,_=>mJ (.tuple #[]) cs o
def acI:Value->Nat->TI->Rz
 | .agg cs,o,i=>.val (ZV i.cj cs.toList o i.size)
 |_,_,_=>.bad
def acJ:Value->Nat->Rz
 | .tuple vs,n=>.val (mJ (.tuple #[]) vs.toList n)
 |_,_=>.bad
def acK:Value->mW->Nat->Option Value->Option Value->Rz
 | .slice p n c,.slice _,_,none,none=>.val (.slice p n c)
 | .slice p _ c,.slice _,_,none,some (.int _ r)=>.cond (0<=r/\r<=(c:Int)) (.slice p r.toNat c)
 | .slice p n c,.slice _,z,some (.int _ l),none=>.cond (0<=l/\l<=(n:Int)) (.slice (if c=l.toNat then p else p.map (·.add (l.toNat*z))) (n-l.toNat) (c-l.toNat))
 | .slice p _ c,.slice _,z,some (.int _ l),some (.int _ r)=>.cond (0<=l/\l<=r/\r<=(c:Int)) (.slice (if c=l.toNat then p else p.map (·.add (l.toNat*z))) (r.toNat-l.toNat) (c-l.toNat))
 | .string s,.str,_,none,none=>.val (.string (s.extract 0 s.size))
 | .string s,.str,_,none,some (.int _ r)=>.cond (0<=r/\r<=(s.size:Int)) (.string (s.extract 0 r.toNat))
 | .string s,.str,_,some (.int _ l),none=>.cond (0<=l/\l<=(s.size:Int)) (.string (s.extract l.toNat s.size))
 | .string s,.str,_,some (.int _ l),some (.int _ r)=>.cond (0<=l/\l<=r/\r<=(s.size:Int)) (.string (s.extract l.toNat r.toNat))
 | .pointer (some a),.array n _,_,none,none=>.val (.slice (some a) n n)
 | .pointer (some a),.array n _,_,none,some (.int _ r)=>.cond (0<=r/\r<=(n:Int)) (.slice (some a) r.toNat n)
 | .pointer (some a),.array n _,z,some (.int _ l),none=>.cond (0<=l/\l<=(n:Int)) (.slice (some (if n=l.toNat then a else a.add (l.toNat*z))) (n-l.toNat) (n-l.toNat))
 | .pointer (some a),.array n _,z,some (.int _ l),some (.int _ r)=>.cond (0<=l/\l<=r/\r<=(n:Int)) (.slice (some (if n=l.toNat then a else a.add (l.toNat*z))) (r.toNat-l.toNat) (n-l.toNat))
 |_,_,_,_,_=>.bad
def acL(k:IntKind)(a b:Int):BinOp->Rz
 | .add=>.val (.int k (k.wrap (a+b)))
 | .sub=>.val (.int k (k.wrap (a-b)))
 | .mul=>.val (.int k (k.wrap (a*b)))
 | .quo=>.cond (b≠0) (.int k (k.wrap (a.tdiv b)))
 | .rem=>.cond (b≠0) (.int k (a.tmod b))
 | .and=>.val (.int k (k.wrap (qN k.bits a&&&qN k.bits b).toNat))
 | .or=>.val (.int k (k.wrap (qN k.bits a|||qN k.bits b).toNat))
 | .xor=>.val (.int k (k.wrap (qN k.bits a^^^qN k.bits b).toNat))
 | .andNot=>.val (.int k (k.wrap (qN k.bits a&&&~~~qN k.bits b).toNat))
 | .shl=>.cond (0<=b) (.int k (k.wrap (a*2^min b.toNat k.bits)))
 | .shr=>.cond (0<=b) (.int k (a.fdiv (2^min b.toNat k.bits)))
 | .eql=>.val (.bool (a==b))
 | .neq=>.val (.bool (a !=b))
 | .lss=>.val (.bool (decide (a<b)))
 | .leq=>.val (.bool (decide (a<=b)))
 | .gtr=>.val (.bool (decide (a>b)))
 | .geq=>.val (.bool (decide (a>=b)))
def acM(a b:ByteArray):BinOp->Rz
 | .eql=>.val (.bool (a.toList==b.toList))
 | .neq=>.val (.bool (!(a.toList==b.toList)))
 | .lss=>.val (.bool (Op.bytesLess a.toList b.toList))
 | .leq=>.val (.bool (Op.bytesLess a.toList b.toList||a.toList==b.toList))
 | .gtr=>.val (.bool (!(Op.bytesLess a.toList b.toList||a.toList==b.toList)))
 | .geq=>.val (.bool (!(Op.bytesLess a.toList b.toList)))
 | .add=>.cond (((a.size+b.size:Nat):Int)<=xF.max) (.string (a++b))
 |_=>.bad
def acN(a b:Bool):BinOp->Rz
 | .eql=>.val (.bool (a==b))
 | .neq=>.val (.bool (!(a==b)))
 |_=>.bad
def acO(k:FloatKind)(a b:Nat):BinOp->Rz
 | .add=>.ex Nat (λr=>k.format.add a b=some r) (λr=>.float k r)
 | .sub=>.ex Nat (λr=>k.format.sub a b=some r) (λr=>.float k r)
 | .mul=>.ex Nat (λr=>k.format.mul a b=some r) (λr=>.float k r)
 | .quo=>.ex Nat (λr=>k.format.div a b=some r) (λr=>.float k r)
 | .eql=>.val (.bool (k.format.order a b==some .eq))
 | .neq=>.val (.bool (k.format.order a b !=some .eq))
 | .lss=>.val (.bool (k.format.order a b==some .lt))
 | .gtr=>.val (.bool (k.format.order a b==some .gt))
 |_=>.bad
def LD{α:Type}(p:Option α):BinOp->Rz
 | .eql=>.val (.bool p.isNone)
 | .neq=>.val (.bool (!p.isNone))
 |_=>.bad
def acP(P:Program)(k:FloatKind)(op:BinOp)(t:TypeId)(x y:Operand)(a b:Value):BinOp->Rz
 | .eql=>.ex Bool (λr=>kf P op t x y a b (.bool r)) (λr=>.bool r)
 | .neq=>.ex Bool (λr=>kf P op t x y a b (.bool r)) (λr=>.bool r)
 |_=>.ex (Nat×Nat) (λr=>kf P op t x y a b (.complex k r.1 r.2)) (λr=>.complex k r.1 r.2)
def RB(P:Program)(op:BinOp)(t:TypeId)(x y:Operand)(a b:Value):Rz:=.ex Bool (λr=>kf P op t x y a b (.bool r)) (λr=>.bool r)
def acQ(P:Program)(op:BinOp)(t:TypeId)(x:Operand)(p q:Option Addr):Operand->Rz
 | .tmp n=>RB P op t x (.tmp n) (.pointer p) (.pointer q)
 | .const _=>LD p op
 | .global _=>LD p op
 | .func _=>LD p op
def ZW(P:Program)(op:BinOp)(t:TypeId)(x y:Operand):Value->Value->Rz
 | .int k a,.int _ b=>acL k a b op
 | .float k a,.float _ b=>acO k a b op
 | .string a,.string b=>acM a b op
 | .bool a,.bool b=>acN a b op
 | .pointer a,.pointer b=>acQ P op t x a b y
 | .slice a _ _,.slice .. =>LD a op
 | .agg a,.agg b=>RB P op t x y (.agg a) (.agg b)
 | .complex k a b,.complex k' c e=>acP P k op t x y (.complex k a b) (.complex k' c e) op
 |a,.nilIface=>RB P op t x y a .nilIface
 |_,_=>.bad
def acR:UnOp->Value->Rz
 | .not,.bool b=>.val (.bool !b)
 | .neg,.int k n=>.val (.int k (k.wrap (0-n)))
 | .xor,.int k n=>.val (.int k (k.wrap (qN k.bits (if k.signed then-1 else k.max)^^^qN k.bits n).toNat))
 |_,_=>.bad
def acS(s d:TypeId)(v:Value)(a:Ty):mW->mW->Value->Rz
 | .int _,.int k,.int _ n=>.val (.int k (k.wrap n))
 |_,_,_=>.rr (convert s d v) (.one a)
def Qh:Value->List Value
 | .agg cs=>cs.toList
 | .bool b=>[.bool b]
 | .int k n=>[.int k n]
 | .float k n=>[.float k n]
 | .complex k a b=>[.complex k a b]
 | .string s=>[.string s]
 | .pointer a=>[.pointer a]
 | .slice a l c=>[.slice a l c]
 | .map r=>[.map r]
 | .chan r=>[.chan r]
 | .func f a c=>[.func f a c]
 | .nilFunc=>[.nilFunc]
 | .iface t v=>[.iface t v]
 | .nilIface=>[.nilIface]
 | .tuple vs=>[.tuple vs]
def ZX(l:List Value)(o:Nat)(c:List Value):List Value:=pO (LC o l) (pO c (LB (o+XI c) l))
def Uo:mW->Nat->Nat->Nat
 | .struct fs,_,n=>(mJ (0,0) fs n).1
 | .array _ _,z,n=>n*z
 | .int _,_,_| .bool,_,_| .str,_,_| .flt,_,_| .cpx,_,_| .mp,_,_| .fn,_,_| .other,_,_| .slice _,_,_| .ptr _,_,_=>0
def RC(d:mW)(z:Nat):List Value->List (Nat×Value)->List Value
 |l,[]=>l
 |l,(n,v)::r=>RC d z (ZX l (Uo d z n) (Qh v)) r
def acT:Nat->Bool
 |0=>false
 |_+1=>true
def ZY(P:Program)(t:TypeId)(i:TI)(z:Nat)(vs:List (Nat×Value)):Bool->Rz
 |true=>.ex Value (λv=>aF P (xc t vs.toArray) v) (λv=>v)
 |false=>.val (.agg (RC i.cj z i.zero vs).toArray)
def RD:Value->TI->Rz
 | .pointer (some a),i=>.ld a i.ty i.size
 |_,_=>.bad
def Up(a:Array TypeId)(ty:TypeId):Value->Rz
 | .slice _ n _=>.val (.int .i64 n)
 | .string s=>.val (.int .i64 s.size)
 | .map r=>.rr (xr a ty #[.map r]) (.one (.sc (.int .i64)))
 |_=>.bad
def Uq:Value->Rz
 | .slice _ _ n=>.val (.int .i64 n)
 |_=>.bad
def XJ:Bool->List Value->Rz
 |true,[.int k a,.int _ b]=>.val (.int k (if b>a then b else a))
 |false,[.int k a,.int _ b]=>.val (.int k (if b<a then b else a))
 |_,_=>.bad
def RE:Bool->List Value->Rz
 |true,[.complex k a _]=>.val (.float k a)
 |false,[.complex k _ b]=>.val (.float k b)
 |_,_=>.bad
def XK(T:Nat->TI)(t:TypeId):Bool->List Ty->List (TypeId×List Ty)->Rt
 |true,l,_=>.many l
 |false,_,[]=>.one (T t).ty
 |false,_,(k,l)::r=>XK T t (k==t) l r
abbrev RF(T:Nat->TI)(t:TypeId)(l:List (TypeId×List Ty)):Rt:=XK T t false [] l
def ZZ:Value->List Value->Rt->Rz
 | .func (.func g) a c,l,t=>.dy g (a.toList++l++c.toList) t
 |_,_,_=>.bad
def aaa(a:Array TypeId)(ty:TypeId)(vs:List Value):Builtin->Rz
 | .append=>.rr (zD a ty vs.toArray) (.one (.sc .slc))
 | .copy=>.rr (yZ a ty vs.toArray) (.one (.sc (.int .i64)))
 | .clear=>.ru Value (vL a ty vs.toArray)
 | .delete=>.ru Value (Builtin.delete_ a ty vs.toArray)
 | .unsafeString=>.rr (Builtin.unsafeString_ a ty vs.toArray) (.one (.sc .str))
 | .len=>Up a ty (mJ (.tuple #[]) vs 0)
 | .cap=>Uq (mJ (.tuple #[]) vs 0)
 | .min=>XJ false vs
 | .max=>XJ true vs
 | .real=>RE true vs
 | .imag=>RE false vs
 |_=>.bad
def aab(T:Nat->TI)(tup:List (TypeId×List Ty))(ρ:Ev)(ty:TypeId)(vs:List Value)(a:Array TypeId):Callee->Rz
 | .value (.func f)=>.ca f vs (RF T ty tup)
 | .value (.tmp t)=>ZZ (Fk ρ t) vs (RF T ty tup)
 | .builtin b=>aaa a ty vs b
 |_=>.bad
def aac(P:Program)(T:Nat->TI)(tup:List (TypeId×List Ty))(ty:TypeId)(ρ:Ev):Op->Rz
 | .move x=>.val (eO ρ x)
 | .assign x=>.val (eO ρ x)
 | .pick c a b=>acD (eO ρ c) (eO ρ a) (eO ρ b)
 | .nilCheck x=>acE (eO ρ x)
 | .fieldAddr s x f=>acF (eO ρ x) (Ry (T s).cj f).1
 | .indexAddr t x i=>acG (eO ρ x) (eO ρ i) (T t).cj (T (Gu (T t).cj)).size
 | .index t x i=>acH (eO ρ x) (eO ρ i) (T t).cj (T (Gu (T t).cj)).ty
 | .field s x f=>acI (eO ρ x) (Ry (T s).cj f).1 (T (Ry (T s).cj f).2)
 | .slice t x Fl hi none=>acK (eO ρ x) (T t).cj (T (Gu (T t).cj)).size (Gt ρ Fl) (Gt ρ hi)
 | .slice t x Fl hi (some m)=>.rr (yt t (eO ρ x) (Gt ρ Fl) (Gt ρ hi) (some (eO ρ m))) (.one (.sc .slc))
 | .extract x n=>acJ (eO ρ x) n
 | .binOp op t x y _=>ZW P op t x y (eO ρ x) (eO ρ y)
 | .unOp op _ x=>acR op (eO ρ x)
 | .convert s d x=>acS s d (eO ρ x) (T ty).ty (T s).cj (T d).cj (eO ρ x)
 | .build t ps=>ZY P t (T t) (T (Gu (T t).cj)).size (Lc ρ ps.toList) (acT ((T t).size-24))
 | .makeFunc f a c=>.val (.func f (Gs ρ a.toList).toArray (Gs ρ c.toList).toArray)
 | .load t x=>RD (eO ρ x) (T t)
 | .store t a x=>.ru Unit (qE t (eO ρ a) (eO ρ x))
 | .alloc t=>.ra (w7 t true (.tuple #[]))
 | .box t x=>.ra (vq t (eO ρ x))
 | .makeSlice t l c=>.rr (zt t (eO ρ l) (eO ρ c)) (.one (.sc .slc))
 | .buildSlice t n ps=>.rr (zG t n (Lc ρ ps.toList).toArray) (.one (.sc .slc))
 | .makeMap t none=>.rr (vz t none) (.one (.sc .mp))
 | .lookup t x i ok=>.rr (Instr.lookup t (eO ρ x) (eO ρ i) ok) (RF T ty tup)
 | .mapUpdate t m k x=>.ru Unit (yD t (eO ρ m) (eO ρ k) (eO ρ x))
 | .insert t m k x=>.ru Unit (yD t (eO ρ m) (eO ρ k) (eO ρ x))
 | .call ⟨c,as,tys⟩=>aab T tup ρ ty (Gs ρ as.toList) tys c
 |_=>.bad
inductive Kt:Type 1 where
 |top (rs:List ResultVar)
 |seq (c:Code) (a:bZ) (k:Kt)
 |eV (id:Nat) (k:Kt)
 |jn (σ:di) (K:σ.den->Heap->Prop) (k:Kt)
 |back (l:Nat) (σ:di) (K:σ.den->Heap->Prop) (k:Kt)
 |lst (cs:List Code) (as:List bZ) (k:Kt)
 |jmp (c:Code) (fwd:List (Nat×List bZ)) (k:Kt)
 |hd (l:Nat) (σ:di) (r:List Code) (as:List bZ) (fwd:List (Nat×List bZ)) (c:Code) (k:Kt)
def LF:bZ->bZ
 | .two a _=>a
 | .n| .inn _| .loop .. | .join .. | .scope .. | .fwd .. =>.n
def LG:bZ->bZ
 | .two _ b=>b
 | .n| .inn _| .loop .. | .join .. | .scope .. | .fwd .. =>.n
def Ur:bZ->bZ
 | .inn a=>a
 | .n| .two .. | .loop .. | .join .. | .scope .. | .fwd .. =>.n
def aad(a b:Code):Option (List Code×List Code)->Option (List Code×List Code)->Option (List Code×List Code)
 |some (p,r),_=>some (p,pO r [b])
 |none,some (p,r)=>some (a::p,r)
 |none,none=>none
def aae:Bool->Option (List Code×List Code)
 |true=>some ([],[])
 |false=>none
def Gv:Code->Nat->Option (List Code×List Code)
 | .seq a b,l=>aad a b (Gv a l) (Gv b l)
 | .label k,l=>aae (k==l)
 | .skip,_| .region ..,_| .cond ..,_| .block ..,_| .loop _,_| .rangeFunc ..,_| .exit _,_| .scope _,_| .goto _,_| .ret,_| .refuse _,_=>none
def RG:Bool->List bZ->List (Nat×List bZ)->Nat->Option (List bZ)
 |true,x,_,_=>some x
 |false,_,[],_=>none
 |false,_,(k,x)::r,l=>RG (k==l) x r l
abbrev aaf(w:List (Nat×List bZ))(l:Nat):Option (List bZ):=RG false [] w l
def Gw:(s:Sc)->Value->Option s.den
 | .int _,.int _ n=>some n
 | .bool,.bool x=>some x
 | .str,.string x=>some x
 | .ptr,.pointer a=>some a
 | .slc,.slice a l c=>some ⟨a,l,c⟩
 | .flt _,.float _ n=>some n
 | .cpx _,.complex _ a b=>some (a,b)
 | .mp,.map r=>some r
 | .fn,.func (.func g) f c=>some (g,f,c)
 | .any,v=>some v
 | .adr,.pointer (some a)=>some a
 |_,_=>none
def XL{α β:Type}:Option α->Option β->Option (α×β)
 |some a,some b=>some (a,b)
 |some _,none=>none
 |none,_=>none
def Ir:(l:List Sc)->List Value->Option (uX l)
 |[],_=>some ()
 |[s],[v]=>Gw s v
 |s::t::r,v::vs=>XL (Gw s v) (Ir (t::r) vs)
 |_::_,_=>none
def LH:(t:Ty)->Value->Option t.den
 | .sc s,v=>Gw s v
 | .agg l,.agg cs=>Ir l cs.toList
 |_,_=>none
def Is:(σ:di)->Ev->Option σ.den
 |[],_=>some ()
 |[(t,y)],ρ=>LH y (Fk ρ t)
 |(t,y)::x::r,ρ=>XL (LH y (Fk ρ t)) (Is (x::r) ρ)
def Gx:(σ:di)->σ.den->Ev->Ev
 |[],_,ρ=>ρ
 |[(t,y)],x,ρ=>.val t (y.enc x)::ρ
 |(t,y)::z::r,x,ρ=>.val t (y.enc x.1)::Gx (z::r) x.2 ρ
def XM{α:Type}(K:α->Heap->Prop)(h:Heap):Option α->Prop
 |some s=>K s h
 |none=>False
def It{σ:Type}(B:σ->(σ->Heap->Prop)->Heap->Prop)(h:Heap):Option σ->Prop
 |some s=>gm B s h
 |none=>False
inductive Hd where
 |l (c:bH)
 |a (a:Addr) (vs:List Value)
abbrev Hi:=List (Nat×Hd)
def Gy:List Oper->Nat->List (Nat×Oper)
 |[],_=>[]
 |o::r,n=>(n,o)::Gy r (n+1)
def Gz(l:List (Nat×Oper)):List Nat->List (Nat×Oper)
 |[]=>[]
 |n::r=>mJ (0,⟨none,.ready 0,0, "",#[],none⟩) l n::Gz l r
inductive Sd where
 |l (ns:List Nat)
 |y (ns:List Nat) (a b:Sd)
def XN(id:Nat):Bool->Sd->List (Nat×Sd)->Option Sd
 |true,x,_=>some x
 |false,_,[]=>none
 |false,_,(k,x)::r=>XN id (k==id) x r
def XO:Nat×Oper->Nat
 |(_,⟨some d,_,_,_,_,_⟩)=>d
 |(_,⟨none,_,_,_,_,_⟩)=>0
def aag:Ground->Bool
 | .data| .chain| .guard| .phase=>true
 | .textOnly _| .gcOnly _=>false
def XP:List Edge->Nat->Bool
 |[],_=>false
 |⟨n,g⟩::r,i=>XH (acB (aag g) (n==i)) (XP r i)
def RH:Bool->Nat×Hd->Hi->Hi
 |true,_,r=>r
 |false,p,r=>p::r
def LI(e:List Edge):Hi->Hi
 |[]=>[]
 |p::r=>RH (XP e p.1) p (LI e r)
def Ld:Hi->bH
 |[]=>[]
 |(_,.l c)::r=>pO c (Ld r)
 |(_,.a x vs)::r=>nw x 0 vs (Ld r)
def Fm(e:List Edge)(L:Hi)(h:Heap):Bool->Prop->Prop
 |true,X=>bH.ok (Ld (LI e L)) h/\X
 |false,X=>X
def aah(e:List Edge)(L:Hi):Bool->Hi
 |true=>LI e L
 |false=>L
def Iu(e:List Edge)(L:Hi):Bool->Hi
 |true=>LI e L
 |false=>[]
def nz:Option Tmp->Value->Ev->Ev
 |some d,v,ρ=>.val d v::ρ
 |none,_,ρ=>ρ
def RI(dr:Bool)(n:Nat)(c:Hd)(L:Hi):Hi:=RH (Rw dr) (n,c) L
def XQ(a:Addr):Nat->List Value->bH
 |_,[]=>[]
 |n,v::r=>(a.add n,v)::XQ a (n+1) r
def RJ:Ty->Bool
 | .sc .slc=>true
 |_=>false
def RK(T:Nat->TI):Op->Bool
 | .convert s d _=>Rw (XH (RJ (T s).ty) (RJ (T d).ty))
 | .move _| .assign _| .pick .. | .nilCheck _| .fieldAddr .. | .indexAddr .. | .index .. | .field .. | .extract .. | .binOp .. | .unOp .. | .build .. | .makeFunc .. | .load .. =>true
 | .slice _ _ _ _ none=>true
 | .call ⟨.builtin .len,_,_⟩| .call ⟨.builtin .cap,_,_⟩| .call ⟨.builtin .min,_,_⟩| .call ⟨.builtin .max,_,_⟩| .call ⟨.builtin .real,_,_⟩| .call ⟨.builtin .imag,_,_⟩=>true
 |_=>false
inductive Al where
 |n
 |y (a b:Sd)
structure Rg where
 all:List (Nat×Oper)
 dr:Bool
 al:Al
inductive St:Type 1 where
 |ex (c:Code) (a:bZ) (k:Kt) (ρ:Ev)
 |e2 (c:Code) (a:bZ) (k:Kt) (ρ:Ev)
 |cd (v:Value) (c d:Code) (a:bZ) (k:Kt) (ρ:Ev)
 |ap (e:Exit) (k:Kt) (ρ:Ev)
 |bX (b:Bool) (x y:St)
 |fin (σ:di) (K:σ.den->Heap->Prop) (ρ:Ev)
 |jp (o:Option (List bZ)) (q:Option (List Code×List Code)) (l:Nat) (c:Code) (fwd:List (Nat×List bZ)) (k:Kt) (ρ:Ev)
 |sc (q:Option (List Code×List Code)) (l:Nat) (σ:di) (pre rest:List bZ) (fwd:List (Nat×List bZ)) (c:Code) (k:Kt) (ρ:Ev)
 |rg (os:List (Nat×Oper)) (r:Rg) (L:Hi) (k:Kt) (ρ:Ev)
 |so (o:Option Sd) (all:List (Nat×Oper)) (k:Kt) (ρ:Ev)
 |st (s:Sd) (all:List (Nat×Oper)) (dr:Bool) (L:Hi) (k:Kt) (ρ:Ev)
 |gd (g:Gd) (w:Bool) (d n:Nat) (o:Oper) (os:List (Nat×Oper)) (r:Rg) (L:Hi) (k:Kt) (ρ:Ev)
 |on (n:Nat) (o:Oper) (os:List (Nat×Oper)) (r:Rg) (L:Hi) (k:Kt) (ρ:Ev)
 |sk (n:Nat) (o:Oper) (os:List (Nat×Oper)) (r:Rg) (L:Hi) (k:Kt) (ρ:Ev)
 |rs (z:Rz) (n:Nat) (d:Option Tmp) (e:List Edge) (os:List (Nat×Oper)) (r:Rg) (L:Hi) (k:Kt) (ρ:Ev)
 |re (rs:List ResultVar) (acc:List Value) (ρ:Ev)
 |rl (z:Rz) (rs:List ResultVar) (acc:List Value) (ρ:Ev)
def aZ(C:Ctx)(T:Nat->TI)(S:List (Nat×Sd))(R:Value->Heap->Prop):Nat->St->Heap->Prop
 |0,_,_=>False
 |f+1,.ex c (.join σ _ a) k ρ,h=>np (λs h=>aZ C T S R f (.ap .normal k (Gx σ s ρ)) h) (λK=>aZ C T S R f (.e2 c a (.jn σ K k) ρ) h)
 |f+1,.ex c .n k ρ,h=>aZ C T S R f (.e2 c .n k ρ) h
 |f+1,.ex c (.two a b) k ρ,h=>aZ C T S R f (.e2 c (.two a b) k ρ) h
 |f+1,.ex c (.inn a) k ρ,h=>aZ C T S R f (.e2 c (.inn a) k ρ) h
 |f+1,.ex c (.loop σ κ a) k ρ,h=>aZ C T S R f (.e2 c (.loop σ κ a) k ρ) h
 |f+1,.ex c (.scope l σ κ p r w) k ρ,h=>aZ C T S R f (.e2 c (.scope l σ κ p r w) k ρ) h
 |f+1,.ex c (.fwd a w) k ρ,h=>aZ C T S R f (.e2 c (.fwd a w) k ρ) h
 |f+1,.e2 .skip _ k ρ,h=>aZ C T S R f (.ap .normal k ρ) h
 |f+1,.e2 (.label _) _ k ρ,h=>aZ C T S R f (.ap .normal k ρ) h
 |f+1,.e2 (.region id ops true) _ k ρ,h=>aZ C T S R f (.so (XN id false (.l []) S) (Gy ops.toList 0) k ρ) h
 |f+1,.e2 (.region _ ops false) _ k ρ,h=>aZ C T S R f (.rg (Gy ops.toList 0) ⟨Gy ops.toList 0,false,.n⟩ [] k ρ) h
 |f+1,.e2 (.seq x y) a k ρ,h=>aZ C T S R f (.ex x (LF a) (.seq y (LG a) k) ρ) h
 |f+1,.e2 (.cond x c d) a k ρ,h=>aZ C T S R f (.cd (eO ρ x) c d a k ρ) h
 |f+1,.e2 (.block id c) a k ρ,h=>aZ C T S R f (.ex c (Ur a) (.eV id k) ρ) h
 |f+1,.e2 (.exit id) _ k ρ,h=>aZ C T S R f (.ap (.exit id) k ρ) h
 |f+1,.e2 (.goto l) _ k ρ,h=>aZ C T S R f (.ap (.goto l) k ρ) h
 |f+1,.e2 .ret _ k ρ,h=>aZ C T S R f (.ap .ret k ρ) h
 |f+1,.e2 (.loop c) (.loop σ _ a) k ρ,h=>It (λs K h=>aZ C T S R f (.ex c a (.jn σ K k) (Gx σ s ρ)) h) h (Is σ ρ)
 |f+1,.e2 (.scope c) (.scope l σ _ pre rest fwd) k ρ,h=>aZ C T S R f (.sc (Gv c l) l σ pre rest fwd c k ρ) h
 |f+1,.e2 (.scope c) (.fwd a fwd) k ρ,h=>aZ C T S R f (.ex c a (.jmp c fwd k) ρ) h
 |f+1,.cd (.bool t) c d a k ρ,h=>Br t (aZ C T S R f (.ex c (LF a) k ρ) h) (aZ C T S R f (.ex d (LG a) k ρ) h)
 |f+1,.sc (some (p,r)) l σ pre rest fwd c k ρ,h=>aZ C T S R f (.ap .normal (.lst p pre (.hd l σ r rest fwd c k)) ρ) h
 |f+1,.bX true x _,h=>aZ C T S R f x h
 |f+1,.bX false _ y,h=>aZ C T S R f y h
 |f+1,.fin σ K ρ,h=>XM K h (Is σ ρ)
 |f+1,.jp (some xs) (some (_,r)) _ c fwd k ρ,h=>aZ C T S R f (.ap .normal (.lst r xs (.jmp c fwd k)) ρ) h
 |f+1,.jp none _ l _ _ k ρ,h=>aZ C T S R f (.ap (.goto l) k ρ) h
 |f+1,.ap .normal (.top rs) ρ,h=>aZ C T S R f (.re rs [] ρ) h
 |f+1,.ap .ret (.top rs) ρ,h=>aZ C T S R f (.re rs [] ρ) h
 |f+1,.ap .normal (.seq c a k) ρ,h=>aZ C T S R f (.ex c a k ρ) h
 |f+1,.ap (.exit i) (.seq _ _ k) ρ,h=>aZ C T S R f (.ap (.exit i) k ρ) h
 |f+1,.ap (.goto i) (.seq _ _ k) ρ,h=>aZ C T S R f (.ap (.goto i) k ρ) h
 |f+1,.ap .ret (.seq _ _ k) ρ,h=>aZ C T S R f (.ap .ret k ρ) h
 |f+1,.ap .normal (.eV _ k) ρ,h=>aZ C T S R f (.ap .normal k ρ) h
 |f+1,.ap (.exit i) (.eV id k) ρ,h=>aZ C T S R f (.bX (i==id) (.ap .normal k ρ) (.ap (.exit i) k ρ)) h
 |f+1,.ap (.goto i) (.eV _ k) ρ,h=>aZ C T S R f (.ap (.goto i) k ρ) h
 |f+1,.ap .ret (.eV _ k) ρ,h=>aZ C T S R f (.ap .ret k ρ) h
 |f+1,.ap .normal (.jn σ K _) ρ,h=>XM K h (Is σ ρ)
 |f+1,.ap (.exit i) (.jn _ _ k) ρ,h=>aZ C T S R f (.ap (.exit i) k ρ) h
 |f+1,.ap (.goto i) (.jn _ _ k) ρ,h=>aZ C T S R f (.ap (.goto i) k ρ) h
 |f+1,.ap .ret (.jn _ _ k) ρ,h=>aZ C T S R f (.ap .ret k ρ) h
 |f+1,.ap .normal (.back _ _ _ k) ρ,h=>aZ C T S R f (.ap .normal k ρ) h
 |f+1,.ap (.exit i) (.back _ _ _ k) ρ,h=>aZ C T S R f (.ap (.exit i) k ρ) h
 |f+1,.ap (.goto i) (.back l σ K k) ρ,h=>aZ C T S R f (.bX (i==l) (.fin σ K ρ) (.ap (.goto i) k ρ)) h
 |f+1,.ap .ret (.back _ _ _ k) ρ,h=>aZ C T S R f (.ap .ret k ρ) h
 |f+1,.ap .normal (.lst [] _ k) ρ,h=>aZ C T S R f (.ap .normal k ρ) h
 |f+1,.ap .normal (.lst (c::cs) [] k) ρ,h=>aZ C T S R f (.ex c .n (.lst cs [] k) ρ) h
 |f+1,.ap .normal (.lst (c::cs) (x::xs) k) ρ,h=>aZ C T S R f (.ex c x (.lst cs xs k) ρ) h
 |f+1,.ap (.exit i) (.lst _ _ k) ρ,h=>aZ C T S R f (.ap (.exit i) k ρ) h
 |f+1,.ap (.goto i) (.lst _ _ k) ρ,h=>aZ C T S R f (.ap (.goto i) k ρ) h
 |f+1,.ap .ret (.lst _ _ k) ρ,h=>aZ C T S R f (.ap .ret k ρ) h
 |f+1,.ap .normal (.jmp _ _ k) ρ,h=>aZ C T S R f (.ap .normal k ρ) h
 |f+1,.ap (.exit i) (.jmp _ _ k) ρ,h=>aZ C T S R f (.ap (.exit i) k ρ) h
 |f+1,.ap (.goto l) (.jmp c fwd k) ρ,h=>aZ C T S R f (.jp (aaf fwd l) (Gv c l) l c fwd k ρ) h
 |f+1,.ap .ret (.jmp _ _ k) ρ,h=>aZ C T S R f (.ap .ret k ρ) h
 |f+1,.ap .normal (.hd l σ r as fwd c k) ρ,h=>It (λs K h=>aZ C T S R f (.ap .normal (.lst r as (.jmp c fwd (.back l σ K k))) (Gx σ s ρ)) h) h (Is σ ρ)
 |f+1,.ap (.exit i) (.hd _ _ _ _ _ _ k) ρ,h=>aZ C T S R f (.ap (.exit i) k ρ) h
 |f+1,.ap (.goto i) (.hd _ _ _ _ _ _ k) ρ,h=>aZ C T S R f (.ap (.goto i) k ρ) h
 |f+1,.ap .ret (.hd _ _ _ _ _ _ k) ρ,h=>aZ C T S R f (.ap .ret k ρ) h
 |f+1,.so none all k ρ,h=>aZ C T S R f (.rg all ⟨all,true,.n⟩ [] k ρ) h
 |f+1,.so (some s) all k ρ,h=>aZ C T S R f (.st s all true [] k ρ) h
 |f+1,.st (.l ns) all dr L k ρ,h=>aZ C T S R f (.rg (Gz all ns) ⟨all,dr,.n⟩ L k ρ) h
 |f+1,.st (.y ns a b) all dr L k ρ,h=>aZ C T S R f (.rg (Gz all ns) ⟨all,dr,.y a b⟩ L k ρ) h
 |f+1,.rg [] ⟨_,_,.n⟩ _ k ρ,h=>aZ C T S R f (.ap .normal k ρ) h
 |f+1,.rg [] ⟨all,dr,.y a b⟩ L k ρ,h=>aZ C T S R f (.st a all dr L k ρ) h/\aZ C T S R f (.st b all dr L k ρ) h
 |f+1,.rg ((n,⟨d,o,t,p,e,none⟩)::os) r L k ρ,h=>aZ C T S R f (.on n ⟨d,o,t,p,e,none⟩ os r L k ρ) h
 |f+1,.rg ((n,⟨d,o,t,p,e,some (j,w)⟩)::os) r L k ρ,h=>aZ C T S R f (.gd (acA ρ (XO (mJ (0,⟨none,.ready 0,0, "",#[],none⟩) r.all j))) w (XO (mJ (0,⟨none,.ready 0,0, "",#[],none⟩) r.all j)) n ⟨d,o,t,p,e,some (j,w)⟩ os r L k ρ) h
 |f+1,.gd (.k 0) true _ n o os r L k ρ,h=>aZ C T S R f (.sk n o os r L k ρ) h
 |f+1,.gd (.k 0) false _ n o os r L k ρ,h=>aZ C T S R f (.on n o os r L k ρ) h
 |f+1,.gd (.k (_+1)) true _ n o os r L k ρ,h=>aZ C T S R f (.on n o os r L k ρ) h
 |f+1,.gd (.k (_+1)) false _ n o os r L k ρ,h=>aZ C T S R f (.sk n o os r L k ρ) h
 |f+1,.gd (.v (.tuple _)) _ _ n o os r L k ρ,h=>aZ C T S R f (.sk n o os r L k ρ) h
 |f+1,.gd (.v (.bool b)) true d n o os r L k ρ,h=>Br b (aZ C T S R f (.on n o os r L k (.tf d 1::ρ)) h) (aZ C T S R f (.sk n o os r L k (.tf d 0::ρ)) h)
 |f+1,.gd (.v (.bool b)) false d n o os r L k ρ,h=>Br b (aZ C T S R f (.sk n o os r L k (.tf d 1::ρ)) h) (aZ C T S R f (.on n o os r L k (.tf d 0::ρ)) h)
 |f+1,.on n ⟨d,o,t,_,e,_⟩ os r L k ρ,h=>aZ C T S R f (.rs (aac C.P T C.tup t ρ o) n d e.toList os r L k ρ) h
 |f+1,.sk _ ⟨d,o,_,_,e,_⟩ os r L k ρ,h=>Fm e.toList L h (Fl r.dr (RK T o)) (aZ C T S R f (.rg os r (aah e.toList L (Fl r.dr (RK T o))) k (nz d undef ρ)) h)
 |f+1,.rs (.val v) _ d _ os r L k ρ,h=>aZ C T S R f (.rg os r L k (nz d v ρ)) h
 |f+1,.rs (.cond c v) _ d _ os r L k ρ,h=>c/\aZ C T S R f (.rg os r L k (nz d v ρ)) h
 |f+1,.rs (.ex X c v) _ d _ os r L k ρ,h=>∃x:X,c x/\aZ C T S R f (.rg os r L k (nz d (v x) ρ)) h
 |f+1,.rs (.br b x y) _ d _ os r L k ρ,h=>Br b (aZ C T S R f (.rg os r L k (nz d x ρ)) h) (aZ C T S R f (.rg os r L k (nz d y ρ)) h)
 |f+1,.rs (.ld a (.sc s) _) n d _ os r L k ρ,h=>∃x:s.den,cellOf h a=some (s.enc x)/\aZ C T S R f (.rg os r (RI r.dr n (.l [(a,s.enc x)]) L) k (nz d (s.enc x) ρ)) h
 |f+1,.rs (.ld a (.agg l) _) n d _ os r L k ρ,h=>∃x:uX l,ba h a 0 (mX l x)/\aZ C T S R f (.rg os r (RI r.dr n (.l (XQ a 0 (mX l x))) L) k (nz d (.agg (mX l x).toArray) ρ)) h
 |f+1,.rs (.ld a (.arr s) m) n d _ os r L k ρ,h=>∃x:List s.den,(x.length=m/\ba h a 0 (x.map s.enc))/\aZ C T S R f (.rg os r (RI r.dr n (.a a (x.map s.enc)) L) k (nz d (.agg (x.map s.enc).toArray) ρ)) h
 |f+1,.rs (.ru _ s) _ d e os r L k ρ,h=>aj C.P s h λ_ h'=>Fm e L h' r.dr (aZ C T S R f (.rg os r (Iu e L r.dr) k (nz d undef ρ)) h')
 |f+1,.rs (.ra s) _ d e os r L k ρ,h=>oh C.P s h λa h'=>Fm e L h' r.dr (aZ C T S R f (.rg os r (Iu e L r.dr) k (nz d (.pointer (some a)) ρ)) h')
 |f+1,.rs (.rr s t) _ d e os r L k ρ,h=>bG C.P s t h λx h'=>Fm e L h' r.dr (aZ C T S R f (.rg os r (Iu e L r.dr) k (nz d (t.enc x) ρ)) h')
 |f+1,.rs (.ca g l t) _ d e os r L k ρ,h=>ol C.P g l.toArray t h λx h'=>Fm e L h' r.dr (aZ C T S R f (.rg os r (Iu e L r.dr) k (nz d (t.enc x) ρ)) h')
 |f+1,.rs (.dy g l t) _ d e os r L k ρ,h=>sX C g l t h λx h'=>Fm e L h' r.dr (aZ C T S R f (.rg os r (Iu e L r.dr) k (nz d (t.enc x) ρ)) h')
 |f+1,.re [] [] _,h=>R (.tuple #[]) h
 |f+1,.re [] [v] _,h=>R v h
 |f+1,.re [] (v::w::r) _,h=>R (.tuple (v::w::r).toArray) h
 |f+1,.re (.tmp t::r) acc ρ,h=>aZ C T S R f (.re r (pO acc [Fk ρ t]) ρ) h
 |f+1,.re (.cell a t::r) acc ρ,h=>aZ C T S R f (.rl (RD (Fk ρ a) (T t)) r acc ρ) h
 |f+1,.rl (.ld a (.sc s) _) r acc ρ,h=>∃x:s.den,cellOf h a=some (s.enc x)/\aZ C T S R f (.re r (pO acc [s.enc x]) ρ) h
 |f+1,.rl (.ld a (.agg l) _) r acc ρ,h=>∃x:uX l,ba h a 0 (mX l x)/\aZ C T S R f (.re r (pO acc [.agg (mX l x).toArray]) ρ) h
 |f+1,.rl (.ld a (.arr s) m) r acc ρ,h=>∃x:List s.den,(x.length=m/\ba h a 0 (x.map s.enc))/\aZ C T S R f (.re r (pO acc [.agg (x.map s.enc).toArray]) ρ) h
 |_+1,_,_=>False
def RL:Nat->List Value->Ev
 |_,[]=>[]
 |n,v::r=>.val n v::RL (n+1) r
theorem aeI{α:Type}(l:List α):(l.toArray).toList=l:=rfl
theorem aeJ(a:Addr):a.add 0=a:=rfl
theorem aeK(s:Sl):Sl.mk s.ptr s.len s.cap=s:=rfl
theorem acU(A B:Prop):Br true A B=A:=rfl
theorem acV(A B:Prop):Br false A B=B:=rfl
end Rk
abbrev bY:=List (List UInt8)
abbrev aM:=List UInt8
abbrev bP:=List (List Int)
abbrev au:=List Int
abbrev bK:=Option Go.Addr
abbrev aR:=List Go.Value
abbrev rI:=Go.Value->Qw.Heap->Prop
abbrev Iv:=Go.FuncId×Array Go.Value×Array Go.Value
abbrev bZ.tn(a:Qw.bZ):Qw.bZ:=.two .n a
universe u
theorem g0{c:Prop}{h:Decidable c}(hc:c){α:Sort u}{t e:α}:ite c t e=t:=if_pos hc
theorem g9{c:Prop}{h:Decidable c}(hnc:¬c){α:Sort u}{t e:α}:ite c t e=e:=if_neg hnc
theorem hU{p:Prop}[inst:Decidable p]:p->decide p=true:=decide_eq_true
theorem hZ{p:Prop}[inst:Decidable p]:¬p->decide p=false:=decide_eq_false
theorem ii{p:Prop}[inst:Decidable p]:decide p=true->p:=of_decide_eq_true
theorem i4{α:Sort u}{a:α}:a=a:=rfl
theorem i5{p:Prop}(h:p:=by omega):p:=h
theorem i6{p:Prop}(h:p:=by decide):p:=h
theorem i7{p:Prop}(h:p:=by dsimp only;omega):p:=h
theorem i9{p:Prop}(h:p:=by simp;omega):p:=h
theorem jj{p:Prop}(h:p:=by simp):p:=h
theorem js{p:Prop}(h:p:=by dsimp only;rw[af _];rfl):p:=h
theorem j0{p:Prop}(h:p:=by rw[af _];rfl):p:=h
theorem j1{p:Prop}(h:p:=by cases e):p:=h
theorem j3{p:Prop}(h:p:=by kernel_rfl):p:=h
theorem j4{p:Prop}(h:p:=by decide+kernel):p:=h
theorem j5{p:Prop}(h:p:=by rw[af _];omega):p:=h
theorem j6{p:Prop}(h:p:=by simpa using h):p:=h
theorem j7{p:Prop}(h:p:=by cases h):p:=h
theorem j8{p:Prop}(h:p:=by rw[addr_add];exact hb.cell i4):p:=h
theorem j9{p:Prop}(h:p:=by simpa using a):p:=h
theorem kt{p:Prop}(h:p:=by simpa using b):p:=h
theorem k7{p:Prop}(h:p:=by simp[Value.cells]):p:=h
theorem k8{p:Prop}(h:p:=by simp[aG]):p:=h
theorem k9{p:Prop}(h:p:=by rw[bM];omega):p:=h
theorem lb{p:Prop}(h:p:=by rfl):p:=h
theorem ln{p:Prop}(h:p:=by simp[fk]):p:=h
theorem lz{p:Prop}(h:p:=by dsimp only;simp;omega):p:=h
theorem l0{p:Prop}(h:p:=by simp[bJ];omega):p:=h
theorem l4{p:Prop}(h:p:=by simpa using H):p:=h
theorem l5{p:Prop}(h:p:=by simp[c]):p:=h
theorem l6{p:Prop}(h:p:=by simp at d;omega):p:=h
theorem l7{p:Prop}(h:p:=by simpa using g):p:=h
theorem l9{p:Prop}(h:p:=by rw[q7];omega):p:=h
theorem mn{p:Prop}(h:p:=by simpa using e):p:=h
theorem m0{p:Prop}(h:p:=by simp at h):p:=h
theorem m4{p:Prop}(h:p:=by rw[e1];decide):p:=h
theorem m5{p:Prop}(h:p:=by simp[cm];omega):p:=h
theorem m6{p:Prop}(h:p:=by simp[a]):p:=h
theorem m7{p:Prop}(h:p:=by rw[qP];omega):p:=h
theorem m8{p:Prop}(h:p:=by simp[dC];omega):p:=h
theorem m9{p:Prop}(h:p:=by simp[dq];omega):p:=h
theorem nn{p:Prop}(h:p:=by unfold iG;rw[o.refl];rfl):p:=h
theorem nq{p:Prop}(h:p:=by rw[<-y];exact w.cell0 i4):p:=h
theorem n0{p:Prop}(h:p:=by simp[gX]):p:=h
theorem n3{p:Prop}(h:p:=by simpa using e2):p:=h
theorem n4{p:Prop}(h:p:=by rw[rz d];omega):p:=h
theorem n5{p:Prop}(h:p:=by simp[b]):p:=h
theorem n7{p:Prop}(h:p:=by rw[qg (qk _)]):p:=h
theorem n8{p:Prop}(h:p:=by unfold fz;simp;omega):p:=h
theorem n9{p:Prop}(h:p:=by assumption):p:=h
theorem oi{p:Prop}(h:p:=by rw[e];rfl):p:=h
theorem oj{p:Prop}(h:p:=by simp at c;omega):p:=h
theorem oo{p:Prop}(h:p:=by rw[e,ha,hb];decide):p:=h
theorem o0{p:Prop}(h:p:=by rw[l]):p:=h
theorem o1{p:Prop}(h:p:=by simp[g]):p:=h
theorem o4{p:Prop}(h:p:=by simpa using d):p:=h
theorem o5{p:Prop}(h:p:=by simpa using j):p:=h
theorem o6{p:Prop}(h:p:=by rw[wrap_u64];omega):p:=h
theorem o7{p:Prop}(h:p:=by simpa using f):p:=h
theorem o8{p:Prop}(h:p:=by simp[cm]):p:=h
theorem o9{p:Prop}(h:p:=by simpa using u):p:=h
theorem pa{p:Prop}(h:p:=by simpa using c):p:=h
theorem pb{p:Prop}(h:p:=by simpa using q):p:=h
theorem pt{p:Prop}(h:p:=by rw[t];rfl):p:=h
theorem p0{p:Prop}(h:p:=by simp[f]):p:=h
theorem p5{p:Prop}(h:p:=by simp[e]):p:=h
theorem p6{p:Prop}(h:p:=by simp[ic];omega):p:=h
theorem p7{p:Prop}(h:p:=by simp[fE];omega):p:=h
theorem p8{p:Prop}(h:p:=by rw[hZ b];rfl):p:=h
theorem p9{p:Prop}(h:p:=by simpa using o):p:=h
theorem qa{p:Prop}(h:p:=by rw[ok.la];omega):p:=h
theorem qb{p:Prop}(h:p:=by rw[J];exact E):p:=h
theorem qs{p:Prop}(h:p:=by cases a):p:=h
theorem q0{p:Prop}(h:p:=by rw[qy];omega):p:=h
theorem q6{p:Prop}(h:p:=by rw[a];rfl):p:=h
theorem rb{p:Prop}(h:p:=by rw[lu];omega):p:=h
theorem rc{p:Prop}(h:p:=by rw[gK];omega):p:=h
theorem sb{p:Prop}(h:p:=by simpa using p):p:=h
theorem sp{p:Prop}(h:p:=by rw[e,d];rfl):p:=h
theorem sz{p:Prop}(h:p:=by rw[K];decide):p:=h
theorem sL{p:Prop}(h:p:=by simp[h]):p:=h
theorem sR{p:Prop}(h:p:=by simpa using i):p:=h
abbrev qk:=@Nat.le_refl
abbrev qu:=@Bool.and_eq_true
abbrev zb:=@Bool.false_eq_true
abbrev wv:=@Bool.or_eq_true
abbrev zp:=@List.cons_append
abbrev ql:=@List.getElem?_eq_some_iff
abbrev qO:=@List.getElem?_map
abbrev zc:=@List.length_cons
abbrev zP:=@List.mem_append_right
abbrev qX:=@List.mem_cons
abbrev qz:=@List.mem_cons_of_mem
abbrev qF:=@List.mem_cons_self
abbrev qx:=@List.mem_singleton
abbrev qS:=@Option.map_some
abbrev wY:=@Nat.add_assoc
abbrev zk:=@Nat.add_sub_cancel_left
abbrev wJ:=@Nat.add_zero
abbrev qY:=@Nat.le_trans
abbrev qR:=@Nat.lt_of_lt_of_le
abbrev zi:=@Nat.lt_succ_iff_lt_or_eq
abbrev yd:=@Nat.lt_trichotomy
abbrev yj:=@Nat.min_eq_left
abbrev yK:=@Nat.mod_lt
abbrev wi:=@Nat.mul_le_mul
abbrev zq:=@Nat.mul_le_mul_right
abbrev qZ:=@Nat.sub_self
abbrev zI:=@Nat.succ_mul
abbrev we:=@Nat.zero_add
abbrev yJ:=@Array.ext_getElem?
abbrev vE:=@Array.getElem?_map
abbrev qK:=@List.all_eq_true
abbrev qn:=@List.append_assoc
abbrev qH:=@List.append_nil
abbrev zE:=@List.drop_drop
abbrev qI:=@List.drop_eq_getElem_cons
abbrev q8:=@List.drop_of_length_le
abbrev qW:=@List.eq_nil_of_length_eq_zero
abbrev wB:=@List.ext_getElem
abbrev zy:=@List.ext_getElem?
abbrev zg:=@List.filter_append
abbrev zl:=@List.filter_cons
abbrev wT:=@List.filter_eq_nil_iff
abbrev z7:=@List.find?_eq_none
abbrev zf:=@List.flatMap_append
abbrev zd:=@List.flatMap_cons
abbrev zK:=@List.foldl_append
abbrev zr:=@List.foldl_cons
abbrev wx:=@List.foldl_nil
abbrev qd:=@List.getD_eq_getElem?_getD
abbrev qm:=@List.getElem?_append_left
abbrev qi:=@List.getElem?_append_right
abbrev qq:=@List.getElem?_cons_succ
abbrev wO:=@List.getElem?_drop
abbrev qc:=@List.getElem?_eq_getElem
abbrev qM:=@List.getElem?_eq_none
abbrev qV:=@List.getElem?_set
abbrev zw:=@List.getElem?_set_ne
abbrev ze:=@List.getElem?_set_self
abbrev wb:=@List.getElem?_toArray
abbrev wc:=@List.getElem?_zipWith
abbrev z6:=@List.getElem_drop
abbrev qf:=@List.getElem_mem
abbrev qD:=@List.getElem_of_mem
abbrev qp:=@List.length_append
abbrev q7:=@List.length_drop
abbrev qy:=@List.length_map
abbrev wF:=@List.length_mergeSort
abbrev zA:=@List.length_range
abbrev q9:=@List.length_set
abbrev qP:=@List.length_take
abbrev qw:=@List.mem_append
abbrev qC:=@List.mem_filter
abbrev zO:=@List.mem_flatMap
abbrev qo:=@List.mem_map
abbrev zN:=@List.mem_of_mem_take
abbrev zR:=@List.mem_or_eq_of_mem_set
abbrev qA:=@List.mem_range
abbrev yi:=@List.mergeSort_perm
abbrev wg:=@List.nil_append
abbrev wP:=@List.pairwise_append
abbrev zu:=@List.pairwise_cons
abbrev zj:=@List.pairwise_iff_getElem
abbrev yW:=@List.range_eq_range'
abbrev zL:=@List.range_succ
abbrev yu:=@List.set_set
abbrev yc:=@List.size_toArray
abbrev qB:=@List.take_append_drop
abbrev qU:=@List.take_length
abbrev qg:=@List.take_of_length_le
abbrev zF:=@List.take_succ_eq_append_getElem
abbrev yF:=@List.zipWith_append
abbrev yx:=@Bool.not_false
abbrev zS:=@Bool.true_and
abbrev wq:=@Int.emod_lt_of_pos
abbrev yk:=@Int.emod_nonneg
abbrev vF:=@Int.tmod_lt_of_pos
abbrev qj:=@Int.toNat_natCast
abbrev wy:=@UInt8.toNat_inj
abbrev zT:=@UInt8.xor_zero
abbrev wz:=@UInt8.zero_xor
abbrev w8:=@BitVec.ofInt_natCast
abbrev wL:=@List.any_eq_false
abbrev zY:=@List.any_eq_true
abbrev wD:=@List.filter_eq_self
abbrev wU:=@List.findIdx_lt_length
abbrev w4:=@List.getElem_append_left
abbrev qJ:=@List.length_filter_le
abbrev wm:=@List.map_cons
abbrev w5:=@List.map_map
abbrev zm:=@List.mem_append_left
abbrev w6:=@List.mem_replicate
abbrev yl:=@List.nodup_cons
abbrev vM:=@Nat.mul_comm
abbrev wW:=@Bool.not_eq_true'
abbrev yb:=@Bool.not_true
abbrev vo:=@UInt8.xor_comm
abbrev yf:=@Int.mul_le_mul
abbrev vQ:=@Int.mul_nonneg
abbrev wA:=@Int.natCast_mul
abbrev yN:=@Int.tmod_eq_emod_of_nonneg
abbrev yT:=@List.all_append
abbrev yz:=@List.all_eq_false
abbrev yU:=@List.any_append
abbrev vi:=@List.filter_nil
abbrev wj:=@List.flatMap_nil
abbrev zn:=@List.getElem?_range
abbrev wk:=@List.getElem?_replicate
abbrev yg:=@List.getElem_take
abbrev vb:=@List.getElem_zip
abbrev yE:=@List.length_nil
abbrev qT:=@List.map_append
abbrev vI:=@List.map_mergeSort
abbrev yL:=@List.mem_mergeSort
abbrev yh:=@List.replicate_succ
abbrev qQ:=@List.set_append_right
abbrev zo:=@List.set_cons_succ
abbrev zh:=@List.set_cons_zero
abbrev zW:=@List.take_append_of_le_length
abbrev wh:=@Nat.mod_eq_of_lt
abbrev zV:=@Nat.mul_one
abbrev zB:=@Nat.zero_le
abbrev wQ:=@BitVec.toNat_ofNat
abbrev vB:=@Bool.false_or
abbrev vd:=@Prod.ext
abbrev z8:=@Int.natCast_nonneg
abbrev yY:=@Int.ofNat_le
abbrev wV:=@List.getElem_map
abbrev vR:=@List.map_nil
abbrev yq:=@List.drop_length
abbrev zX:=@List.getElem_append_right
abbrev yS:=@Bool.eq_iff_iff
end Go.Qw
