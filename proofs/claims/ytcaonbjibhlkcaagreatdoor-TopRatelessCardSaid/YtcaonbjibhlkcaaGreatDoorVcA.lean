/- Lemmas for the proof of the law; no condition. -/
import Derived.Calls
import Derived.Orders
import Derived.Scope
import Derived.KernelRfl
import Derived.Laws.Sem
import Derived.OrdersHeld
set_option linter.unusedVariables false
set_option linter.unusedSimpArgs false
open Nat renaming beq -> wI, ble -> xg, blt -> vO, eq_of_beq_eq_true -> zG, le_of_ble_eq_true -> zF, le_refl -> ql
open Bool renaming and_eq_true -> qA, false_eq_true -> zf, or_eq_false_iff -> ym, or_eq_true -> wv, or_false -> xf
open List renaming cons_append -> zA, getElem?_eq_some_iff -> qn, getElem?_map -> qO, length_cons -> zi, mem_append_right -> wW, mem_cons -> q8, mem_cons_of_mem -> qY, mem_cons_self -> q0, mem_singleton -> qG
open BitVec renaming ofInt -> qu
open Go.IntKind renaming i64 -> xq
open Go.Instr renaming build -> ve, fill -> wC, loadAt -> vW, slice -> xi, sliceAt -> yk, sliceBound -> vI, sliceBounds -> wE
open Option renaming map_eq_some_iff -> yY, map_some -> qR, some -> zO
open Array renaming ext' -> yw, mapM_eq_mapM_toList -> vk, replicate -> vq, toList_map -> vJ
namespace Go.Vc
open Go
abbrev Heap:=Array Obj
def cellOf(h:Heap)(a:Addr):Option Value:=
 match h[a.block]? with
 |some (.cells c _ _)=>if a.spot.isSome then none else c[a.off]?
 |_=>none
def UP(h:Heap)(a:Addr):Bool:=
 match h[a.block]? with
 |some (.cells _ _ (lo,hi))=>lo<=a.off&&a.off<hi
 |_=>false
def ED(h:Heap)(a:Addr)(v:Value):Heap:=
 h.modify a.block fun
  | .cells c elem frozen=>.cells (if a.spot.isSome then c else c.setIfInBounds a.off v) elem frozen
  |o=>o
def shapeOf(h:Heap)(r:Nat):Option (TypeId×Nat):=match h[r]? with|some (.cells c elem _)=>some (elem,c.size)|_=>none
theorem ZX(w:World)(r:Nat):w.shape? r=shapeOf w.heap r:=rfl
theorem Lq(w:World)(a:Addr):w.cell? a=cellOf w.heap a:=rfl
theorem acQ(w:World)(a:Addr):w.frozen? a=UP w.heap a:=rfl
theorem acR(w:World)(a:Addr)(v:Value):(w.setCell a v).heap=ED w.heap a v:=rfl
structure cM (w w':World):Prop where
 os:w'.os=w.os
 tape:w'.tape=w.tape
 output:w'.output=w.output
 drawn:w.drawn<=w'.drawn
theorem cM.refl(w:World):cM w w:=⟨rfl,rfl,rfl,ql _⟩
theorem cM.trans{a b c:World}(h:cM a b)(k:cM b c):cM a c:=⟨k.os.trans h.os,k.tape.trans h.tape,k.output.trans h.output,Nat.le_trans h.drawn k.drawn⟩
def ab(P:Program)(f:FuncId)(args:Array Value)(h:Heap)(R:Value->Heap->Prop):Prop:=
 ∀w,w.heap=h->Calls P f args w fun e w'=>∃v,e=.returned v/\cM w w'/\R v w'.heap
theorem ab.mono{P:Program}{f:FuncId}{args:Array Value}{h:Heap}{R a:Value->Heap->Prop}(c:ab P f args h R)
  (e:∀v h',R v h'->a v h'):ab P f args h a:=fun w d=>
 (c w d).mono fun _ _ ⟨v,g,b,r⟩=>⟨v,g,b,e _ _ r⟩
def ae{α:Type}(P:Program)(s:Sem α)(h:Heap)(K:α->Heap->Prop):Prop:=
 ∀w,w.heap=h->∃v w',s.run P w=.ok v w'/\cM w w'/\K v w'.heap
section
variable {α β:Type} {P:Program} {h:Heap}
theorem ae.pure'{K:α->Heap->Prop}{a:α}(b:K a h):ae P (Pure.pure a) h K:=fun w c=>⟨a,w,rfl,cM.refl w,by rw[c];exact b⟩
theorem ae.bind{s:Sem α}{f:α->Sem β}{K:β->Heap->Prop}(i:ae P s h fun v h'=>ae P (f v) h' K):ae P (s>>=f) h K:=by
 intro w j;obtain⟨v,w',k,g,e⟩:=i w j;obtain⟨l,a,d,b,c⟩:=e w' rfl;exact⟨l,a,by rw[Sem.run_bind,k];exact d,g.trans b,c⟩
theorem ae.mono{s:Sem α}{K d:α->Heap->Prop}(f:ae P s h K)(e:∀v h',K v h'->d v h'):ae P s h d:=fun w g=>
 let⟨v,w',a,b,c⟩:=f w g;⟨v,w',a,b,e _ _ c⟩
theorem ae.ZY{K:Program->Heap->Prop}(b:K P h):ae P program h K:=fun w a=>⟨P,w,rfl,cM.refl w,by rw[a];exact b⟩
theorem ae.adZ{a:Addr}{v v0:Value}{m:Mode}{K:Unit->Heap->Prop}(f:v.oneCell'=true)(e:cellOf h a=some v0)(c:UP h a=false)(d:K () (ED h a v)):
  ae P (store a v m) h K:=fun w b=>
 ⟨(),w.setCell a v,by rw[run_store _ _ _ _ _ f,Lq,b,e];simp[acQ,b,c],⟨rfl,rfl,rfl,ql _⟩,by rw[acR,b];exact d⟩
theorem ae.pS{o:Obj}{K:Nat->Heap->Prop}(a:K h.size (h.push o)):ae P (newObj o) h K:=fun w b=>
 ⟨w.heap.size,_,run_newObj P w o,⟨rfl,rfl,rfl,ql _⟩,by simp only[b];exact a⟩
theorem ae.Ip{n:Nat}{K:Unit->Heap->Prop}(a:K () h):ae P (askRoom n) h K:=fun w b=>⟨(),w,run_askRoom P w n,cM.refl w,by rw[b];exact a⟩
theorem ae.Lr{q:Question}{K:Nat->Heap->Prop}(a:(q.forced=true->K 0 h)/\(q.forced=false->∀n,K (q.cut n) h)):ae P (choose q) h K:=by
 intro w b;cases hq:q.forced with
 |true=>exact⟨0,w,by rw[run_choose,hq];rfl,cM.refl w,by rw[b];exact a.1 hq⟩
 |false=>exact⟨q.cut (w.tape w.drawn q),{w with drawn:=w.drawn+1},by rw[run_choose,hq];rfl,⟨rfl,rfl,rfl,Nat.le_succ _⟩,by show K _ w.heap;rw[b];exact a.2 hq _⟩
theorem ae.acS{r:Nat}{o:Obj}{K:Obj->Heap->Prop}(d:h[r]?=some o)(g:∀c e f,o≠.cells c e f)(b:K o h):ae P (getObj r) h K:=fun w a=>by
 refine⟨o,w,?_,cM.refl w,by rw[a];exact b⟩;simp only[getObj,Sem.run,a,d]
theorem ae.Xo{r:Nat}{K:Option (TypeId×Nat)->Heap->Prop}(b:K (shapeOf h r) h):ae P (shape r) h K:=fun w a=>
 ⟨_,w,run_shape P w r,cM.refl w,by rw[a,ZX,a];exact b⟩
end
def Bo(P:Program)(s:Sem Next)(h:Heap)(K:Value->Heap->Prop):Prop:=
 ae P s h fun a h'=>match a with
  | .value v=>K v h'
  | .skip=>K undef h'
  | .enter f args=>ab P f args h' K
  |_=>False
theorem afy{P:Program}{o:Oper}{a:Act}{w:World}{K:Value->Heap->Prop}{Q:Exit->Act->World->Prop}
  (j:Bo P (execOp a.eval o) w.heap K) {next:Act->World->Prop}
  (g:∀v w',cM w w'->K v w'.heap->next (a.put o.dst v) w'):o.wp P a w next Q:=by
 obtain⟨h,w',i,d,b⟩:=j w rfl;unfold Oper.wp;rw[i];cases h<;>simp only at b<;>simp only[Oper.upon]
 case value v=>exact g _ _ d b
 case skip=>exact g _ _ d b
 case enter f args=>
  refine(b w' rfl).mono ?_;rintro e k ⟨v,rfl,c,r⟩;exact g _ _ (d.trans c) r
structure Sl where
 ptr:Option Addr
 len:Nat
 cap:Nat
 deriving Inhabited
inductive Sc where
 |int (k:IntKind)|bool|str|ptr|slc|flt (k:FloatKind)|cpx (k:FloatKind)|mp|fn|any|adr
@[reducible] def Sc.den:Sc->Type
 | .int _=>Int
 | .bool=>Bool
 | .str=>ByteArray
 | .ptr=>Option Addr
 | .slc=>Sl
 | .flt _=>Nat
 | .cpx _=>Nat×Nat
 | .mp=>Option Nat
 | .fn=>FuncId×Array Value×Array Value
 | .any=>Value
 | .adr=>Addr
@[reducible] def Sc.enc:(s:Sc)->s.den->Value
 | .int k,n=>.int k n
 | .bool,x=>.bool x
 | .str,x=>.string x
 | .ptr,a=>.pointer a
 | .slc,x=>.slice x.ptr x.len x.cap
 | .flt k,n=>.float k n
 | .cpx k,x=>.complex k x.1 x.2
 | .mp,r=>.map r
 | .fn,x=>.func (.func x.1) x.2.1 x.2.2
 | .any,v=>v
 | .adr,a=>.pointer (some a)
def Bp:IntKind->IntKind->Bool
 | .i8,.i8| .i16,.i16| .i32,.i32| .i64,.i64| .u8,.u8| .u16,.u16| .u32,.u32| .u64,.u64=>true
 |_,_=>false
theorem HC:∀{a b:IntKind},Bp a b=true->a=b:=by
 intro a b;cases a<;>cases b<;>simp[Bp]
def EE:FloatKind->FloatKind->Bool
 | .f32,.f32| .f64,.f64=>true
 |_,_=>false
theorem EF:∀{a b:FloatKind},EE a b=true->a=b:=by
 intro a b;cases a<;>cases b<;>simp[EE]
def Sc.dec:(s:Sc)->Value->Option s.den
 | .int k,.int k' n=>bif Bp k k' then some n else none
 | .bool,.bool x=>some x
 | .str,.string x=>some x
 | .ptr,.pointer a=>some a
 | .slc,.slice a l c=>some ⟨a,l,c⟩
 | .flt k,.float k' n=>bif EE k k' then some n else none
 | .cpx k,.complex k' a b=>bif EE k k' then some (a,b)else none
 | .mp,.map r=>some r
 | .fn,.func (.func g) f c=>some (g,f,c)
 | .any,v=>some v
 | .adr,.pointer (some a)=>some a
 |_,_=>none
theorem Sc.pT{s:Sc}{v:Value}{x:s.den}(h:s.dec v=some x):v=s.enc x:=by
 cases s<;>cases v<;>simp only[Sc.dec]at h<;>try(first|(cases h;done)|(cases h;rfl))
 case int.int k k' n=>
  cases hk:Bp k k'<;>simp[hk]at h;have:=HC hk;subst this;subst h;rfl
 case flt.float k k' n=>
  cases hk:EE k k'<;>simp[hk]at h;have:=EF hk;subst this;subst h;rfl
 case cpx.complex k k' a b=>
  cases hk:EE k k'<;>simp[hk]at h;have:=EF hk;subst this;subst h;rfl
 case fn.func g f c=>
  cases g<;>first|(cases h;done)|skip
  obtain⟨l⟩:=f;cases l<;>first|(cases h;done)|(cases h;rfl)
 case adr.pointer a=>
  cases a<;>first|(cases h;done)|(cases h;rfl)
@[reducible] def Ls:List Sc->Type
 |[]=>Unit
 |[s]=>s.den
 |s::t::r=>s.den×Ls (t::r)
@[reducible] def AH:(l:List Sc)->Ls l->List Value
 |[],_=>[]
 |[s],x=>[s.enc x]
 |s::t::r,x=>s.enc x.1::AH (t::r) x.2
def UQ:(l:List Sc)->List Value->Option (Ls l)
 |[],[]=>some ()
 |[s],[v]=>s.dec v
 |s::t::r,v::vs=>match s.dec v with
  |some x=>match UQ (t::r) vs with
   |some y=>some (x,y)
   |none=>none
  |none=>none
 |_,_=>none
theorem Xp:∀{l:List Sc} {vs:List Value} {x:Ls l},UQ l vs=some x->vs=AH l x:=by
 intro l vs
 fun_induction UQ l vs with
 |case1=>intro x _;rfl
 |case2 s v=>intro x h;simp only[AH];rw[Sc.pT h]
 |case3 s t r v vs x hx y hy ih=>intro z h;cases h;simp only[AH];rw[Sc.pT hx,ih hy]
 |case4=>intro x h;cases h
 |case5=>intro x h;cases h
 |case6=>intro x h;cases h
inductive Ty where
 |sc (s:Sc)
 |agg (l:List Sc)
 |arr (s:Sc)
@[reducible] def Ty.den:Ty->Type
 | .sc s=>s.den
 | .agg l=>Ls l
 | .arr s=>List s.den
@[reducible] def Ty.enc:(t:Ty)->t.den->Value
 | .sc s,x=>s.enc x
 | .agg l,x=>.agg (AH l x).toArray
 | .arr s,x=>.agg (x.map s.enc).toArray
def Ty.dec:(t:Ty)->Value->Option t.den
 | .sc s,v=>s.dec v
 | .agg l,.agg ⟨cs⟩=>UQ l cs
 |_,_=>none
theorem Ty.pT{t:Ty}{v:Value}{x:t.den}(h:t.dec v=some x):v=t.enc x:=by
 unfold Ty.dec at h;split at h
 ·exact Sc.pT h
 ·have:=Xp h;subst this;rfl
 ·cases h
@[reducible] def UR:List Ty->Type
 |[]=>Unit
 |[s]=>s.den
 |s::t::r=>s.den×UR (t::r)
@[reducible] def abS:(l:List Ty)->UR l->List Value
 |[],_=>[]
 |[s],x=>[s.enc x]
 |s::t::r,x=>s.enc x.1::abS (t::r) x.2
inductive Rt where
 |one (t:Ty)
 |many (l:List Ty)
@[reducible] def Rt.den:Rt->Type
 | .one t=>t.den
 | .many l=>UR l
@[reducible] def Rt.enc:(r:Rt)->r.den->Value
 | .one t,x=>t.enc x
 | .many l,x=>.tuple (abS l x).toArray
inductive cm where
 |val (t:Nat) (x:Value)
 |kil (lo hi:Nat)
abbrev Env:=List cm
def cm.dT:cm->Nat->Bool
 | .val s _,t=>wI s t
 | .kil lo hi,t=>xg lo t&&vO t hi
def Env.get:Env->Nat->Option Value
 |[],_=>none
 | .val s x::r,t=>bif wI s t then some x else Env.get r t
 | .kil lo hi::r,t=>bif xg lo t&&vO t hi then none else Env.get r t
def Env.dT:Env->Nat->Bool
 |[],_=>false
 |e::r,t=>e.dT t||Env.dT r t
theorem Env.ZZ(e:cm)(r:Env)(t:Nat)(h:e.dT t=false):Env.get (e::r) t=Env.get r t:=by
 cases e<;>simp only[cm.dT]at h<;>simp[Env.get,h]
theorem Env.get_append{δ ρ:Env}{t:Nat}(h:δ.dT t=false):Env.get (δ++ρ) t=Env.get ρ t:=by
 induction δ with
 |nil=>rfl
 |cons e r ih=>
  simp only[Env.dT,ym]at h;rw[zA,Env.ZZ _ _ _ h.1,ih h.2]
theorem Env.AI{δ ρ:Env}{t:Nat}:Env.dT (δ++ρ) t=(δ.dT t||ρ.dT t):=by
 induction δ with
 |nil=>simp[Env.dT]
 |cons e r ih=>simp[Env.dT,ih,Bool.or_assoc]
structure Fits (n:Nat) (a:Act) (ρ:Env):Prop where
 size:a.tmps.size=n
 defers:a.defers=[]
 get:∀t x,ρ.get t=some x->a.tmps[t]?=some x
def Ext(ρ c:Env)(a b:Act):Prop:=∃δ:Env,c=δ++ρ/\∀t,δ.dT t=false->b.tmps[t]?=a.tmps[t]?
theorem Ext.refl(ρ:Env)(a:Act):Ext ρ ρ a a:=⟨[],rfl,fun _ _=>rfl⟩
theorem Ext.trans{ρ f c:Env}{a e b:Act}(h:Ext ρ f a e)(k:Ext f c e b):Ext ρ c a b:=by
 obtain⟨δ,rfl,h⟩:=h;obtain⟨g,rfl,k⟩:=k;refine⟨g++δ,by simp,fun t d=>?_⟩;rw[Env.AI,ym]at d;rw[k t d.1,h t d.2]
def Env.eval(ρ:Env):Operand->Option Value
 | .tmp t=>ρ.get t
 | .const v=>some v
 | .global g=>some (.pointer (some ⟨g,0,none⟩))
 | .func f=>some (.func (.func f) #[] #[])
theorem Fits.eval{n:Nat}{a:Act}{ρ:Env}(h:Fits n a ρ){x:Operand}{v:Value}(b:ρ.eval x=some v):a.eval x=v:=by
 cases x<;>simp only[Env.eval]at b<;>simp only[Act.eval]
 case tmp t=>have:=h.get t v b;simp[Array.getD_eq_getD_getElem?,this]
 all_goals (injection b)
theorem Fits.put{n:Nat}{a:Act}{ρ:Env}(h:Fits n a ρ){d:Nat}(f:vO d n=true)(v:Value):Fits n (a.put (some d) v) (.val d v::ρ):=by
 have c:d<n:=zF f;refine⟨by simp[Act.put,h.size],h.defers,fun t x b=>?_⟩;simp only[Env.get]at b;simp only[Act.put,Array.getElem?_setIfInBounds];cases hb:wI d t with
 |true=>
  rw[hb]at b;have:d=t:=zG hb;subst this;simp at b;simp[h.size,c,b]
 |false=>
  rw[hb]at b;have:d≠t:=fun e=>by subst e;simp at hb
  simp only[this,if_false];exact h.get t x b
theorem Ext.put{ρ:Env}{a:Act}{d:Nat}(v u:Value):Ext ρ (.val d u::ρ) a (a.put (some d) v):=by
 refine⟨[.val d u],rfl,fun t b=>?_⟩;simp only[Env.dT,cm.dT,xf]at b;have:d≠t:=fun e=>by subst e;simp at b
 simp[Act.put,this]
abbrev dw:=List (Nat×Ty)
@[reducible] def dw.den:dw->Type
 |[]=>Unit
 |[s]=>s.2.den
 |s::t::r=>s.2.den×dw.den (t::r)
def dw.vals:(σ:dw)->σ.den->Env->Env
 |[],_,ρ=>ρ
 |[s],x,ρ=>.val s.1 (s.2.enc x)::ρ
 |s::t::r,x,ρ=>.val s.1 (s.2.enc x.1)::dw.vals (t::r) x.2 ρ
def dw.read:(σ:dw)->Env->Option σ.den
 |[],_=>some ()
 |[s],ρ=>match ρ.get s.1 with
  |some v=>s.2.dec v
  |none=>none
 |s::t::r,ρ=>match ρ.get s.1 with
  |some v=>match s.2.dec v with
   |some x=>match dw.read (t::r) ρ with
    |some y=>some (x,y)
    |none=>none
   |none=>none
  |none=>none
def dw.has:dw->Nat->Bool
 |[],_=>false
 |s::r,t=>wI s.1 t||dw.has r t
abbrev cL:=List (Nat×Nat)
def cL.over:cL->Env->Env
 |[],ρ=>ρ
 |(lo,hi)::r,ρ=>.kil lo hi::cL.over r ρ
def cL.has:cL->Nat->Nat->Bool
 |[],_,_=>false
 |(lo,hi)::r,a,b=>(xg lo a&&xg b hi)||cL.has r a b
def within(σ:dw)(κ:cL):Env->Nat->Bool
 |_,0=>true
 |[],_+1=>true
 | .val t _::r,n+1=>(dw.has σ t||cL.has κ t (t+1))&&within σ κ r n
 | .kil lo hi::r,n+1=>cL.has κ lo hi&&within σ κ r n
theorem cL.aaa{κ:cL}{a b:Nat}(h:κ.has a b=true){t:Nat}(f:a<=t)(e:t<b)(ρ:Env):∃δ:Env,κ.over ρ=δ++ρ/\δ.dT t=true:=by
 induction κ with
 |nil=>simp[cL.has]at h
 |cons p r ih=>
  obtain⟨c,d⟩:=p;simp only[cL.has,wv,qA]at h;obtain⟨δ,i⟩:∃δ:Env,cL.over r ρ=δ++ρ:=by
   clear ih h
   induction r with
   |nil=>exact⟨[],rfl⟩
   |cons q r ih=>obtain⟨δ,h⟩:=ih;exact⟨.kil q.1 q.2::δ,by show cm.kil q.1 q.2::cL.over r ρ=_;rw[h];rfl⟩
  rcases h with h|h
  ·have l:=zF h.1;have k:=zF h.2;refine⟨.kil c d::δ,by simp[cL.over,i],?_⟩;have g:xg c t=true:=Nat.ble_eq_true_of_le (by omega);have x2:vO t d=true:=by unfold vO;exact Nat.ble_eq_true_of_le (by omega)
   simp[Env.dT,cm.dT,g,x2]
  ·obtain⟨j,f,e⟩:=ih h;exact⟨.kil c d::j,by simp[cL.over,f],by simp[Env.dT,e]⟩
theorem cL.Pe(κ:cL)(ρ:Env):κ.over ρ=κ.over []++ρ:=by
 induction κ with
 |nil=>rfl
 |cons p r ih=>obtain⟨a,b⟩:=p;simp[cL.over,ih]
theorem dw.Iq:∀(σ:dw) (x:σ.den) (ρ:Env),σ.vals x ρ=σ.vals x []++ρ
 |[],_,ρ=>rfl
 |[s],x,ρ=>rfl
 |s::t::r,x,ρ=>by simp only[dw.vals];rw[dw.Iq (t::r) x.2 ρ];rfl
theorem dw.yS:∀(σ:dw) (x:σ.den) (t:Nat),(σ.vals x []).dT t=σ.has t
 |[],_,_=>rfl
 |[s],x,t=>by simp[dw.vals,Env.dT,cm.dT,dw.has]
 |s::u::r,x,t=>by
  have:=dw.yS (u::r) x.2 t;simp only[dw.vals,Env.dT,cm.dT,this];rfl
theorem dw.Pf:∀(σ:dw) (x:σ.den) (e:Env) (t:Nat),σ.has t=true->((σ.vals x [])++e).get t=(σ.vals x []).get t
 |[],_,_,_,h=>by cases h
 |[s],x,e,t,h=>by
  simp only[dw.has,xf]at h;simp[dw.vals,Env.get,h]
 |s::u::r,x,e,t,h=>by
  simp only[dw.vals,zA,Env.get];cases hb:wI s.1 t with
  |true=>rfl
  |false=>
   have h':dw.has (u::r) t=true:=by
    have a:(wI s.1 t||dw.has (u::r) t)=true:=h;rw[hb]at a;exact a
   simpa using dw.Pf (u::r) x.2 e t h'
theorem cL.MM{κ:cL}{a b t:Nat}(h:κ.has a b=true)(f:a<=t)(e:t<b):(κ.over []).dT t=true:=by
 obtain⟨δ,d,c⟩:=cL.aaa h f e [];rw[d];simpa using c
theorem iM{σ:dw}{κ:cL}:∀{δ ρ:Env},within σ κ (δ++ρ) δ.length=true->∀t,σ.has t=false->(κ.over []).dT t=false->δ.dT t=false
 |[],_,_,_,_,_=>rfl
 | .val s x::r,ρ,h,t,h1,h2=>by
  simp only[zA,zi,within,qA,wv]at h;simp only[Env.dT,cm.dT,ym];refine⟨?_,iM h.2 t h1 h2⟩;cases hb:wI s t with
  |false=>rfl
  |true=>
   have:s=t:=zG hb;subst this;rcases h.1 with h|h
   ·rw[h]at h1;cases h1
   ·rw[cL.MM h (ql _) (Nat.lt_succ_self _)]at h2;cases h2
 | .kil lo hi::r,ρ,h,t,h1,h2=>by
  simp only[zA,zi,within,qA]at h;simp only[Env.dT,cm.dT,ym];refine⟨?_,iM h.2 t h1 h2⟩;cases hb:(xg lo t&&vO t hi)with
  |false=>rfl
  |true=>
   simp only[qA]at hb;have b:=zF hb.1;have a:t<hi:=zF hb.2;rw[cL.MM h.1 b a]at h2;cases h2
theorem dw.Ph:∀{σ:dw} {ρ:Env} {x:σ.den} {t:Nat} {v:Value},σ.read ρ=some x->(σ.vals x []).get t=some v->ρ.get t=some v∨False
 |[],_,_,_,_,_,h=>by simp[dw.vals,Env.get]at h
 |[s],ρ,x,t,v,h,hv=>by
  simp only[dw.read]at h;split at h
  ·rename_i u c;simp only[dw.vals,Env.get]at hv;cases hb:wI s.1 t with
   |true=>
    rw[hb]at hv;have:=zG hb;simp at hv;subst hv;rw[<-Ty.pT h,<-this];exact .inl c
   |false=>rw[hb]at hv;simp at hv
  ·cases h
 |s::u::r,ρ,x,t,v,h,hv=>by
  simp only[dw.read]at h;split at h
  ·rename_i z a;split at h
   ·rename_i y d;split at h
    ·rename_i w b;cases h;simp only[dw.vals,Env.get]at hv;cases hb:wI s.1 t with
     |true=>
      rw[hb]at hv;have:=zG hb;simp at hv;subst hv;rw[<-Ty.pT d,<-this];exact .inl a
     |false=>
      rw[hb]at hv;exact dw.Ph (σ:=u::r) b hv
    ·cases h
   ·cases h
  ·cases h
theorem Fits.pU{n:Nat}{a d:Act}{σ:dw}{κ:cL}{ρ g:Env}{x:σ.den}(j:Fits n a ρ)(h:Fits n d g)
  (b:∀t,σ.has t=false->(κ.over []).dT t=false->d.tmps[t]?=a.tmps[t]?) (l:σ.read g=some x):
  Fits n d (σ.vals x (κ.over ρ))/\Ext ρ (σ.vals x (κ.over ρ)) a d:=by
 rw[dw.Iq,cL.Pe];refine⟨⟨h.size,h.defers,fun t v c=>?_⟩,⟨σ.vals x []++κ.over [],by simp,fun t f=>?_⟩⟩
 ·cases h1:σ.has t with
  |true=>
   have:∀(e:Env),((σ.vals x [])++e).get t=(σ.vals x []).get t:=fun e=>dw.Pf σ x e t h1;rw[this]at c;rcases dw.Ph l c with h2|h2
   ·exact h.get t v h2
   ·exact h2.elim
  |false=>
   rw[Env.get_append (by rw[dw.yS];exact h1)]at c;cases h2:(κ.over []).dT t with
   |true=>
    have:∀(e:Env),((κ.over [])++e).get t=none:=by
     intro e;clear b c
     induction κ with
     |nil=>simp[cL.over,Env.dT]at h2
     |cons p r ih=>
      obtain⟨k,i⟩:=p;simp only[cL.over,Env.dT,cm.dT]at h2;simp only[cL.over,zA,Env.get];cases hb:(xg k t&&vO t i)with
      |true=>rfl
      |false=>rw[hb]at h2;simp at h2;simpa using ih h2
    rw[this]at c;cases c
   |false=>
    rw[Env.get_append h2]at c;rw[b t h1 h2];exact j.get t v c
 ·rw[Env.AI,ym,dw.yS]at f;exact b t f.1 f.2
theorem Ext.within{a d:Act}{σ:dw}{κ:cL}{ρ c:Env}(i:Ext ρ c a d)(e:within σ κ c (c.length-ρ.length)=true):
  ∀t,σ.has t=false->(κ.over []).dT t=false->d.tmps[t]?=a.tmps[t]?:=by
 obtain⟨δ,rfl,f⟩:=i;have b:(δ++ρ).length-ρ.length=δ.length:=by simp
 rw[b]at e;exact fun t h g=>f t (iM e t h g)
theorem Ext.pU{a b:Act}{σ:dw}{κ:cL}{ρ:Env}{x:σ.den}(g:Ext ρ (σ.vals x (κ.over ρ)) a b):
  ∀t,σ.has t=false->(κ.over []).dT t=false->b.tmps[t]?=a.tmps[t]?:=by
 obtain⟨δ,c,d⟩:=g;rw[dw.Iq,cL.Pe,<-List.append_assoc]at c;have:=List.append_cancel_right c;subst this;exact fun t f e=>d t (by rw[Env.AI,dw.yS,f,e];rfl)
inductive DH where
 |int (k:IntKind)|bool|str|flt|cpx|mp|fn|other
 |slice (e:TypeId)|array (n:Nat) (e:TypeId)|struct (fs:List (Nat×TypeId))|ptr (e:TypeId)
def ij:Option TypeDesc->DH
 |some (.int k)=>.int k
 |some .bool=>.bool
 |some .string=>.str
 |some (.float _)=>.flt
 |some (.complex _)=>.cpx
 |some (.map ..)=>.mp
 |some (.func ..)=>.fn
 |some (.slice e)=>.slice e
 |some (.array n e)=>.array n e
 |some (.struct fs)=>.struct (fs.toList.map fun f=>(f.offset,f.type))
 |some (.pointer e)=>.ptr e
 |_=>.other
structure TI where
 cu:DH
 ty:Ty
 size:Nat
 bytes:Nat
 zero:List Value
abbrev jx:=List TI
def jx.seen(P:Program)(t:TypeId):DH×Option (Nat×Nat×Option (List Value)):=
 (ij (P.underlying t),(P.info? t).map fun i=>(i.size,i.bytes,i.zero.map (·.cells.toList)))
def jx.told(i:TI):DH×Option (Nat×Nat×Option (List Value)):=(i.cu,some (i.size,i.bytes,some i.zero))
def jx.get:jx->Nat->Option TI
 |[],_=>none
 |i::_,0=>some i
 |_::r,t+1=>jx.get r t
structure Bq where
 P:Program
 T:jx
structure Bq.Ok (C:Bq):Prop where
 tbl:(List.range C.T.length).map (jx.seen C.P)=C.T.map jx.told
 mixed:C.P.follows .mixedOrders=true
theorem jx.get_eq:∀(T:jx) (t:Nat),T.get t=T[t]?
 |[],_=>rfl
 |_::_,0=>rfl
 |_::r,t+1=>by simp[jx.get,jx.get_eq r t]
theorem Bq.Ok.at{C:Bq}(h:C.Ok){t:Nat}{i:TI}(b:C.T.get t=some i):jx.seen C.P t=jx.told i:=by
 rw[jx.get_eq]at b;have a:t<C.T.length:=(qn.1 b).1;have:=congrArg (·[t]?) h.tbl;simp[a]at this;rw[this,(qn.1 b).2]
def Br(b:Bool)(A B:Prop):Prop:=match b with
 |true=>A
 |false=>B
inductive PV:Type 1 where
 |no
 |val (v:Value)
 |cond (c:Prop) (v:Value)
 |ex (X:Type) (c:X->Prop) (v:X->Value)
 |br (b:Bool) (x y:Value)
def PV.holds(p:PV)(K:Value->Prop):Prop:=match p with
 | .no=>False
 | .val v=>K v
 | .cond c v=>c/\K v
 | .ex _ c v=>∃x,c x/\K (v x)
 | .br b x y=>Br b (K x) (K y)
def rI(P:Program)(s:Sem Next)(v:Value):Prop:=∀w,s.run P w=.ok (.value v) w
def aJ{α:Type}(P:Program)(s:Sem α)(v:α):Prop:=∀w,s.run P w=.ok v w
def jy(P:Program)(op:BinOp)(t:TypeId)(x y:Operand)(a b r:Value):Prop:=aJ P (do eqGuard op t x y a b;binOp op t a b) r
def abT:Operand->Bool
 | .tmp _=>true
 |_=>false
def aab(P:Program)(t:TypeId)(x y:Operand)(d:Option DH)(op:BinOp):Value->Value->PV
 | .int k a,.int k' b=>
  match op with
  | .shl=>.cond (0<=b) (.int k (k.wrap (a*2^min b.toNat k.bits)))
  | .shr=>.cond (0<=b) (.int k (a.fdiv (2^min b.toNat k.bits)))
  |_=>bif Bp k k' then
   match op with
   | .add=>.val (.int k (k.wrap (a+b)))
   | .sub=>.val (.int k (k.wrap (a-b)))
   | .mul=>.val (.int k (k.wrap (a*b)))
   | .quo=>.cond (b≠0) (.int k (k.wrap (a.tdiv b)))
   | .rem=>.cond (b≠0) (.int k (a.tmod b))
   | .and=>.val (.int k (k.wrap (qu k.bits a&&&qu k.bits b).toNat))
   | .or=>.val (.int k (k.wrap (qu k.bits a|||qu k.bits b).toNat))
   | .xor=>.val (.int k (k.wrap (qu k.bits a^^^qu k.bits b).toNat))
   | .andNot=>.val (.int k (k.wrap (qu k.bits a&&&~~~qu k.bits b).toNat))
   | .eql=>.val (.bool (a==b))
   | .neq=>.val (.bool (a !=b))
   | .lss=>.val (.bool (decide (a<b)))
   | .leq=>.val (.bool (decide (a<=b)))
   | .gtr=>.val (.bool (decide (a>b)))
   | .geq=>.val (.bool (decide (a>=b)))
   |_=>.no
  else .no
 | .float k a,.float k' b=>bif EE k k' then
   match op with
   | .add=>.ex Nat (fun r=>k.format.add a b=some r) (fun r=>.float k r)
   | .sub=>.ex Nat (fun r=>k.format.sub a b=some r) (fun r=>.float k r)
   | .mul=>.ex Nat (fun r=>k.format.mul a b=some r) (fun r=>.float k r)
   | .quo=>.ex Nat (fun r=>k.format.div a b=some r) (fun r=>.float k r)
   | .eql=>.val (.bool (k.format.order a b==some .eq))
   | .neq=>.val (.bool (k.format.order a b !=some .eq))
   | .lss=>.val (.bool (k.format.order a b==some .lt))
   | .gtr=>.val (.bool (k.format.order a b==some .gt))
   |_=>.no
  else .no
 | .string a,.string b=>
  match op with
  | .eql=>.val (.bool (a.toList==b.toList))
  | .neq=>.val (.bool (!(a.toList==b.toList)))
  | .lss=>.val (.bool (Op.bytesLess a.toList b.toList))
  | .leq=>.val (.bool (Op.bytesLess a.toList b.toList||a.toList==b.toList))
  | .gtr=>.val (.bool (!(Op.bytesLess a.toList b.toList||a.toList==b.toList)))
  | .geq=>.val (.bool (!(Op.bytesLess a.toList b.toList)))
  | .add=>.cond (((a.size+b.size:Nat):Int)<=xq.max) (.string (a++b))
  |_=>.no
 | .bool a,.bool b=>
  match d with
  |some .bool=>match op with
   | .eql=>.val (.bool (a==b))
   | .neq=>.val (.bool (!(a==b)))
   |_=>.no
  |_=>.no
 | .pointer a,.pointer b=>bif abT y then .ex Bool (fun r=>jy P op t x y (.pointer a) (.pointer b) (.bool r)) (fun r=>.bool r)else
  match b with
  |none=>match d with
   |some (.ptr _)=>match op with
    | .eql=>.val (.bool a.isNone)
    | .neq=>.val (.bool (!a.isNone))
    |_=>.no
   |_=>.no
  |some _=>.no
 | .slice a _ _,.slice none _ _=>
  match d with
  |some (.slice _)=>match op with
   | .eql=>.val (.bool a.isNone)
   | .neq=>.val (.bool (!a.isNone))
   |_=>.no
  |_=>.no
 | .agg a,.agg b=>.ex Bool (fun r=>jy P op t x y (.agg a) (.agg b) (.bool r)) (fun r=>.bool r)
 | .complex k a b,.complex k' c e=>
  match op with
  | .eql| .neq=>.ex Bool (fun r=>jy P op t x y (.complex k a b) (.complex k' c e) (.bool r)) (fun r=>.bool r)
  |_=>.ex (Nat×Nat) (fun r=>jy P op t x y (.complex k a b) (.complex k' c e) (.complex k r.1 r.2)) (fun r=>.complex k r.1 r.2)
 |_,_=>.no
def aac(P:Program)(t:TypeId)(x y:Operand)(d:Option DH)(op:BinOp)(a:Value):Value->PV
 | .nilIface=>.ex Bool (fun r=>jy P op t x y a .nilIface (.bool r)) (fun r=>.bool r)
 |b=>aab P t x y d op a b
def unV(op:UnOp):Value->PV
 | .bool b=>match op with
  | .not=>.val (.bool !b)
  |_=>.no
 | .int k n=>match op with
  | .neg=>.val (.int k (k.wrap (0-n)))
  | .xor=>.val (.int k (k.wrap (qu k.bits (if k.signed then-1 else k.max)^^^qu k.bits n).toNat))
  |_=>.no
 |_=>.no
def pJ(ev:Operand->Option Value):List Operand->Option (List Value)
 |[]=>some []
 |x::r=>match ev x with
  |some v=>match pJ ev r with
   |some vs=>some (v::vs)
   |none=>none
  |none=>none
def EG(ev:Operand->Option Value):List (Nat×Operand)->Option (List (Nat×Value))
 |[]=>some []
 |(n,x)::r=>match ev x with
  |some v=>match EG ev r with
   |some vs=>some ((n,v)::vs)
   |none=>none
  |none=>none
def placesOf(T:jx):List (Nat×TypeId)->Option (List (Nat×Nat))
 |[]=>some []
 |(off,t)::r=>match T.get t with
  |some j=>match placesOf T r with
   |some ps=>some ((off,j.size)::ps)
   |none=>none
  |none=>none
def Jq(ev:Operand->Option Value):Option Operand->Option (Option Int)
 |none=>some none
 |some x=>match ev x with
  |some (.int _ n)=>some (some n)
  |_=>none
def aea(d:Option DH):Value->PV
 | .slice _ n _=>match d with
  |some (.slice _)=>.val (.int .i64 n)
  |_=>.no
 | .string s=>match d with
  |some .str=>.val (.int .i64 s.size)
  |_=>.no
 |_=>.no
def aeb(d:Option DH):Value->PV
 | .slice _ _ n=>match d with
  |some (.slice _)=>.val (.int .i64 n)
  |_=>.no
 |_=>.no
def abU(d:Option DH):Value->PV
 | .int _ n=>match d with
  |some (.int k)=>.val (.int k (k.wrap n))
  |_=>.no
 |_=>.no
def Bt(P:Program)(T:jx)(op:Op)(ev:Operand->Option Value):PV:=
 match op with
 | .move x| .assign x=>match ev x with
  |some v=>.val v
  |none=>.no
 | .pick c a b=>match ev c,ev a,ev b with
  |some (.bool t),some x,some y=>.br t x y
  |_,_,_=>.no
 | .nilCheck x=>match ev x with
  |some (.pointer p)=>.ex Addr (fun a=>p=some a) (fun a=>.pointer (some a))
  |_=>.no
 | .fieldAddr s x f=>match ev x with
  |some (.pointer (some a))=>match T.get s with
   |some i=>match i.cu with
    | .struct fs=>match fs[f]? with
     |some (off,t)=>match T.get t with
      |some j=>bif wI j.size 0 then .no else .val (.pointer (some (a.add off)))
      |none=>.no
     |none=>.no
    |_=>.no
   |none=>.no
  |_=>.no
 | .indexAddr t x ix=>match ev ix with
  |some (.int _ n)=>match ev x with
   |some (.slice p len _)=>match T.get t with
    |some i=>match i.cu with
     | .slice e=>match T.get e with
      |some j=>.ex Addr (fun a=>p=some a/\0<=n/\n<(len:Int)) (fun a=>.pointer (some (a.add (n.toNat*j.size))))
      |none=>.no
     |_=>.no
    |none=>.no
   |some (.pointer (some a))=>match T.get t with
    |some i=>match i.cu with
     | .array m e=>match T.get e with
      |some j=>.cond (0<=n/\n<(m:Int)) (.pointer (some (a.add (n.toNat*j.size))))
      |none=>.no
     |_=>.no
    |none=>.no
   |_=>.no
  |_=>.no
 | .index t x ix=>match ev ix with
  |some (.int _ n)=>match ev x with
   |some (.string s)=>match T.get t with
    |some i=>match i.cu with
     | .str=>.ex UInt8 (fun b=>0<=n/\s.data[n.toNat]?=some b) (fun b=>.int .u8 b.toNat)
     |_=>.no
    |none=>.no
   |some (.agg cs)=>match T.get t with
    |some i=>match i.cu with
     | .array m e=>match T.get e with
      |some j=>match j.ty with
       | .sc s=>match j.cu with
        | .struct _=>.no
        | .array _ _=>.no
        | .other=>.no
        |_=>bif wI j.size 1 then .ex s.den (fun y=>0<=n/\n<(m:Int)/\cs[n.toNat]?=some (s.enc y)) (fun y=>s.enc y)else .no
       |_=>.no
      |none=>.no
     |_=>.no
    |none=>.no
   |_=>.no
  |_=>.no
 | .field s x f=>match ev x with
  |some (.agg ⟨cs⟩)=>match T.get s with
   |some i=>match i.cu with
    | .struct fs=>match fs[f]? with
     |some (off,t)=>match T.get t with
      |some j=>match j.cu with
       | .struct _=>.val (.agg ((cs.drop off).take j.size).toArray)
       | .array _ _=>.val (.agg ((cs.drop off).take j.size).toArray)
       | .other=>.no
       |_=>match cs[off]? with
        |some v=>.val v
        |none=>.no
      |none=>.no
     |none=>.no
    |_=>.no
   |none=>.no
  |_=>.no
 | .slice t x lo hi mx=>match mx with
  |some _=>.no
  |none=>match Jq ev lo,Jq ev hi with
   |some l,some r=>match ev x with
    |some (.slice p len cap)=>match T.get t with
     |some i=>match i.cu with
      | .slice e=>match T.get e with
       |some j=>match l,r with
        |none,none=>.val (.slice p len cap)
        |none,some r=>.cond (0<=r/\r<=(cap:Int)) (.slice p r.toNat cap)
        |some l,none=>.cond (0<=l/\l<=(len:Int)) (.slice (if cap=l.toNat then p else p.map (·.add (l.toNat*j.size))) (len-l.toNat) (cap-l.toNat))
        |some l,some r=>.cond (0<=l/\l<=r/\r<=(cap:Int)) (.slice (if cap=l.toNat then p else p.map (·.add (l.toNat*j.size))) (r.toNat-l.toNat) (cap-l.toNat))
       |none=>.no
      |_=>.no
     |none=>.no
    |some (.string s)=>match T.get t with
     |some i=>match i.cu with
      | .str=>match l,r with
       |none,none=>.val (.string (s.extract 0 s.size))
       |none,some r=>.cond (0<=r/\r<=(s.size:Int)) (.string (s.extract 0 r.toNat))
       |some l,none=>.cond (0<=l/\l<=(s.size:Int)) (.string (s.extract l.toNat s.size))
       |some l,some r=>.cond (0<=l/\l<=r/\r<=(s.size:Int)) (.string (s.extract l.toNat r.toNat))
      |_=>.no
     |none=>.no
    |some (.pointer (some a))=>match T.get t with
     |some i=>match i.cu with
      | .array n e=>match T.get e with
       |some j=>match l,r with
        |none,none=>.val (.slice (some a) n n)
        |none,some r=>.cond (0<=r/\r<=(n:Int)) (.slice (some a) r.toNat n)
        |some l,none=>.cond (0<=l/\l<=(n:Int)) (.slice (some (if n=l.toNat then a else a.add (l.toNat*j.size))) (n-l.toNat) (n-l.toNat))
        |some l,some r=>.cond (0<=l/\l<=r/\r<=(n:Int)) (.slice (some (if n=l.toNat then a else a.add (l.toNat*j.size))) (r.toNat-l.toNat) (n-l.toNat))
       |none=>.no
      |_=>.no
     |none=>.no
    |_=>.no
   |_,_=>.no
 | .extract x n=>match ev x with
  |some (.tuple ⟨vs⟩)=>match vs[n]? with
   |some v=>.val v
   |none=>.no
  |_=>.no
 | .binOp op t x y _=>match ev x,ev y with
  |some a,some b=>aac P t x y ((T.get t).map (·.cu)) op a b
  |_,_=>.no
 | .unOp op _ x=>match ev x with
  |some v=>unV op v
  |none=>.no
 | .convert src dst x=>match ev x,(T.get src).map TI.cu with
  |some v,some (DH.int _)=>abU ((T.get dst).map (·.cu)) v
  |_,_=>.no
 | .build t parts=>match EG ev parts.toList with
  |some vs=>match T.get t with
   |some i=>bif vO 24 i.size then .ex Value (fun v=>aJ P (ve t vs.toArray) v) (fun v=>v)else match i.cu with
    | .struct fs=>match placesOf T fs with
     |some ps=>match wC (fun n=>ps[n]?) i.zero.toArray vs with
      |some cells=>.val (.agg cells)
      |none=>.no
     |none=>.no
    | .array _ e=>match T.get e with
     |some j=>match wC (fun n=>some (n*j.size,j.size)) i.zero.toArray vs with
      |some cells=>.val (.agg cells)
      |none=>.no
     |none=>.no
    |_=>.no
   |none=>.no
  |none=>.no
 | .makeFunc fn first captured=>match pJ ev first.toList,pJ ev captured.toList with
  |some a,some b=>.val (.func fn a.toArray b.toArray)
  |_,_=>.no
 | .call c=>match c.callee with
  | .builtin b=>match b with
   | .len=>match c.argTypes.toList,c.args.toList with
    |t::_,[x]=>match ev x with
     |some v=>aea ((T.get t).map (·.cu)) v
     |none=>.no
    |_,_=>.no
   | .cap=>match c.argTypes.toList,c.args.toList with
    |t::_,[x]=>match ev x with
     |some v=>aeb ((T.get t).map (·.cu)) v
     |none=>.no
    |_,_=>.no
   | .min=>match pJ ev c.args.toList with
    |some [.int k a,.int _ b]=>.val (.int k (if b<a then b else a))
    |_=>.no
   | .max=>match pJ ev c.args.toList with
    |some [.int k a,.int _ b]=>.val (.int k (if b>a then b else a))
    |_=>.no
   | .real=>match pJ ev c.args.toList with
    |some [.complex k a _]=>.val (.float k a)
    |_=>.no
   | .imag=>match pJ ev c.args.toList with
    |some [.complex k _ b]=>.val (.float k b)
    |_=>.no
   |_=>.no
  |_=>.no
 |_=>.no
theorem aJ.next{P:Program}{s:Sem Value}{v:Value}(h:aJ P s v):rI P (do pure (.value (<-s))) v:=fun w=>by
 rw[Sem.run_bind,h w];rfl
theorem aJ.pure{α:Type}{P:Program}{v:α}:aJ P (pure v) v:=fun _=>rfl
theorem aJ.bind{α β:Type}{P:Program}{s:Sem α}{f:α->Sem β}{v:α}{u:β}(h:aJ P s v)(k:aJ P (f v) u):aJ P (s>>=f) u:=fun w=>by
 rw[Sem.run_bind,h w];exact k w
theorem Bu{d:Option TypeDesc}{k:IntKind}(h:ij d=.int k):d=some (.int k):=by
 unfold ij at h;split at h<;>cases h;rfl
theorem aad{d:Option TypeDesc}(h:ij d=.bool):d=some .bool:=by
 unfold ij at h;split at h<;>cases h;rfl
theorem uk{d:Option TypeDesc}(h:ij d=.str):d=some .string:=by
 unfold ij at h;split at h<;>cases h;rfl
theorem hG{d:Option TypeDesc}{e:TypeId}(h:ij d=.slice e):d=some (.slice e):=by
 unfold ij at h;split at h<;>cases h;rfl
theorem rJ{d:Option TypeDesc}{n:Nat}{e:TypeId}(h:ij d=.array n e):d=some (.array n e):=by
 unfold ij at h;split at h<;>cases h;rfl
theorem acT{d:Option TypeDesc}{e:TypeId}(h:ij d=.ptr e):d=some (.pointer e):=by
 unfold ij at h;split at h<;>cases h;rfl
theorem oL{d:Option TypeDesc}{b:List (Nat×TypeId)}(h:ij d=.struct b):∃a,d=some (.struct a)/\b=a.toList.map fun f=>(f.offset,f.type):=by
 unfold ij at h;split at h<;>cases h;exact⟨_,rfl,rfl⟩
section
variable {C:Bq} {t:TypeId} {i:TI}
theorem Bq.Ok.cu(h:C.Ok)(a:C.T.get t=some i):ij (C.P.underlying t)=i.cu:=congrArg Prod.fst (h.at a)
theorem Bq.Ok.info(h:C.Ok)(d:C.T.get t=some i):∃f,C.P.info? t=some f/\f.size=i.size/\f.bytes=i.bytes/\∃z,f.zero=some z/\z.cells.toList=i.zero:=by
 have:=congrArg Prod.snd (h.at d);simp only[jx.seen,jx.told]at this;cases hf:C.P.info? t with
 |none=>rw[hf]at this;cases this
 |some f=>
  rw[hf]at this;simp only[qR,zO.injEq,Prod.mk.injEq]at this;obtain⟨a,b,c⟩:=this;cases hz:f.zero with
  |none=>rw[hz]at c;cases c
  |some z=>rw[hz]at c;simp at c;exact⟨f,rfl,a,b,z,hz,by simpa using c⟩
theorem aI{P:Program}{t:TypeId}{d:TypeDesc}(h:P.underlying t=some d):aJ P (underlying t) d:=fun w=>by
 simp[underlying,h]
theorem cN{P:Program}{t:TypeId}{d:TypeInfo}(h:P.info? t=some d):aJ P (typeInfo t) d:=fun w=>by
 simp[typeInfo,h]
theorem cY(h:C.Ok)(c:C.T.get t=some i):aJ C.P (sizeOf t) i.size:=by
 obtain⟨f,a,b,_⟩:=h.info c;rw[<-b];exact(cN a).bind .pure
theorem rp(h:C.Ok)(d:C.T.get t=some i):∃z,aJ C.P (zeroValue t) z/\z.cells.toList=i.zero:=by
 obtain⟨f,a,_,_,z,b,c⟩:=h.info d;refine⟨z,(cN a).bind ?_,c⟩;rw[b];exact .pure
theorem kf(h:C.Ok)(j:C.T.get t=some i):(∀b,i.cu=.struct b->aJ C.P (isAgg t) true)/\(∀n e,i.cu=.array n e->aJ C.P (isAgg t) true)/\
  ((∀b,i.cu≠.struct b)->(∀n e,i.cu≠.array n e)->i.cu≠.other->aJ C.P (isAgg t) false):=by
 have a:=h.cu j;refine⟨fun b c=>?_,fun n e c=>?_,fun k f h3=>?_⟩
 ·rw[c]at a;obtain⟨l,g,_⟩:=oL a;exact(aI g).bind .pure
 ·rw[c]at a;exact(aI (rJ a)).bind .pure
 ·cases hu:C.P.underlying t with
  |none=>rw[hu]at a;exact absurd a.symm h3
  |some d=>
   refine(aI hu).bind ?_;rw[hu]at a;cases d<;>first|exact .pure|(exfalso;simp only[ij]at a;first|exact k _ a.symm|exact f _ _ a.symm)
end
theorem Co{ev:Operand->Option Value}{e:Operand->Value}(c:∀x v,ev x=some v->e x=v):∀{l:List Operand} {vs:List Value},pJ ev l=some vs->l.map e=vs:=by
 intro l
 induction l with
 |nil=>intro vs h;cases h;rfl
 |cons x r ih=>
  intro vs h;simp only[pJ]at h;split at h
  ·rename_i v b;split at h
   ·rename_i us a;cases h;simp[c _ _ b,ih a]
   ·cases h
  ·cases h
theorem HD{ev:Operand->Option Value}{e:Operand->Value}(b:∀x v,ev x=some v->e x=v):∀{l:List (Nat×Operand)} {vs:List (Nat×Value)},EG ev l=some vs->l.map (fun p=>(p.1,e p.2))=vs:=by
 intro l
 induction l with
 |nil=>intro vs h;cases h;rfl
 |cons x r ih=>
  intro vs h;obtain⟨n,x⟩:=x;simp only[EG]at h;split at h
  ·rename_i v c;split at h
   ·rename_i us a;cases h;simp[b _ _ c,ih a]
   ·cases h
  ·cases h
section
variable {P:Program}
theorem Ir(t:TypeId)(x y:Value):Op.equal t x y=Op.equalIn (9999+1) t x y:=rfl
theorem acU{t:TypeId}(c:P.underlying t=some .bool)(d:Nat)(a b:Bool):aJ P (Op.equalIn (d+1) t (.bool a) (.bool b)) (a==b):=fun w=>by
 simp[Op.equalIn,underlying,c]
theorem aec{t e:TypeId}(b:P.underlying t=some (.pointer e))(d:Nat)(a:Option Addr):aJ P (Op.equalIn (d+1) t (.pointer a) (.pointer none)) a.isNone:=fun w=>by
 cases a<;>simp[Op.equalIn,underlying,b]
theorem aae{t e:TypeId}(f:P.underlying t=some (.slice e))(d:Nat)(a:Option Addr)(l c b g:Nat):aJ P (Op.equalIn (d+1) t (.slice a l c) (.slice none b g)) a.isNone:=fun w=>by
 cases a<;>simp[Op.equalIn,underlying,f]
theorem US{t:TypeId}{d:Option DH}{op:BinOp}{a b:Value}{x y:Operand}{K:Value->Prop}(o:∀q,d=some q->ij (P.underlying t)=q)
  (h:(aab P t x y d op a b).holds K):∃v,aJ P (do eqGuard op t x y a b;binOp op t a b) v/\K v:=by
 have j:∀{a b:Value},¬(a=.nilIface/\b=.nilIface)->(∀u v,¬(a=.agg u/\b=.agg v))->aJ P (eqGuard op t x y a b) ():=by
  intro a b f i w;simp only[eqGuard];cases op<;>simp only[Bool.not_true,Bool.not_false,zf,if_true,if_false]<;>
   first
    |rfl
    |(split<;>first|exact absurd ⟨rfl,rfl⟩ f|exact absurd ⟨rfl,rfl⟩ (i _ _)|rfl)
 unfold aab at h;split at h
 ·rename_i k a m b;have g:=j (a:=.int k a) (b:=.int m b) (by simp) (by simp);cases op<;>simp only at h
  case shl=>exact⟨_,g.bind fun w=>by simp only[binOp,Op.shift];rw[if_neg (by have:=h.1;omega)];rfl,h.2⟩
  case shr=>exact⟨_,g.bind fun w=>by simp only[binOp,Op.shift];rw[if_neg (by have:=h.1;omega)];rfl,h.2⟩
  all_goals
   cases hk:Bp k m with
   |false=>rw[hk]at h;simp[PV.holds]at h
   |true=>
    rw[hk]at h;simp only[cond_true,PV.holds]at h;have e:=HC hk;subst e
    first
     |exact⟨_,g.bind fun w=>by simp[binOp,Op.intArith,Op.intBits,Op.intCmp],h⟩
     |exact⟨_,g.bind fun w=>by simp[binOp,Op.intDiv,h.1],h.2⟩
     |exact h.elim
 ·rename_i k a m b;have g:=j (a:=.float k a) (b:=.float m b) (by simp) (by simp);cases hk:EE k m with
  |false=>rw[hk]at h;simp[PV.holds]at h
  |true=>
   rw[hk]at h;have e:=EF hk;subst e;cases op<;>simp only[cond_true,PV.holds]at h<;>
    first
     |(obtain⟨r,f,i⟩:=h;exact⟨_,g.bind fun w=>by simp[binOp,Op.floatArith,f],i⟩)
     |exact⟨_,g.bind fun w=>by simp[binOp,Op.floatCmp],h⟩
     |exact h.elim
 ·rename_i a b;have g:=j (a:=.string a) (b:=.string b) (by simp) (by simp);cases op<;>simp only[PV.holds]at h<;>
   first
    |exact⟨_,g.bind fun w=>by simp[binOp,Op.stringOp],h⟩
    |exact⟨_,g.bind fun w=>by simp only[binOp,Op.stringOp];rw[if_neg (by have:=h.1;omega)];rfl,h.2⟩
    |exact h.elim
 ·rename_i a b;have g:=j (a:=.bool a) (b:=.bool b) (by simp) (by simp);split at h
  ·have n:=aad (o _ rfl);cases op<;>simp only[PV.holds]at h<;>
    first
     |exact⟨_,g.bind (by simp only[binOp,Ir];exact(acU n _ a b).bind .pure),h⟩
     |exact h.elim
  ·exact h.elim
 ·rename_i a b;cases hy:abT y with
  |true=>
   rw[hy]at h;obtain⟨r,f,i⟩:=h;exact⟨_,f,i⟩
  |false=>
   rw[hy]at h;cases b with
   |some _=>exact h.elim
   |none=>
    have g:=j (a:=.pointer a) (b:=.pointer none) (by simp) (by simp);simp only[cond_false]at h;split at h
    ·rename_i e;have n:=acT (o _ rfl);cases op<;>simp only[PV.holds]at h<;>
      first
       |exact⟨_,g.bind (by simp only[binOp,Ir];exact(aec n _ a).bind .pure),h⟩
       |exact h.elim
    ·exact h.elim
 ·rename_i a l c p s;have g:=j (a:=.slice a l c) (b:=.slice none p s) (by simp) (by simp);split at h
  ·rename_i e;have n:=hG (o _ rfl);cases op<;>simp only[PV.holds]at h<;>
    first
     |exact⟨_,g.bind (by simp only[binOp,Ir];exact(aae n _ a l c p s).bind .pure),h⟩
     |exact h.elim
  ·exact h.elim
 ·obtain⟨r,f,i⟩:=h;exact⟨_,f,i⟩
 ·split at h
  ·obtain⟨r,f,i⟩:=h;exact⟨_,f,i⟩
  ·obtain⟨r,f,i⟩:=h;exact⟨_,f,i⟩
  ·obtain⟨r,f,i⟩:=h;exact⟨_,f,i⟩
 ·exact h.elim
theorem UT{t:TypeId}{d:Option DH}{op:BinOp}{a b:Value}{x y:Operand}{K:Value->Prop}(e:∀q,d=some q->ij (P.underlying t)=q)
  (h:(aac P t x y d op a b).holds K):∃v,aJ P (do eqGuard op t x y a b;binOp op t a b) v/\K v:=by
 unfold aac at h;split at h
 ·obtain⟨r,f,c⟩:=h;exact⟨_,f,c⟩
 ·exact US e h
end
theorem Pj(a:List Value)(off n:Nat):((a.drop off).take n).toArray=(a.toArray).extract off (off+n):=by
 apply yw;simp[List.extract_eq_take_drop]
section
variable {C:Bq} {ev:Operand->Option Value} {e:Operand->Value}
theorem mV(b:C.Ok):∀{c:List Field} {a:List (Nat×Nat)},placesOf C.T (c.map fun f=>(f.offset,f.type))=some a->
  aJ C.P (c.mapM fun f=>(do pure (f.offset,<-sizeOf f.type):Sem (Nat×Nat))) a
 |[],a,h=>by cases h;exact .pure
 |f::r,a,h=>by
  simp only[List.map_cons,placesOf]at h;split at h
  ·rename_i j d;split at h
   ·rename_i g e;cases h;rw[List.mapM_cons];exact aJ.bind ((cY b d).bind .pure) ((mV b e).bind .pure)
   ·cases h
  ·cases h
theorem HE(b:C.Ok){t:TypeId}{j:TI}(g:C.T.get t=some j)(h:∀c,j.cu≠.struct c)(d:∀n e,j.cu≠.array n e)(h3:j.cu≠.other)
  {a:Array Value} {off:Nat} {v:Value} (f:a[off]?=some v):aJ C.P (part t a off) v:=by
 refine((kf b g).2.2 h d h3).bind ?_;rw[f];exact .pure
theorem Pk(a:C.Ok){t:TypeId}{j:TI}(c:C.T.get t=some j)(h:(∃b,j.cu=.struct b)∨∃n e,j.cu=.array n e)
  {d:Array Value} {off:Nat}:aJ C.P (part t d off) (.agg (d.extract off (off+j.size))):=by
 have f:aJ C.P (isAgg t) true:=by
  rcases h with⟨b,h⟩|⟨n,e,h⟩
  ·exact(kf a c).1 b h
  ·exact(kf a c).2.1 n e h
 exact f.bind ((cY a c).bind .pure)
theorem Jr(I:C.Ok)(G:∀x v,ev x=some v->e x=v){o:Oper}{K:Value->Prop}(h:(Bt C.P C.T o.op ev).holds K):
  ∃v,rI C.P (execOp e o) v/\K v:=by
 have M:∀t q,(C.T.get t).map (·.cu)=some q->ij (C.P.underlying t)=q:=fun t q h=>by
  cases F:C.T.get t with
  |none=>rw[F]at h;cases h
  |some i=>rw[F]at h;cases h;exact I.cu F
 cases hop:o.op<;>rw[hop]at h<;>simp only[Bt]at h<;>simp only[execOp,hop]
 case move x=>
  split at h
  ·rename_i v A;rw[G _ _ A];exact⟨v,fun _=>rfl,h⟩
  ·exact h.elim
 case assign x=>
  split at h
  ·rename_i v A;rw[G _ _ A];exact⟨v,fun _=>rfl,h⟩
  ·exact h.elim
 case pick c a b=>
  split at h
  ·rename_i t x y N h2 h3;rw[G _ _ N,G _ _ h2,G _ _ h3];cases t
   ·exact⟨y,fun _=>rfl,h⟩
   ·exact⟨x,fun _=>rfl,h⟩
  ·exact h.elim
 case nilCheck x=>
  split at h
  ·rename_i p hp;obtain⟨a,rfl,B⟩:=h;rw[G _ _ hp];exact⟨_,fun _=>rfl,B⟩
  ·exact h.elim
 case fieldAddr s x f=>
  split at h
  ·rename_i a ha;rw[G _ _ ha];split at h
   ·rename_i i F;split at h
    ·rename_i fs Y;split at h
     ·rename_i off t ap;split at h
      ·rename_i j R;cases hz:wI j.size 0 with
       |true=>rw[hz]at h;exact h.elim
       |false=>
        rw[hz]at h;have E:=I.cu F;rw[Y]at E;obtain⟨gs,hg,rfl⟩:=oL E;simp only[qO,yY]at ap;obtain⟨g,a6,a7⟩:=ap;cases a7;refine⟨_,aJ.next ((aI hg).bind ?_),h⟩;have ad:gs[f]?=some g:=by simpa using a6
        simp only[ad];refine aJ.bind (v:=a) .pure (aJ.bind (v:=a.add g.offset) ?_ .pure);unfold fieldPlace;refine(cY I R).bind ?_;have:j.size≠0:=fun e=>by rw[e]at hz;cases hz
        rw[if_neg this];exact .pure
      ·exact h.elim
     ·exact h.elim
    ·exact h.elim
   ·exact h.elim
  ·exact h.elim
 case indexAddr t x ix=>
  split at h
  ·rename_i k n hn;rw[G _ _ hn];split at h
   ·rename_i p len cap S;rw[G _ _ S];split at h
    ·rename_i i F;split at h
     ·rename_i el D;split at h
      ·rename_i j R;obtain⟨a,⟨rfl,h0,N⟩,B⟩:=h;have E:=I.cu F;rw[D]at E;have H:=hG E;refine⟨_,aJ.next ?_,B⟩;unfold Instr.indexAt;refine aJ.bind (v:=(k,n)) .pure ?_;refine(aI H).bind ?_;refine aJ.bind (v:=(some a,len,el)) .pure ?_;intro w;have:=cY I R w;simp only[Sem.run_bind,aI H w,Result.andThen_ok];cases hl:decide (len<=1)<;>simp[h0,N,this]
      ·exact h.elim
     ·exact h.elim
    ·exact h.elim
   ·rename_i a S;rw[G _ _ S];split at h
    ·rename_i i F;split at h
     ·rename_i m el D;split at h
      ·rename_i j R;obtain⟨⟨h0,N⟩,B⟩:=h;have E:=I.cu F;rw[D]at E;have H:=rJ E;refine⟨_,aJ.next ?_,B⟩;unfold Instr.indexAt;refine aJ.bind (v:=(k,n)) .pure ?_;refine(aI H).bind ?_;refine aJ.bind (v:=(some a,m,el)) .pure ?_;intro w;have:=cY I R w;simp only[Sem.run_bind,aI H w,Result.andThen_ok];cases hl:decide (m<=1)<;>simp[h0,N,this]
      ·exact h.elim
     ·exact h.elim
    ·exact h.elim
   ·exact h.elim
  ·exact h.elim
 case index t x ix=>
  split at h
  ·rename_i k n hn;rw[G _ _ hn];split at h
   ·rename_i s S;rw[G _ _ S];split at h
    ·rename_i i F;split at h
     ·rename_i D;obtain⟨b,⟨h0,N⟩,B⟩:=h;have E:=I.cu F;rw[D]at E;have H:=uk E;refine⟨_,aJ.next ?_,B⟩;unfold Instr.index;refine aJ.bind (v:=(k,n)) .pure ?_;refine(aI H).bind ?_;have hb:s[n.toNat]?=some b:=by
       rw[Array.getElem?_eq_some_iff]at N;obtain⟨bq,hg⟩:=N;have a8:n.toNat<s.size:=bq;rw[getElem?_pos s n.toNat a8];exact congrArg some hg
      simp only[h0,if_true,hb];exact .pure
     ·exact h.elim
    ·exact h.elim
   ·rename_i cs S;rw[G _ _ S];split at h
    ·rename_i i F;split at h
     ·rename_i m el D;split at h
      ·rename_i j R;split at h
       ·rename_i s hs;have E:=I.cu F;rw[D]at E;have H:=rJ E;have ah:(∃y,(0<=n/\n<(m:Int)/\cs[n.toNat]?=some (s.enc y))/\K (s.enc y))->(∀fs,j.cu≠.struct fs)->(∀n e,j.cu≠.array n e)->j.cu≠.other->j.size=1->
          ∃v,rI C.P (do pure (.value (<-Instr.index t (.agg cs) (.int k n)))) v/\K v:=by
         rintro⟨y,⟨h0,N,h2⟩,B⟩ d1 d2 d3 bs;refine⟨_,aJ.next ?_,B⟩;unfold Instr.index;refine aJ.bind (v:=(k,n)) .pure ?_;refine(aI H).bind ?_;simp only[h0,N,and_self,if_true];refine(cY I R).bind ?_;rw[bs,Nat.mul_one];exact HE I R d1 d2 d3 h2
        split at h
        ·exact h.elim
        ·exact h.elim
        ·exact h.elim
        ·rename_i d1 d2 d3;cases hz:wI j.size 1 with
         |false=>rw[hz]at h;exact h.elim
         |true=>
          rw[hz]at h;exact ah h d1 d2 d3 (zG hz)
       ·exact h.elim
      ·exact h.elim
     ·exact h.elim
    ·exact h.elim
   ·exact h.elim
  ·exact h.elim
 case field s x f=>
  split at h
  ·rename_i cs S;rw[G _ _ S];split at h
   ·rename_i i F;split at h
    ·rename_i fs Y;split at h
     ·rename_i off t ap;split at h
      ·rename_i j R;have E:=I.cu F;rw[Y]at E;obtain⟨gs,hg,rfl⟩:=oL E;simp only[qO,yY]at ap;obtain⟨g,a6,a7⟩:=ap;cases a7;have ad:gs[f]?=some g:=by simpa using a6
       have ah:∀v,aJ C.P (part g.type ⟨cs⟩ g.offset) v->K v->∃v,rI C.P (do pure (.value (<-Instr.field s (.agg ⟨cs⟩) f))) v/\K v:=by
        intro v A B;refine⟨v,aJ.next ((aI hg).bind ?_),B⟩;simp only[ad];exact aJ.bind (v:=(⟨cs⟩:Array Value)) .pure A
       split at h
       ·rename_i b1 ay;refine ah _ (Pk I R (.inl ⟨_,ay⟩)) ?_;rw[<-Pj];exact h
       ·rename_i n' e' ay;refine ah _ (Pk I R (.inr ⟨_,_,ay⟩)) ?_;rw[<-Pj];exact h
       ·exact h.elim
       ·rename_i d1 d2 d3;split at h
        ·rename_i v A;exact ah v (HE I R d1 d2 d3 (by simpa using A)) h
        ·exact h.elim
      ·exact h.elim
     ·exact h.elim
    ·exact h.elim
   ·exact h.elim
  ·exact h.elim
 case slice t x W hi0 mx=>
  split at h
  ·exact h.elim
  ·split at h
   ·rename_i l r hl hr;have a5:(W=none/\l=none)∨∃y k m,W=some y/\e y=.int k m/\l=some m:=by
     cases W with
     |none=>cases hl;exact .inl ⟨rfl,rfl⟩
     |some y=>
      simp only[Jq]at hl;split at hl
      ·rename_i k m hm;cases hl;exact .inr ⟨y,k,m,rfl,G _ _ hm,rfl⟩
      ·cases hl
    have a0:(hi0=none/\r=none)∨∃y k m,hi0=some y/\e y=.int k m/\r=some m:=by
     cases hi0 with
     |none=>cases hr;exact .inl ⟨rfl,rfl⟩
     |some y=>
      simp only[Jq]at hr;split at hr
      ·rename_i k m hm;cases hr;exact .inr ⟨y,k,m,rfl,G _ _ hm,rfl⟩
      ·cases hr
    have J:∀(bb:Bool) (len cap:Nat) (W F:Option Value) (a b:Nat),(W=none->a=0)->(∀v,W=some v->∃k m,v=.int k m/\0<=m/\a=m.toNat/\m<=(b:Int))->
      (F=none->b=len)->(∀v,F=some v->∃k m,v=.int k m/\0<=m/\b=m.toNat/\m<=(cap:Int))->
      aJ C.P (wE bb len cap W F none) (a,b,cap):=by
     intro bb len cap W F a b N h2 h3 h4 w;cases F with
     |none=>
      have e1:=h3 rfl;subst e1;cases W with
      |none=>rw[N rfl];simp[wE]
      |some v=>
       obtain⟨k,m,rfl,x1,rfl,x2⟩:=h2 v rfl;simp[wE,vI,asIntOf,x1,x2]
     |some u=>
      obtain⟨k',V,rfl,y1,rfl,y2⟩:=h4 u rfl;cases W with
      |none=>rw[N rfl];simp[wE,vI,asIntOf,y1,y2]
      |some v=>
       obtain⟨k,m,rfl,x1,rfl,x2⟩:=h2 v rfl;have x3:¬max V 0<m:=by omega
       simp[wE,vI,asIntOf,x1,y1,y2,x3]
    split at h
    ·rename_i p len cap S;rw[G _ _ S];split at h
     ·rename_i i F;split at h
      ·rename_i el D;split at h
       ·rename_i j R;have E:=I.cu F;rw[D]at E;have H:=hG E;have fin:∀(a b:Nat) (v:Value),aJ C.P (wE true len cap (W.map e) (hi0.map e) none) (a,b,cap)->
          v=.slice (if cap=a then p else p.map (·.add (a*j.size))) (b-a) (cap-a)->K v->
          ∃v,rI C.P (do pure (.value (<-yk t (.slice p len cap) (W.map e) (hi0.map e) (Option.map e none)))) v/\K v:=by
         intro a b v hb A B;refine⟨v,aJ.next ?_,B⟩;unfold yk;refine(aI H).bind ?_;simp only[xi,Option.map_none];refine(aI H).bind ?_;refine hb.bind ?_;subst A;exact(cY I R).bind .pure
        have am:(if cap=0 then p else p.map (·.add (0*j.size)))=p:=by
         cases p<;>simp[Addr.add]
        rcases a5 with⟨rfl,rfl⟩|⟨y,k,m,rfl,hy,rfl⟩<;>rcases a0 with⟨rfl,rfl⟩|⟨y',k',V,rfl,hy',rfl⟩
        ·exact fin 0 len _ (J _ _ _ _ _ _ _ (fun _=>rfl) (by simp) (fun _=>rfl) (by simp)) (by rw[am];rfl) h
        ·obtain⟨⟨U,Z⟩,B⟩:=h;exact fin 0 V.toNat _ (J _ _ _ _ _ _ _ (fun _=>rfl) (by simp) (by simp) (fun v A=>by cases A;exact⟨k',V,hy',U,rfl,Z⟩)) (by rw[am];rfl) B
        ·obtain⟨⟨U,Z⟩,B⟩:=h;exact fin m.toNat len _ (J _ _ _ _ _ _ _ (by simp) (fun v A=>by cases A;exact⟨k,m,hy,U,rfl,Z⟩) (fun _=>rfl) (by simp)) rfl B
        ·obtain⟨⟨U,Z,a3⟩,B⟩:=h;exact fin m.toNat V.toNat _ (J _ _ _ _ _ _ _ (by simp) (fun v A=>by cases A;exact⟨k,m,hy,U,rfl,by omega⟩) (by simp) (fun v A=>by cases A;exact⟨k',V,hy',by omega,rfl,a3⟩)) rfl B
       ·exact h.elim
      ·exact h.elim
     ·exact h.elim
    ·rename_i s S;rw[G _ _ S];split at h
     ·rename_i i F;split at h
      ·rename_i D;have E:=I.cu F;rw[D]at E;have H:=uk E;have fin:∀(a b:Nat) (v:Value),aJ C.P (wE false s.size s.size (W.map e) (hi0.map e) none) (a,b,s.size)->
         v=.string (s.extract a b)->K v->
         ∃v,rI C.P (do pure (.value (<-yk t (.string s) (W.map e) (hi0.map e) (Option.map e none)))) v/\K v:=by
        intro a b v hb A B;refine⟨v,aJ.next ?_,B⟩;unfold yk;refine(aI H).bind ?_;simp only[xi,Option.map_none];refine(aI H).bind ?_;subst A;intro w;simp[hb w]
       rcases a5 with⟨rfl,rfl⟩|⟨y,k,m,rfl,hy,rfl⟩<;>rcases a0 with⟨rfl,rfl⟩|⟨y',k',V,rfl,hy',rfl⟩
       ·exact fin 0 s.size _ (J _ _ _ _ _ _ _ (fun _=>rfl) (by simp) (fun _=>rfl) (by simp)) rfl h
       ·obtain⟨⟨U,Z⟩,B⟩:=h;exact fin 0 V.toNat _ (J _ _ _ _ _ _ _ (fun _=>rfl) (by simp) (by simp) (fun v A=>by cases A;exact⟨k',V,hy',U,rfl,Z⟩)) rfl B
       ·obtain⟨⟨U,Z⟩,B⟩:=h;exact fin m.toNat s.size _ (J _ _ _ _ _ _ _ (by simp) (fun v A=>by cases A;exact⟨k,m,hy,U,rfl,Z⟩) (fun _=>rfl) (by simp)) rfl B
       ·obtain⟨⟨U,Z,a3⟩,B⟩:=h;exact fin m.toNat V.toNat _ (J _ _ _ _ _ _ _ (by simp) (fun v A=>by cases A;exact⟨k,m,hy,U,rfl,by omega⟩) (by simp) (fun v A=>by cases A;exact⟨k',V,hy',by omega,rfl,a3⟩)) rfl B
      ·exact h.elim
     ·exact h.elim
    ·rename_i a S;rw[G _ _ S];split at h
     ·rename_i i F;split at h
      ·rename_i n el D;split at h
       ·rename_i j R;have E:=I.cu F;rw[D]at E;have H:=rJ E;have fin:∀(a' b:Nat) (v:Value),aJ C.P (wE false n n (W.map e) (hi0.map e) none) (a',b,n)->
          v=.slice (some (if n=a' then a else a.add (a'*j.size))) (b-a') (n-a')->K v->
          ∃v,rI C.P (do pure (.value (<-yk t (.pointer (some a)) (W.map e) (hi0.map e) (Option.map e none)))) v/\K v:=by
         intro a' b v hb A B;refine⟨v,aJ.next ?_,B⟩;unfold yk;refine(aI H).bind ?_;simp only[Option.map_none];refine aJ.bind (v:=a) .pure ?_;refine hb.bind ?_;subst A;exact(cY I R).bind .pure
        have am:(if n=0 then a else a.add (0*j.size))=a:=by simp[Addr.add]
        rcases a5 with⟨rfl,rfl⟩|⟨y,k,m,rfl,hy,rfl⟩<;>rcases a0 with⟨rfl,rfl⟩|⟨y',k',V,rfl,hy',rfl⟩
        ·exact fin 0 n _ (J _ _ _ _ _ _ _ (fun _=>rfl) (by simp) (fun _=>rfl) (by simp)) (by rw[am];rfl) h
        ·obtain⟨⟨U,Z⟩,B⟩:=h;exact fin 0 V.toNat _ (J _ _ _ _ _ _ _ (fun _=>rfl) (by simp) (by simp) (fun v A=>by cases A;exact⟨k',V,hy',U,rfl,Z⟩)) (by rw[am];rfl) B
        ·obtain⟨⟨U,Z⟩,B⟩:=h;exact fin m.toNat n _ (J _ _ _ _ _ _ _ (by simp) (fun v A=>by cases A;exact⟨k,m,hy,U,rfl,Z⟩) (fun _=>rfl) (by simp)) rfl B
        ·obtain⟨⟨U,Z,a3⟩,B⟩:=h;exact fin m.toNat V.toNat _ (J _ _ _ _ _ _ _ (by simp) (fun v A=>by cases A;exact⟨k,m,hy,U,rfl,by omega⟩) (by simp) (fun v A=>by cases A;exact⟨k',V,hy',by omega,rfl,a3⟩)) rfl B
       ·exact h.elim
      ·exact h.elim
     ·exact h.elim
    ·exact h.elim
   ·exact h.elim
 case extract x n=>
  split at h
  ·rename_i vs S;rw[G _ _ S];split at h
   ·rename_i v A;refine⟨v,aJ.next ?_,h⟩;have:(⟨vs⟩:Array Value)[n]?=some v:=by simpa using A
    simp only[Instr.extract,this];exact .pure
   ·exact h.elim
  ·exact h.elim
 case binOp op t x y u=>
  split at h
  ·rename_i a b ha hb;rw[G _ _ ha,G _ _ hb];obtain⟨v,A,B⟩:=UT (P:=C.P) (x:=x) (y:=y) (M t) h;exact⟨v,A.next,B⟩
  ·exact h.elim
 case unOp op t x=>
  split at h
  ·rename_i v A;rw[G _ _ A];unfold unV at h;split at h
   ·split at h
    ·exact⟨_,aJ.next .pure,h⟩
    ·exact h.elim
   ·split at h
    ·exact⟨_,aJ.next .pure,h⟩
    ·exact⟨_,aJ.next .pure,h⟩
    ·exact h.elim
   ·exact h.elim
  ·exact h.elim
 case convert s d x=>
  split at h
  ·rename_i v ks A bk;rw[G _ _ A];have hs:=Bu (M _ _ bk);unfold abU at h;split at h
   ·split at h
    ·rename_i n _ k B;have H:=Bu (M _ _ B);refine⟨_,aJ.next ?_,h⟩;unfold convert;refine(aI hs).bind ((aI H).bind ?_);exact .pure
    ·exact h.elim
   ·exact h.elim
  ·exact h.elim
 case build t parts=>
  split at h
  ·rename_i vs a9;have hp:(parts.map fun(i,x)=>(i,e x)).toList=vs:=by
    have:=HD G a9;simpa using this
   split at h
   ·rename_i i F;obtain⟨z,hz,bl⟩:=rp I F;have ax:i.zero.toArray=z.cells:=by rw[<-bl]
    cases hbig:vO 24 i.size with
    |true=>
     rw[hbig]at h;obtain⟨v,A,B⟩:=h;have bd:(parts.map fun(i,x)=>(i,e x))=vs.toArray:=by rw[<-hp]
     refine⟨v,aJ.next ?_,B⟩;show aJ C.P (ve t (parts.map fun(i,x)=>(i,e x))) v;rw[bd];exact A
    |false=>
    rw[hbig]at h;simp only[cond_false]at h;split at h
    ·rename_i fs Y;have E:=I.cu F;rw[Y]at E;obtain⟨gs,hg,rfl⟩:=oL E;split at h
     ·rename_i ps br;split at h
      ·rename_i cells Q;refine⟨_,aJ.next (hz.bind ((aI hg).bind ?_)),h⟩;have b0:aJ C.P (gs.mapM fun f=>(do pure (f.offset,<-sizeOf f.type):Sem (Nat×Nat))) ps.toArray:=by
        rw[vk];intro w;have:=mV I br w;rw[map_eq_pure_bind,Sem.run_bind,this];rfl
       refine b0.bind ?_;have a4:wC (fun n=>ps.toArray[n]?) z.cells (parts.map fun(i,x)=>(i,e x)).toList=some cells:=by
        rw[hp,<-ax];simpa using Q
       rw[a4];exact .pure
      ·exact h.elim
     ·exact h.elim
    ·rename_i n el Y;have E:=I.cu F;rw[Y]at E;have H:=rJ E;split at h
     ·rename_i j R;split at h
      ·rename_i cells Q;refine⟨_,aJ.next (hz.bind ((aI H).bind ((cY I R).bind ?_))),h⟩;have a4:wC (fun i=>some (i*j.size,j.size)) z.cells (parts.map fun(i,x)=>(i,e x)).toList=some cells:=by
        rw[hp,<-ax];exact Q
       rw[a4];exact .pure
      ·exact h.elim
     ·exact h.elim
    ·exact h.elim
   ·exact h.elim
  ·exact h.elim
 case makeFunc fn first captured=>
  split at h
  ·rename_i a b ha hb;have N:first.map e=a.toArray:=by apply yw;simpa using Co G ha
   have h2:captured.map e=b.toArray:=by apply yw;simpa using Co G hb
   refine⟨_,aJ.next ?_,h⟩;rw[N,h2];exact .pure
  ·exact h.elim
 case call c=>
  split at h
  ·rename_i b hb;have L:∀{v:Value},aJ C.P (builtin b c.argTypes o.type (c.args.map fun| .const _=>true|_=>false) (c.args.map e)) (.value v)->
     rI C.P (do let d<-resolve e c o.type;invoke d.target d.args) v:=by
    intro v A w;have:=A w;unfold resolve;rw[hb];exact this
   have O:∀{vs:List Value},pJ ev c.args.toList=some vs->c.args.map e=vs.toArray:=fun A=>by
    apply yw;simpa using Co G A
   have X:∀{s:Sem Value} {v:Value},aJ C.P s v->aJ C.P (do pure (Next.value (<-s))) (.value v):=fun hs=>hs.bind .pure;split at h
   case h_1=>
    split at h
    ·rename_i t ts x N h2;split at h
     ·rename_i v A;have ha:c.args.map e=#[v]:=by
       apply yw;rw[vJ,h2];simp[G _ _ A]
      have ht:c.argTypes[0]?=some t:=by
       rw[<-Array.getElem?_toList,N];rfl
      unfold aea at h;split at h
      ·rename_i p n cap;split at h
       ·rename_i el D;have H:=hG (M _ _ D);refine⟨_,L ?_,h⟩;rw[ha];refine X ?_;intro w;simp[Builtin.len_,ht,underlying,H,goInt]
       ·exact h.elim
      ·rename_i s;split at h
       ·rename_i D;have H:=uk (M _ _ D);refine⟨_,L ?_,h⟩;rw[ha];refine X ?_;intro w;simp[Builtin.len_,ht,underlying,H,goInt]
       ·exact h.elim
      ·exact h.elim
     ·exact h.elim
    ·exact h.elim
   case h_2=>
    split at h
    ·rename_i t ts x N h2;split at h
     ·rename_i v A;have ha:c.args.map e=#[v]:=by
       apply yw;rw[vJ,h2];simp[G _ _ A]
      have ht:c.argTypes[0]?=some t:=by
       rw[<-Array.getElem?_toList,N];rfl
      unfold aeb at h;split at h
      ·rename_i p n cap;split at h
       ·rename_i el D;have H:=hG (M _ _ D);refine⟨_,L ?_,h⟩;rw[ha];refine X ?_;intro w;simp[Builtin.cap_,ht,underlying,H,goInt]
       ·exact h.elim
      ·exact h.elim
     ·exact h.elim
    ·exact h.elim
   case h_3=>
    split at h
    ·rename_i k a k' b A;refine⟨_,L ?_,h⟩;rw[O A];refine X ?_;intro w;simp[Builtin.min_,Builtin.min2]
    ·exact h.elim
   case h_4=>
    split at h
    ·rename_i k a k' b A;refine⟨_,L ?_,h⟩;rw[O A];refine X ?_;intro w;simp[Builtin.max_,Builtin.max2]
    ·exact h.elim
   case h_5=>
    split at h
    ·rename_i k a b A;refine⟨_,L ?_,h⟩;rw[O A];exact X .pure
    ·exact h.elim
   case h_6=>
    split at h
    ·rename_i k a b A;refine⟨_,L ?_,h⟩;rw[O A];exact X .pure
    ·exact h.elim
   all_goals exact h.elim
  ·exact h.elim
 all_goals exact h.elim
end
def al(h:Heap)(a:Addr):Nat->List Value->Prop
 |_,[]=>True
 |n,v::r=>cellOf h (a.add n)=some v/\al h a (n+1) r
structure Aa where
 a:Addr
 ty:Ty
 n:Nat
def Aa.holds(r:Aa)(h:Heap)(y:r.ty.den):Prop:=
 match r.ty,y with
 | .sc s,y=>cellOf h r.a=some (s.enc y)
 | .agg l,y=>al h r.a 0 (AH l y)
 | .arr s,y=>y.length=r.n/\al h r.a 0 (y.map s.enc)
def uy(T:jx)(op:Op)(ev:Operand->Option Value):Option Aa:=
 match op with
 | .load t x=>match ev x with
  |some (.pointer (some a))=>match T.get t with
   |some i=>match i.cu with
    | .struct _=>match i.ty with
     | .agg l=>bif wI l.length i.size then some ⟨a,i.ty,i.size⟩else none
     |_=>none
    | .array _ _=>match i.ty with
     | .arr _=>some ⟨a,i.ty,i.size⟩
     |_=>none
    | .other=>none
    |_=>match i.ty with
     | .sc _=>some ⟨a,i.ty,1⟩
     |_=>none
   |none=>none
  |_=>none
 |_=>none
theorem HG:∀(l:List Sc) (x:Ls l),(AH l x).length=l.length
 |[],_=>rfl
 |[_],_=>rfl
 |_::t::r,x=>by simp only[AH,zi];rw[HG (t::r) x.2];rfl
theorem run_loadCells{P:Program}{w:World}{a:Addr}:∀(vs:List Value) (i:Nat) (b:Array Value),al w.heap a i vs->
  (loadCellsFrom a i vs.length b).run P w=.ok (b++vs.toArray) w
 |[],i,b,_=>by simp[loadCellsFrom]
 |v::r,i,b,h=>by
  simp only[zi,loadCellsFrom,Sem.run_bind,run_load,Lq,h.1,Result.andThen_ok];rw[run_loadCells r (i+1) (b.push v) h.2];simp
theorem Cp{C:Bq}(j:C.Ok){ev:Operand->Option Value}{e:Operand->Value}(E:∀x v,ev x=some v->e x=v){o:Oper}{r:Aa}
  (b:uy C.T o.op ev=some r) {y:r.ty.den} {w:World} (d:r.holds w.heap y):(execOp e o).run C.P w=.ok (.value (r.ty.enc y)) w:=by
 unfold uy at b;split at b
 ·rename_i t x q;simp only[execOp,q];split at b
  ·rename_i a G;rw[E _ _ G];split at b
   ·rename_i i k;have g:(∀v,(loadVar t a).run C.P w=.ok v w->(do let s<-vW t (.pointer (some a));pure (Next.value s):Sem Next).run C.P w=.ok (.value v) w):=by
     intro v D;have:vW t (.pointer (some a))=loadVar t a:=rfl;rw[this,Sem.run_bind,D];rfl
    split at b
    ·rename_i A h;split at b
     ·rename_i l f;cases hb:wI l.length i.size with
      |false=>rw[hb]at b;cases b
      |true=>
       rw[hb]at b;simp only[cond_true,zO.injEq]at b;subst b;have p:=zG hb;have c:∀(ty:Ty) (y:ty.den),ty=.agg l->Aa.holds ⟨a,ty,i.size⟩ w.heap y->(loadVar t a).run C.P w=.ok (ty.enc y) w:=by
        rintro ty y rfl d;unfold loadVar;rw[Sem.run_bind,(kf j k).1 A h w];simp only[Result.andThen_ok,if_true,Sem.run_bind,cY j k w];have m:=run_loadCells (P:=C.P) (w:=w) (a:=a) (AH l y) 0 #[] d;rw[HG,p]at m;unfold loadCells;rw[m];simp
       exact g _ (c i.ty y f d)
     ·cases b
    ·rename_i n F h;split at b
     ·rename_i s f;cases b;have c:∀(ty:Ty) (y:ty.den),ty=.arr s->Aa.holds ⟨a,ty,i.size⟩ w.heap y->(loadVar t a).run C.P w=.ok (ty.enc y) w:=by
       rintro ty y rfl ⟨f,d⟩;unfold loadVar;rw[Sem.run_bind,(kf j k).2.1 n F h w];simp only[Result.andThen_ok,if_true,Sem.run_bind,cY j k w];have m:=run_loadCells (P:=C.P) (w:=w) (a:=a) (y.map s.enc) 0 #[] d;rw[List.length_map,f]at m;unfold loadCells;rw[m];simp
      exact g _ (c i.ty y f d)
     ·cases b
    ·cases b
    ·rename_i B z H;split at b
     ·rename_i s f;cases b;have c:∀(ty:Ty) (y:ty.den),ty=.sc s->Aa.holds ⟨a,ty,1⟩ w.heap y->(loadVar t a).run C.P w=.ok (ty.enc y) w:=by
       rintro ty y rfl d;have u:cellOf w.heap a=some (s.enc y):=d;unfold loadVar;rw[Sem.run_bind,(kf j k).2.2 B z H w];simp[Lq,u]
      exact g _ (c i.ty y f d)
     ·cases b
   ·cases b
  ·cases b
 ·cases b
def Typed(t:Ty)(K:Value->Heap->Prop)(v:Value)(h:Heap):Prop:=∃x:t.den,v=t.enc x/\K (t.enc x) h
def Js(t:Rt)(K:Value->Heap->Prop)(v:Value)(h:Heap):Prop:=∃x:t.den,v=t.enc x/\K (t.enc x) h
def Jt(K:Value->Heap->Prop)(v:Value)(h:Heap):Prop:=∃a:Addr,v=.pointer (some a)/\K (.pointer (some a)) h
def aed(T:jx)(t:TypeId)(tup:List (TypeId×List Ty)):Option Rt:=
 match tup.find? (fun p=>wI p.1 t)with
 |some p=>some (.many p.2)
 |none=>match T.get t with
  |some i=>some (.one i.ty)
  |none=>none
structure Ctx extends Bq where
 tup:List (TypeId×List Ty)
 fns:List Bool
structure Ctx.Ok (C:Ctx):Prop extends Bq.Ok C.toBq where
 fns:(C.P.funcs.toList.map fun f=>!(f.name== "runtime.NumGoroutine")&&f.body.isSome)=C.fns
def UU(C:Ctx)(g:FuncId)(args:List Value)(t:TypeId)(K:Value->Heap->Prop)(h:Heap):Prop:=
 match C.fns[g]? with
 |some true=>match aed C.T t C.tup with
  |some r=>ab C.P g args.toArray h (Js r K)
  |none=>False
 |_=>False
def Ju(C:Ctx)(o:Oper)(ev:Operand->Option Value)(K:Value->Heap->Prop)(h:Heap):Prop:=
 match o.op with
 | .store t a x=>match ev a,ev x with
  |some p,some v=>ae C.P (Instr.storeAt t p v) h fun _ h'=>K undef h'
  |_,_=>False
 | .alloc t=>ae C.P (Instr.alloc t true (.tuple #[])) h (Jt K)
 | .box t x=>match ev x with
  |some v=>ae C.P (Instr.box t v) h (Jt K)
  |none=>False
 | .makeSlice t l c=>match ev l,ev c with
  |some l,some c=>ae C.P (Instr.makeSlice t l c) h (Typed (.sc .slc) K)
  |_,_=>False
 | .buildSlice t n parts=>match EG ev parts.toList with
  |some ps=>ae C.P (Instr.buildSlice t n ps.toArray) h (Typed (.sc .slc) K)
  |none=>False
 | .makeMap t none=>ae C.P (Instr.makeMap t none) h (Typed (.sc .mp) K)
 | .lookup t x ix ok=>match ev x,ev ix,aed C.T o.type C.tup with
  |some m,some k,some r=>ae C.P (Instr.lookup t m k ok) h (Js r K)
  |_,_,_=>False
 | .mapUpdate t m k x=>match ev m,ev k,ev x with
  |some m,some k,some v=>ae C.P (Instr.mapUpdate t m k v) h fun _ h'=>K undef h'
  |_,_,_=>False
 | .insert t m k x=>match ev m,ev k,ev x with
  |some m,some k,some v=>ae C.P (Instr.mapUpdate t m k v) h fun _ h'=>K undef h'
  |_,_,_=>False
 | .convert s d x=>match ev x,C.T.get o.type with
  |some v,some i=>ae C.P (convert s d v) h (Typed i.ty K)
  |_,_=>False
 | .binOp op t x y _=>match ev x,ev y,C.T.get o.type with
  |some a,some b,some i=>ae C.P (do eqGuard op t x y a b;binOp op t a b) h (Typed i.ty K)
  |some a,some b,none=>ae C.P (do eqGuard op t x y a b;binOp op t a b) h (Typed (.sc .bool) K)
  |_,_,_=>False
 | .slice t x lo hi mx=>match optVal ev lo,optVal ev hi,optVal ev mx,ev x with
  |some l,some r,some m,some v=>ae C.P (yk t v l r m) h (Typed (.sc .slc) K)
  |_,_,_,_=>False
 | .call c=>match c.callee with
  | .builtin .append=>match pJ ev c.args.toList with
   |some vs=>ae C.P (Builtin.append_ c.argTypes o.type vs.toArray) h (Typed (.sc .slc) K)
   |none=>False
  | .builtin .copy=>match pJ ev c.args.toList with
   |some vs=>ae C.P (Builtin.copy_ c.argTypes o.type vs.toArray) h (Typed (.sc (.int .i64)) K)
   |none=>False
  | .builtin .clear=>match pJ ev c.args.toList with
   |some vs=>ae C.P (Builtin.clear_ c.argTypes o.type vs.toArray) h K
   |none=>False
  | .builtin .len=>match pJ ev c.args.toList with
   |some vs=>ae C.P (Builtin.len_ c.argTypes o.type vs.toArray) h (Typed (.sc (.int .i64)) K)
   |none=>False
  | .builtin .unsafeString=>match pJ ev c.args.toList with
   |some vs=>ae C.P (Builtin.unsafeString_ c.argTypes o.type vs.toArray) h (Typed (.sc .str) K)
   |none=>False
  | .builtin .delete=>match pJ ev c.args.toList with
   |some vs=>ae C.P (Builtin.delete_ c.argTypes o.type vs.toArray) h K
   |none=>False
  | .value f=>match ev f,pJ ev c.args.toList with
   |some (.func (.func g) ⟨first⟩ ⟨caps⟩),some vs=>UU C g (first++vs++caps) o.type K h
   |_,_=>False
  |_=>False
 |_=>False
where
 optVal (ev:Operand->Option Value):Option Operand->Option (Option Value)
  |none=>some none
  |some x=>match ev x with
   |some v=>some (some v)
   |none=>none
section
variable {P:Program} {h:Heap} {K:Value->Heap->Prop}
theorem fz{s:Sem Value}(b:ae P s h K):Bo P (do pure (.value (<-s))) h K:=
 ae.bind (b.mono fun _ _ a=>ae.pure' a)
theorem Is{s:Sem Unit}(b:ae P s h fun _ h'=>K undef h'):Bo P (do s;pure .skip) h K:=
 ae.bind (b.mono fun _ _ a=>ae.pure' a)
theorem Typed.out{t:Ty}{v:Value}{h:Heap}(x:Typed t K v h):K v h:=by obtain⟨y,rfl,a⟩:=x;exact a
theorem Js.out{t:Rt}{v:Value}{h:Heap}(x:Js t K v h):K v h:=by obtain⟨y,rfl,a⟩:=x;exact a
theorem Jt.out{v:Value}{h:Heap}(x:Jt K v h):K v h:=by obtain⟨y,rfl,a⟩:=x;exact a
end
theorem Sy{C:Ctx}(d:C.Ok){g:FuncId}{args:List Value}{t:TypeId}{K:Value->Heap->Prop}{h:Heap}(b:UU C g args t K h):
  Bo C.P (callFunc g args.toArray) h K:=by
 unfold UU at b;split at b
 ·rename_i f;split at b
  ·rename_i r i;have a:=congrArg (·[g]?) d.fns;simp only[qO,f]at a;cases hf:C.P.funcs.toList[g]? with
   |none=>rw[hf]at a;cases a
   |some fn=>
    rw[hf]at a;simp only[qR,zO.injEq,qA,Bool.not_eq_true']at a;have c:C.P.funcs[g]?=some fn:=by simpa using hf
    have e:fn.body.isNone=false:=by cases hbb:fn.body<;>simp[hbb]at a⊢
    unfold callFunc;refine ae.bind (ae.ZY ?_);simp only[c,a.1,e];exact ae.pure' (b.mono fun v h' x=>x.out)
  ·exact b.elim
 ·exact b.elim
theorem UV{C:Ctx}(T:C.Ok){ev:Operand->Option Value}{e:Operand->Value}(A:∀x v,ev x=some v->e x=v){o:Oper}
  {K:Value->Heap->Prop} {h:Heap} (j:Ju C o ev K h):Bo C.P (execOp e o) h K:=by
 have G:∀{x:Option Operand} {r:Option Value},Ju.optVal ev x=some r->x.map e=r:=by
  intro x r I;cases x with
  |none=>cases I;rfl
  |some y=>
   simp only[Ju.optVal]at I;split at I
   ·rename_i v B;cases I;rw[qR,A _ _ B]
   ·cases I
 unfold Ju at j;split at j
 ·rename_i t a x q;simp only[execOp,q];split at j
  ·rename_i p v Y B;rw[A _ _ Y,A _ _ B];exact Is j
  ·exact j.elim
 ·rename_i t q;simp only[execOp,q];exact fz (j.mono fun _ _ x=>x.out)
 ·rename_i t x q;simp only[execOp,q];split at j
  ·rename_i v B;rw[A _ _ B];exact fz (j.mono fun _ _ x=>x.out)
  ·exact j.elim
 ·rename_i t l c q;simp only[execOp,q];split at j
  ·rename_i v u B X;rw[A _ _ B,A _ _ X];exact fz (j.mono fun _ _ x=>x.out)
  ·exact j.elim
 ·rename_i t n parts q;simp only[execOp,q];split at j
  ·rename_i W M;have:(parts.map fun(i,x)=>(i,e x))=W.toArray:=by
    apply yw;have:=HD A M;simpa using this
   rw[this];exact fz (j.mono fun _ _ x=>x.out)
  ·exact j.elim
 ·rename_i t q;simp only[execOp,q];exact fz (j.mono fun _ _ x=>x.out)
 ·rename_i t x ix ok q;simp only[execOp,q];split at j
  ·rename_i m k r H F R;rw[A _ _ H,A _ _ F];exact fz (j.mono fun _ _ x=>x.out)
  ·exact j.elim
 ·rename_i t m k x q;simp only[execOp,q];split at j
  ·rename_i V U v H F B;rw[A _ _ H,A _ _ F,A _ _ B];exact Is j
  ·exact j.elim
 ·rename_i t m k x q;simp only[execOp,q];split at j
  ·rename_i V U v H F B;rw[A _ _ H,A _ _ F,A _ _ B];exact Is j
  ·exact j.elim
 ·rename_i s d x q;simp only[execOp,q];split at j
  ·rename_i v i B N;rw[A _ _ B];exact fz (j.mono fun _ _ x=>x.out)
  ·exact j.elim
 ·rename_i op t x y u q;simp only[execOp,q];split at j
  ·rename_i a b i O L N;rw[A _ _ O,A _ _ L];exact fz (j.mono fun _ _ x=>x.out)
  ·rename_i a b O L N;rw[A _ _ O,A _ _ L];exact fz (j.mono fun _ _ x=>x.out)
  ·exact j.elim
 ·rename_i t x lo N mx q;simp only[execOp,q];split at j
  ·rename_i l r m v S R H B;rw[G S,G R,G H,A _ _ B];exact fz (j.mono fun _ _ x=>x.out)
  ·exact j.elim
 ·rename_i c q;simp only[execOp,q];have w:∀{vs:List Value},pJ ev c.args.toList=some vs->c.args.map e=vs.toArray:=fun B=>by
   apply yw;simpa using Co A B
  split at j
  ·rename_i D;split at j
   ·rename_i vs z;unfold resolve;rw[D,w z];exact fz (j.mono fun _ _ x=>x.out)
   ·exact j.elim
  ·rename_i D;split at j
   ·rename_i vs z;unfold resolve;rw[D,w z];exact fz (j.mono fun _ _ x=>x.out)
   ·exact j.elim
  ·rename_i D;split at j
   ·rename_i vs z;unfold resolve;rw[D,w z];exact fz j
   ·exact j.elim
  ·rename_i D;split at j
   ·rename_i vs z;unfold resolve;rw[D,w z];exact fz (j.mono fun _ _ x=>x.out)
   ·exact j.elim
  ·rename_i D;split at j
   ·rename_i vs z;unfold resolve;rw[D,w z];exact fz (j.mono fun _ _ x=>x.out)
   ·exact j.elim
  ·rename_i D;split at j
   ·rename_i vs z;unfold resolve;rw[D,w z];exact fz j
   ·exact j.elim
  ·rename_i f D;split at j
   ·rename_i g first E vs Z z
    unfold resolve;rw[D,w z];simp only[A _ _ Z];have:=Sy T j;have J:(⟨first⟩:Array Value)++vs.toArray++(⟨E⟩:Array Value)=(first++vs++E).toArray:=by simp
    have Q:Bo C.P (callFunc g ((⟨first⟩:Array Value)++vs.toArray++(⟨E⟩:Array Value))) h K:=by rw[J];exact this
    simp only[Deferred.ofValue];exact Q
   ·exact j.elim
  ·exact j.elim
 ·exact j.elim
def put(n:Nat)(a:Option Tmp)(K:Env->Heap->Prop)(ρ:Env)(v:Value)(h:Heap):Prop:=
 match a with
 |some d=>bif vO d n then K (.val d v::ρ) h else False
 |none=>K ρ h
theorem uz{n:Nat}{b:Option Tmp}{K:Env->Heap->Prop}{ρ:Env}{v:Value}{h:Heap}(c:put n b K ρ v h){a:Act}(e:Fits n a ρ):
  ∃ρ',Fits n (a.put b v) ρ'/\Ext ρ ρ' a (a.put b v)/\K ρ' h:=by
 unfold put at c;cases b with
 |none=>exact⟨ρ,e,Ext.refl _ _,c⟩
 |some d=>
  simp only at c;cases hb:vO d n with
  |false=>rw[hb]at c;exact c.elim
  |true=>rw[hb]at c;exact⟨_,e.put hb v,Ext.put v v,c⟩
def aaf(C:Ctx)(n:Nat)(o:Oper)(K:Env->Heap->Prop)(ρ:Env)(h:Heap):Prop:=
 match Bt C.P C.T o.op ρ.eval with
 | .no=>match uy C.T o.op ρ.eval with
  |some r=>∃y:r.ty.den,r.holds h y/\put n o.dst K ρ (r.ty.enc y) h
  |none=>Ju C o ρ.eval (put n o.dst K ρ) h
 |p=>p.holds fun v=>put n o.dst K ρ v h
def Jv(ops:Array Oper)(o:Oper)(ρ:Env)(a skip:Env->Prop):Prop:=
 match o.guard with
 |none=>a ρ
 |some (j,want)=>match(ops[j]?).bind (·.dst)with
  |some d=>match ρ.get d with
   |some (.bool b)=>Br b (bif want then a (.val d (.bool true)::ρ)else skip (.val d (.bool true)::ρ)) (bif want then skip (.val d (.bool false)::ρ)else a (.val d (.bool false)::ρ))
   |some (.tuple _)=>skip ρ
   |_=>False
  |none=>False
theorem Fits.known{n:Nat}{a:Act}{ρ:Env}(c:Fits n a ρ){d:Nat}{v:Value}(e:ρ.get d=some v):Fits n a (.val d v::ρ)/\Ext ρ (.val d v::ρ) a a:=by
 refine⟨⟨c.size,c.defers,fun t x b=>?_⟩,⟨[.val d v],rfl,fun _ _=>rfl⟩⟩;simp only[Env.get]at b;cases hb:wI d t with
 |false=>rw[hb]at b;exact c.get t x b
 |true=>
  rw[hb]at b;have:=zG hb;subst this;rw[cond_true]at b;exact c.get _ x (e.trans b)
theorem HI{ops:Array Oper}{o:Oper}{ρ:Env}{e skip:Env->Prop}{n:Nat}{a:Act}(g:Fits n a ρ)(c:Jv ops o ρ e skip):
  ∃ρ',Fits n a ρ'/\Ext ρ ρ' a a/\((Region.wanted o (yielded ops a.tmps)=true/\e ρ')∨(Region.wanted o (yielded ops a.tmps)=false/\skip ρ')):=by
 unfold Jv at c;unfold Region.wanted;split at c
 ·rename_i m;rw[m];exact⟨ρ,g,Ext.refl _ _,.inl ⟨rfl,c⟩⟩
 ·rename_i j f m;rw[m];split at c
  ·rename_i d p;split at c
   ·rename_i b h;have l:yielded ops a.tmps j=some b:=by
     unfold yielded;rw[p];simp[g.get _ _ h]
    simp only[l];obtain⟨i,k⟩:=g.known h;cases b<;>cases f<;>simp only[Br,cond_true,cond_false]at c
    ·exact⟨_,i,k,.inl ⟨rfl,c⟩⟩
    ·exact⟨_,i,k,.inr ⟨rfl,c⟩⟩
    ·exact⟨_,i,k,.inr ⟨rfl,c⟩⟩
    ·exact⟨_,i,k,.inl ⟨rfl,c⟩⟩
   ·rename_i vs h;have l:yielded ops a.tmps j=none:=by
     unfold yielded;rw[p];simp[g.get _ _ h]
    simp only[l];exact⟨ρ,g,Ext.refl _ _,.inr ⟨by simp,c⟩⟩
   ·exact c.elim
  ·exact c.elim
theorem Xq{C:Ctx}(f:C.Ok){n:Nat}{o:Oper}{K:Env->Heap->Prop}{ρ:Env}{a:Act}{w:World}(j:Fits n a ρ)(d:aaf C n o K ρ w.heap)
  {Q:Exit->Act->World->Prop} {next:Act->World->Prop}
  (t:∀a' w' ρ',Fits n a' ρ'->Ext ρ ρ' a a'->cM w w'->K ρ' w'.heap->next a' w'):o.wp C.P a w next Q:=by
 have g:∀x v,ρ.eval x=some v->a.eval x=v:=fun x v h=>j.eval h;have b:∀v w',cM w w'->put n o.dst K ρ v w'.heap->next (a.put o.dst v) w':=fun v w' k s=>by
  obtain⟨ρ',p,q,h3⟩:=uz s j;exact t _ _ _ p q k h3
 have c:(Bt C.P C.T o.op ρ.eval).holds (fun v=>put n o.dst K ρ v w.heap)->o.wp C.P a w next Q:=fun h=>by
  obtain⟨v,l,i⟩:=Jr f.toOk g h;unfold Oper.wp;rw[l w];exact b v w (cM.refl w) i
 unfold aaf at d;split at d
 ·split at d
  ·rename_i r e;obtain⟨y,m,i⟩:=d;unfold Oper.wp;rw[Cp f.toOk g e m];exact b _ w (cM.refl w) i
  ·exact afy (UV f g d) b
 ·exact c d
def GS(C:Ctx)(n:Nat)(ops:Array Oper)(o:Oper)(K:Env->Heap->Prop)(ρ:Env)(h:Heap):Prop:=
 Jv ops o ρ (fun ρ=>aaf C n o K ρ h) (fun ρ=>put n o.dst K ρ undef h)
theorem Jw{C:Ctx}(h:C.Ok){n:Nat}{ops:Array Oper}{o:Oper}{i:Nat}(k:ops[i]?=some o){K:Env->Heap->Prop}{ρ:Env}{a:Act}{w:World}
  (p:Fits n a ρ) (l:GS C n ops o K ρ w.heap) {Q:Exit->Act->World->Prop} {next:Act->World->Prop}
  (e:∀a' w' ρ',Fits n a' ρ'->Ext ρ ρ' a a'->cM w w'->K ρ' w'.heap->next a' w'):wpOp C.P ops Q i next a w:=by
 obtain⟨ρ',c,d,h3⟩:=HI p l;unfold wpOp;simp only[k];rcases h3 with⟨hw,hr⟩|⟨hw,hr⟩
 ·simp only[hw,if_true];exact .inl (Xq h c hr fun a' w' b g x2 x3 f=>e _ _ _ g (d.trans x2) x3 f)
 ·simp only[hw,zf,if_false];obtain⟨b,j,m,q⟩:=uz hr c;exact e _ _ _ j (d.trans m) (cM.refl w) q
def aag(C:Ctx)(n:Nat)(ops:Array Oper)(K:Env->Heap->Prop):List Oper->Env->Heap->Prop
 |[],ρ,h=>K ρ h
 |o::r,ρ,h=>GS C n ops o (aag C n ops K r) ρ h
def Out(n:Nat)(Q:Exit->Env->Heap->Prop)(ρ:Env)(a:Act)(w:World):Exit->Act->World->Prop:=fun e a' w'=>
 ∃ρ',Fits n a' ρ'/\Ext ρ ρ' a a'/\cM w w'/\Q e ρ' w'.heap
theorem MN{C:Ctx}(c:C.Ok){n:Nat}{ops:Array Oper}{K:Env->Heap->Prop}{Q:Exit->Act->World->Prop}{ρ0:Env}{a0:Act}{w0:World}
  (b:∀a w ρ,Fits n a ρ->Ext ρ0 ρ a0 a->cM w0 w->K ρ w.heap->Q .normal a w):
  ∀(r:List Oper) (i:Nat),(∀j,r[j]?=ops[i+j]?)->∀(ρ:Env) (a:Act) (w:World),Fits n a ρ->Ext ρ0 ρ a0 a->cM w0 w->aag C n ops K r ρ w.heap->
   wpOps C.P ops Q (List.range' i r.length) a w
 |[],i,_,ρ,a,w,hf,hx,hl,hs=>b a w ρ hf hx hl hs
 |o::r,i,hr,ρ,a,w,hf,hx,hl,hs=>by
  have d:ops[i]?=some o:=by simpa using(hr 0).symm
  rw[zi,List.range'_succ,wpOps_cons];refine Jw c d hf hs fun a' w' ρ' e f h3 g=>?_;exact MN c b r (i+1) (fun j=>by have:=hr (j+1);simpa[Nat.add_assoc,Nat.add_comm 1 j]using this) ρ' a' w' e (hx.trans f) (hl.trans h3) g
abbrev aq:=List (Addr×Value)
def aq.ok:aq->Heap->Prop
 |[],_=>True
 |p::r,h=>cellOf h p.1=some p.2/\aq.ok r h
def lO(a:Addr):Nat->List Value->aq->aq
 |_,[],L=>L
 |n,v::r,L=>(a.add n,v)::lO a (n+1) r L
theorem mW{a:Addr}{h:Heap}:∀{vs:List Value} {n:Nat} {L:aq},(lO a n vs L).ok h↔al h a n vs/\L.ok h
 |[],_,L=>by simp[lO,al]
 |v::r,n,L=>by simp only[lO,aq.ok,al,mW (vs:=r),and_assoc]
def Aa.held(r:Aa)(y:r.ty.den)(L:aq):aq:=
 match r.ty,y with
 | .sc s,y=>(r.a,s.enc y)::L
 | .agg l,y=>lO r.a 0 (AH l y) L
 | .arr s,y=>lO r.a 0 (y.map s.enc) L
theorem Aa.acV{r:Aa}{y:r.ty.den}{L:aq}{b:Heap}(c:r.holds b y){m:Heap}:(r.held y L).ok m↔r.holds m y/\L.ok m:=by
 obtain⟨a,ty,n⟩:=r;cases ty with
 |sc s=>exact Iff.rfl
 |agg l=>exact mW
 |arr s=>exact mW.trans ⟨fun x=>⟨⟨c.1,x.1⟩,x.2⟩,fun x=>⟨x.1.2,x.2⟩⟩
structure fE where
 op:Nat
 r:Aa
 y:r.ty.den
def flat:List fE->aq
 |[]=>[]
 |p::r=>p.r.held p.y (flat r)
def fE.ok(p:fE)(w:World):Prop:=p.r.holds w.heap p.y
def waits(ops:Array Oper)(j i:Nat):Bool:=match ops[j]? with
 |some o=>o.after.any fun e=>Region.binds .any e&&wI e.on i
 |none=>false
def keep(ops:Array Oper)(j:Nat):List fE->List fE
 |[]=>[]
 |p::r=>bif waits ops j p.op then keep ops j r else p::keep ops j r
theorem pV{ops:Array Oper}{j:Nat}:∀{L:List fE},∀p∈keep ops j L,p∈L
 |[],p,h=>by cases h
 |q::r,p,h=>by
  unfold keep at h;cases hw:waits ops j q.op with
  |true=>rw[hw]at h;exact qY _ (pV p h)
  |false=>
   rw[hw]at h;rcases q8.1 h with rfl|h
   ·exact q0
   ·exact qY _ (pV p h)
theorem Cq{ops:Array Oper}{j:Nat}:∀{L:List fE} {p:fE},p∈L->waits ops j p.op=false->p∈keep ops j L
 |q::r,p,h,hw=>by
  unfold keep;rcases q8.1 h with rfl|h
  ·rw[hw];exact q0
  ·cases hq:waits ops j q.op with
   |true=>exact Cq h hw
   |false=>exact qY _ (Cq h hw)
theorem It{ops:Array Oper}{j:Nat}{p:fE}:∀{M:List fE},p∈keep ops j M->waits ops j p.op=false
 |[],h=>by cases h
 |q::r,h=>by
  unfold keep at h;cases hq:waits ops j q.op with
  |true=>rw[hq]at h;exact It h
  |false=>
   rw[hq]at h;rcases q8.1 h with rfl|h
   ·exact hq
   ·exact It h
theorem EH{ops:Array Oper}{j:Nat}{L a:List fE}(c:∀p∈a,p∈L):∀p∈keep ops j a,p∈keep ops j L:=
 fun p b=>Cq (c p (pV p b)) (It b)
def kX(P:Program)(ops:Array Oper)(Q:Exit->Act->World->Prop):Nat->List fE->Array Bool->Act->World->Prop
 |0,_,listed,a,w=>Region.ready .any ops listed=[]/\Q .normal a w
 |fuel+1,L,listed,a,w=>
  (Region.ready .any ops listed=[]->Q .normal a w)/\
  ∀i∈Region.ready .any ops listed,wpOp P ops Q i (fun a' w'=>(∀p∈keep ops i L,p.ok w')/\kX P ops Q fuel (keep ops i L) (listed.setIfInBounds i true) a' w') a w
theorem Jx{P:Program}{ops:Array Oper}{Q:Exit->Act->World->Prop}:∀(b:Nat) (L:List fE) (c:Array Bool) (a:Act) (w:World),kX P ops Q b L c a w->wpAny P .any ops Q b c a w
 |0,_,_,_,_,h=>h
 |b+1,_,_,_,_,h=>⟨h.1,fun i d=>wpOp_mono (fun a' w' h'=>Jx b _ _ a' w' h'.2) (h.2 i d)⟩
theorem Cr{P:Program}{ops:Array Oper}{Q:Exit->Act->World->Prop}:∀(b:Nat) {L d:List fE} (c:Array Bool) (a:Act) (w:World),(∀p∈d,p∈L)->kX P ops Q b L c a w->kX P ops Q b d c a w
 |0,_,_,_,_,_,_,h=>h
 |b+1,_,_,_,_,_,hs,h=>⟨h.1,fun i e=>wpOp_mono (fun a' w' h'=>⟨fun p f=>h'.1 p (EH hs p f),Cr b _ a' w' (EH hs) h'.2⟩) (h.2 i e)⟩
theorem Pn{P:Program}{ops:Array Oper}{Q:Exit->Act->World->Prop}{i:Nat}{t:Oper}{v:Value}{T:World->Prop}{N:List fE}(Y:ops[i]?=some t)(x:∀(j:Nat) (o:Oper) cs b,ops[j]?=some o->o.op≠.select cs b)
  (hQ:∀c a w,Q (.panic c) (a.put t.dst v) w->Q (.panic c) a w) (hN:∀p∈N,p.op=i) (hT:∀w,(∀p∈N,p.ok w)->T w):
  ∀(f:Nat) (L:List fE) (d:Array Bool) (a:Act) (w:World),
   (∀j r,ops[j]?=some r->j≠i->d.getD j true=false->(∀e∈r.after,Region.binds .any e=true->e.on≠i)->t.apart ops r=true)->
   i∈Region.ready .any ops d->YieldsIf P ops T t v a->(∀p∈N,p.ok w)->(∀p∈L,p.ok w)->
   kX P ops Q f (N++L) (d.setIfInBounds i true) (a.put t.dst v) w->kX P ops Q (f+1) L d a w:=by
 intro f;have B:∀(f:Nat) (L:List fE) (d:Array Bool) (a:Act) (w:World),YieldsIf P ops T t v a->(∀p∈N,p.ok w)->(∀p∈L,p.ok w)->
   kX P ops Q f (N++L) (d.setIfInBounds i true) (a.put t.dst v) w->
   wpOp P ops Q i (fun a' w'=>(∀p∈keep ops i L,p.ok w')/\kX P ops Q f (keep ops i L) (d.setIfInBounds i true) a' w') a w:=fun f L d a w G n I H=>
  G.wpOp Y (hT w n) ⟨fun p g=>I p (pV p g),Cr f _ _ _ (fun p g=>wW _ (pV p g)) H⟩
 induction f with
 |zero=>
  intro L d a w _ F G n I H;refine⟨fun h=>(by rw[h]at F;cases F),fun j S=>?_⟩;by_cases l:j=i
  ·subst l;exact B 0 L d a w G n I H
  ·have:=ready_mono S l;rw[H.1]at this;cases this
 |succ f ih=>
  intro L d a w q F G n I H;refine⟨fun h=>(by rw[h]at F;cases F),fun j S=>?_⟩;by_cases l:j=i
  ·subst l;exact B (f+1) L d a w G n I H
  ·have E:=H.2 j (ready_mono S l);obtain⟨z,r,u,M⟩:=mem_ready.1 S;have y:∀e∈r.after,Region.binds .any e=true->e.on≠i:=fun e he J V=>by
    have E:=M e he J;have Z:=(mem_ready.1 F).1;rw[V]at E;rcases Nat.lt_or_ge i d.size with h'|h'
    ·simp[h']at Z E;rw[Z]at E;cases E
    ·simp[Array.getElem?_eq_none h']at E
   have O:(r.after.any fun e=>Region.binds .any e&&wI e.on i)=false:=by
    cases hc:r.after.any fun e=>Region.binds .any e&&wI e.on i with
    |false=>rfl
    |true=>
     obtain⟨k,W,J⟩:=Array.any_eq_true.1 hc;simp only[qA]at J;exact absurd (zG J.2) (y _ (Array.getElem_mem W) J.1)
   have D:waits ops j i=false:=by
    unfold waits;rw[u];exact O
   have A:∀p,p∈N->p∈keep ops j (N++L):=fun p g=>Cq (List.mem_append_left _ g) (by rw[hN p g];exact D);have m:∀p,p∈keep ops j L->p∈keep ops j (N++L):=EH fun p g=>wW _ g;have h2:=wpOp_putIf u (q j r u l z y) (fun cs b=>x i t cs b Y) (fun cs b=>x j r cs b u) hQ G E;have s:∀k ok,ops[k]?=some ok->k≠i->(d.setIfInBounds j true).getD k true=false->
     (∀e∈ok.after,Region.binds .any e=true->e.on≠i)->t.apart ops ok=true:=fun k ok W X K U=>by
    refine q k ok W X ?_ U;by_cases R:j=k
    ·subst R;exact z
    ·rw[getD_set_ne true R]at K;exact K
   refine wpOp_mono (fun a' w' h3=>⟨fun p g=>h3.2.1 p (m p g),ih (keep ops j L) (d.setIfInBounds j true) a' w' s (ready_mono F (Ne.symm l)) h3.1 (fun p g=>h3.2.1 p (A p g)) (fun p g=>h3.2.1 p (m p g)) ?_⟩) h2;rw[Array.setIfInBounds_comm _ _ l];refine Cr _ _ _ _ (fun p g=>?_) h3.2.2;rcases List.mem_append.1 g with g|g
   ·exact A p g
   ·exact m p g
theorem AJ{P:Program}{ops:Array Oper}{Q:Exit->Act->World->Prop}{i:Nat}{e:Oper}{v:Value}{T:World->Prop}{N:List fE}{d:Nat}{L:List fE}{b:Array Bool}{a:Act}{w:World}(g:ops[i]?=some e)
  (m:Region.noSelect ops=true) (q:Region.free .any ops b i=true) (r:(Region.ready .any ops b).contains i=true)
  (j:∀c a w,Q (.panic c) (a.put e.dst v) w->Q (.panic c) a w) (o:∀p∈N,p.op=i) (n:∀w,(∀p∈N,p.ok w)->T w) (l:YieldsIf P ops T e v a) (f:∀p∈N,p.ok w) (k:∀p∈L,p.ok w)
  (h:kX P ops Q d (N++L) (b.setIfInBounds i true) (a.put e.dst v) w):kX P ops Q (d+1) L b a w:=
 Pn g (Region.noSelect_spec m) j o n d L b a w (Region.free_spec g q) (by simpa using r) l f k h
theorem Lt:∀{L:List fE} {w0:World},(∀p∈L,p.ok w0)->∀{m:Heap},(flat L).ok m->∀p∈L,p.r.holds m p.y
 |[],_,_,_,_,p,a=>by cases a
 |q::r,w0,h0,m,h,p,a=>by
  have h:=(Aa.acV (h0 q q0)).1 h;rcases q8.1 a with rfl|a
  ·exact h.1
  ·exact Lt (fun p a=>h0 p (qY _ a)) h.2 p a
def abV(T:jx)(t:TypeId):Bool:=match T.get t with
 |some i=>match i.ty with
  | .sc .slc=>true
  |_=>false
 |none=>false
def abW(T:jx):Op->Bool
 | .convert s d _=>!(abV T s||abV T d)
 | .move _| .assign _| .pick .. | .nilCheck _| .fieldAddr .. | .indexAddr .. | .index .. | .field .. | .extract .. | .binOp .. | .unOp .. | .build .. | .makeFunc .. | .load .. =>true
 | .slice _ _ _ _ none=>true
 | .call c=>match c.callee with
  | .builtin .len| .builtin .cap| .builtin .min| .builtin .max| .builtin .real| .builtin .imag=>true
  |_=>false
 |_=>false
def nI(T:jx)(ops:Array Oper)(a:Array Bool):List Nat->Option Nat
 |[]=>none
 |i::r=>match ops[i]? with
  |some o=>bif abW T o.op&&Region.free .any ops a i then some i else nI T ops a r
  |none=>nI T ops a r
def UW(C:Ctx)(n:Nat)(ops:Array Oper)(i:Nat)(o:Oper)(L:List fE)(K:List fE->Env->Heap->Prop)(ρ:Env)(h:Heap):Prop:=
 Jv ops o ρ (fun ρ=>match Bt C.P C.T o.op ρ.eval with
  | .no=>match uy C.T o.op ρ.eval with
   |some r=>∃y:r.ty.den,r.holds h y/\put n o.dst (K (⟨i,r,y⟩::L)) ρ (r.ty.enc y) h
   |none=>False
  |p=>p.holds fun v=>put n o.dst (K L) ρ v h) (fun ρ=>put n o.dst (K L) ρ undef h)
def Po(C:Ctx)(n:Nat)(ops:Array Oper)(K:Nat->Env->Heap->Prop)(ρ:Env)(h:Heap):List Nat->Prop
 |[]=>True
 |[i]=>match ops[i]? with
  |some o=>GS C n ops o (K i) ρ h
  |none=>False
 |i::j::r=>(match ops[i]? with
  |some o=>GS C n ops o (K i) ρ h
  |none=>False)/\Po C n ops K ρ h (j::r)
def uA(C:Ctx)(n:Nat)(ops:Array Oper)(K:Env->Heap->Prop):Nat->Array Bool->List fE->Env->Heap->Prop
 |0,listed,_,ρ,h=>bif (Region.ready .any ops listed).isEmpty then K ρ h else False
 |k+1,listed,L,ρ,h=>match nI C.T ops listed (Region.ready .any ops listed)with
  |some i=>match ops[i]? with
   |some o=>UW C n ops i o L (uA C n ops K k (listed.setIfInBounds i true)) ρ h
   |none=>False
  |none=>match Region.ready .any ops listed with
   |[]=>K ρ h
   |i::r=>Po C n ops (fun i ρ h=>(flat (keep ops i L)).ok h/\uA C n ops K k (listed.setIfInBounds i true) (keep ops i L) ρ h) ρ h (i::r)
theorem sJ{T:jx}{ops:Array Oper}{a:Array Bool}:∀{rs:List Nat} {i:Nat},nI T ops a rs=some i->i∈rs/\Region.free .any ops a i=true
 |[],_,h=>by cases h
 |j::r,i,h=>by
  simp only[nI]at h;split at h
  ·rename_i o b;cases hb:(abW T o.op&&Region.free .any ops a j)with
   |true=>
    rw[hb]at h;cases h;simp only[qA]at hb;exact⟨q0,hb.2⟩
   |false=>
    rw[hb]at h;have:=sJ h;exact⟨qY _ this.1,this.2⟩
  ·have:=sJ h;exact⟨qY _ this.1,this.2⟩
theorem MO{C:Ctx}{n:Nat}{ops:Array Oper}{K:Nat->Env->Heap->Prop}{ρ:Env}{h:Heap}:∀{l:List Nat},Po C n ops K ρ h l->∀i∈l,∃o,ops[i]?=some o/\GS C n ops o (K i) ρ h
 |[],_,i,hi=>by cases hi
 |[j],ha,i,hi=>by
  simp only[qG]at hi;subst hi;simp only[Po]at ha;split at ha
  ·rename_i o a;exact⟨o,a,ha⟩
  ·exact ha.elim
 |j::k::r,ha,i,hi=>by
  obtain⟨b,c⟩:=ha;rcases q8.1 hi with rfl|hi
  ·split at b
   ·rename_i o a;exact⟨o,a,b⟩
   ·exact b.elim
  ·exact MO c i hi
section
variable {C:Ctx} {n:Nat} {ops:Array Oper} {K:Env->Heap->Prop} {Q:Exit->Act->World->Prop} {ρ0:Env} {a0:Act} {w0:World}
theorem MP(G:C.Ok)(M:Region.noSelect ops=true)
  (O:∀a w ρ,Fits n a ρ->Ext ρ0 ρ a0 a->cM w0 w->K ρ w.heap->Q .normal a w) (D:∀c a w,¬Q (.panic c) a w):
  ∀(k:Nat) (b:Array Bool) (L:List fE) (ρ:Env) (a:Act) (w:World),Fits n a ρ->Ext ρ0 ρ a0 a->cM w0 w->(∀p∈L,p.ok w)->
   uA C n ops K k b L ρ w.heap->kX C.P ops Q k L b a w
 |0,b,L,ρ,a,w,hf,hx,hl,hL,h=>by
  simp only[uA]at h;cases hb:(Region.ready .any ops b).isEmpty with
  |false=>rw[hb]at h;exact h.elim
  |true=>rw[hb]at h;exact⟨by simpa using hb,O _ _ _ hf hx hl h⟩
 |k+1,b,L,ρ,a,w,hf,hx,hl,hL,h=>by
  have J:=MP G M O D k;simp only[uA]at h;split at h
  ·rename_i i H;obtain⟨B,f⟩:=sJ H;have e:(Region.ready .any ops b).contains i=true:=by simpa using B
   split at h
   ·rename_i o z;unfold UW at h;obtain⟨ρ',I,U,h3⟩:=HI hf h;have q:∀c a w (v:Value),Q (.panic c) (Act.put a o.dst v) w->Q (.panic c) a w:=fun c a w v hq=>absurd hq (D c _ w);have Z:∀x v,Env.eval ρ' x=some v->a.eval x=v:=fun x v h=>I.eval h;rcases h3 with⟨t,g⟩|⟨t,g⟩
    ·have s:(Bt C.P C.T o.op (Env.eval ρ')).holds (fun v=>put n o.dst (uA C n ops K k (b.setIfInBounds i true) L) ρ' v w.heap)->
       kX C.P ops Q (k+1) L b a w:=fun d=>by
      obtain⟨v,hv,V⟩:=Jr G.toOk Z d;obtain⟨l,A,E,F⟩:=uz V I;exact AJ (N:=[]) (T:=fun _=>True) z M f e (fun c a w=>q c a w v) (fun p d=>by cases d) (fun _ _=>trivial) (.inl ⟨t,fun w _=>hv w⟩) (fun p d=>by cases d) hL
       (J _ L l _ w A (hx.trans (U.trans E)) hl hL F)
     split at g
     ·split at g
      ·rename_i r u;obtain⟨y,Y,V⟩:=g;obtain⟨l,A,E,F⟩:=uz V I;have S:∀p∈[(⟨i,r,y⟩:fE)],p.ok w:=fun p d=>by rw[qG]at d;subst d;exact Y
       refine AJ (N:=[⟨i,r,y⟩]) (T:=fun w=>r.holds w.heap y) z M f e (fun c a w=>q c a w _) (fun p d=>by rw[qG]at d;subst d;rfl)
        (fun w h=>h ⟨i,r,y⟩ (qG.2 rfl)) (.inl ⟨t,fun w t=>Cp G.toOk Z u t⟩) S hL ?_
       refine J _ (⟨i,r,y⟩::L) l _ w A (hx.trans (U.trans E)) hl (fun p d=>?_) F;rcases q8.1 d with rfl|d
       ·exact Y
       ·exact hL p d
      ·exact g.elim
     ·exact s g
    ·obtain⟨l,A,E,F⟩:=uz g I;exact AJ (N:=[]) (T:=fun _=>True) z M f e (fun c a w=>q c a w undef) (fun p d=>by cases d) (fun _ _=>trivial) (.inr ⟨t,rfl⟩) (fun p d=>by cases d) hL
      (J _ L l _ w A (hx.trans (U.trans E)) hl hL F)
   ·exact h.elim
  ·split at h
   ·rename_i g;exact⟨fun _=>O _ _ _ hf hx hl h,fun i H=>by rw[g]at H;cases H⟩
   ·rename_i i r g;refine⟨fun h0=>absurd (g▸h0) (by simp),fun j X=>?_⟩;rw[g]at X;obtain⟨o,z,W⟩:=MO h j X;have m:∀p∈keep ops j L,p.ok w:=fun p d=>hL p (pV p d);exact Jw G z hf W fun a' w' ρ' x1 x2 x3 R=>⟨Lt m R.1,J _ (keep ops j L) ρ' a' w' x1 (hx.trans x2) (hl.trans x3) (Lt m R.1) R.2⟩
end
def sched(T:jx)(ops:Array Oper):Nat->Array Bool->Option (List (Nat×Bool))
 |0,listed=>bif (Region.ready .any ops listed).isEmpty then some []else none
 |k+1,listed=>match nI T ops listed (Region.ready .any ops listed)with
  |some i=>(sched T ops k (listed.setIfInBounds i true)).map ((i,true)::·)
  |none=>match Region.ready .any ops listed with
   |[]=>some []
   |[i]=>(sched T ops k (listed.setIfInBounds i true)).map ((i,false)::·)
   |_::_::_=>none
def rK(C:Ctx)(n:Nat)(ops:Array Oper)(K:Env->Heap->Prop):List (Nat×Bool)->List fE->Env->Heap->Prop
 |[],_,ρ,h=>K ρ h
 |(i,true)::r,L,ρ,h=>match ops[i]? with
  |some o=>UW C n ops i o L (rK C n ops K r) ρ h
  |none=>False
 |(i,false)::r,L,ρ,h=>match ops[i]? with
  |some o=>GS C n ops o (fun ρ h=>(flat (keep ops i L)).ok h/\rK C n ops K r (keep ops i L) ρ h) ρ h
  |none=>False
theorem MQ{C:Ctx}{n:Nat}{ops:Array Oper}{K:Env->Heap->Prop}:∀(k:Nat) (a:Array Bool) (l:List (Nat×Bool)),sched C.T ops k a=some l->
  uA C n ops K k a=rK C n ops K l
 |0,a,l,hs=>by
  simp only[sched]at hs;cases hb:(Region.ready .any ops a).isEmpty with
  |false=>rw[hb]at hs;cases hs
  |true=>
   rw[hb]at hs;cases hs;funext L ρ h;simp only[uA,hb,rK,cond_true]
 |k+1,a,l,hs=>by
  have d:=fun i=>MQ (C:=C) (n:=n) (ops:=ops) (K:=K) k (a.setIfInBounds i true);funext L ρ h;unfold sched at hs;unfold uA;cases hi:nI C.T ops a (Region.ready .any ops a)with
  |some i=>
   rw[hi]at hs;obtain⟨b,c,rfl⟩:=yY.1 hs;simp only[rK,d i b c]
  |none=>
   rw[hi]at hs;generalize e:Region.ready .any ops a=rd at hs
   match rd,hs with
   |[],hs=>cases hs;simp only[rK]
   |[i],hs=>
    obtain⟨b,c,rfl⟩:=yY.1 hs;simp only[Po,rK,d i b c]
def Lu(C:Ctx)(n:Nat)(ops:Array Oper)(a:Bool)(K:Env->Heap->Prop)(ρ:Env)(h:Heap):Prop:=
 match a with
 |false=>aag C n ops K ops.toList ρ h
 |true=>bif Region.noSelect ops then(match sched C.T ops ops.size (vq ops.size false)with
  |some l=>rK C n ops K l [] ρ h
  |none=>uA C n ops K ops.size (vq ops.size false) [] ρ h)else False
theorem Pp{C:Ctx}(g:C.Ok){n:Nat}{id:Nat}{ops:Array Oper}{b:Bool}{Q:Exit->Env->Heap->Prop}{ρ:Env}{a:Act}{w:World}(i:Fits n a ρ)
  (h:Lu C n ops b (Q .normal) ρ w.heap):(Code.region id ops b).wp C.P (fun e a' w'=>(∀c,e≠.panic c)/\Out n Q ρ a w e a' w') a w:=by
 cases b with
 |false=>
  refine wp_region ?_;have:=MN g (Q:=fun e a' w'=>(∀c,e≠.panic c)/\Out n Q ρ a w e a' w') (K:=Q .normal) (ρ0:=ρ) (a0:=a) (w0:=w) (fun a' w' ρ' f x2 x3 d=>⟨fun c e=>(by cases e),ρ',f,x2,x3,d⟩)
   ops.toList 0 (fun j=>by simp) ρ a w i (Ext.refl _ _) (cM.refl _) h
  rw[List.range_eq_range'];simpa using this
 |true=>
  simp only[Lu]at h;cases hb:Region.noSelect ops with
  |false=>rw[hb]at h;exact h.elim
  |true=>
   rw[hb]at h;have h:uA C n ops (Q .normal) ops.size (vq ops.size false) [] ρ w.heap:=by
    simp only[cond_true]at h;split at h
    ·rename_i l k;rw[MQ _ _ _ k];exact h
    ·exact h
   refine wp_region_any g.mixed (Jx _ [] _ _ _ ?_);exact MP g hb (Q:=fun e a' w'=>(∀c,e≠.panic c)/\Out n Q ρ a w e a' w') (ρ0:=ρ) (a0:=a) (w0:=w) (fun a' w' ρ' f x2 x3 d=>⟨fun c e=>(by cases e),ρ',f,x2,x3,d⟩)
    (fun c a w m=>m.1 c rfl) _ _ [] ρ a {w with drawn:=w.drawn+1} i (Ext.refl _ _) ⟨rfl,rfl,rfl,Nat.le_succ _⟩ (fun p o=>by cases o) h
def aW{σ:Type}(rest:σ->Heap->Prop)(B:(σ->Heap->Prop)->Prop):Prop:=∃R:σ->Heap->Prop,(∀s h,R s h->rest s h)/\B R
def aG{σ:Type}(B:σ->(σ->Heap->Prop)->Heap->Prop)(s:σ)(h:Heap):Prop:=
 ∃(τ:Type) (V:τ->σ) (I:τ->Heap->Prop) (μ:τ->Nat) (t0:τ),s=V t0/\I t0 h/\∀t h,I t h->B (V t) (fun b h'=>∃a,b=V a/\I a h'/\μ a<μ t) h
theorem Xr{P:Program}{c:Code}{Q:Exit->Act->World->Prop}{a:Act}{w:World}{σ:Type}(R:σ->Act->World->Prop)(μ:σ->World->Nat)(t:σ)(y:R t a w)
  (h:∀s a w,R s a w->c.wp P (Exit.then (fun a' w'=>∃m,R m a' w'/\μ m w'<μ s w) Q) a w):(Code.loop c).wp P Q a w:=by
 intro b k cs;have p:∀n s a w,μ s w=n->R s a w->
   ∃e a' w',Q e a' w'/\Arrives P (lone (b.at a (.code c::.inLoop c::k)) cs w) b k cs e a' w':=by
  intro n
  induction n using Nat.strongRecOn with
  |_ n ih=>
   intro s a w B z;obtain⟨e,j,g,f,d⟩:=h s a w z b (.inLoop c::k) cs;cases e with
   |normal=>
    obtain⟨m,o,q⟩:=f;obtain⟨u,A,v,r,i⟩:=ih (μ m g) (B▸q) m j g rfl o;exact⟨u,A,v,r,.of_steps (Steps.trans d (.one step_inLoop)) i⟩
   |exit id=>exact⟨_,j,g,f,.pass (x:=.inLoop c) rfl (fun _ _=>.inl (by simp)) d⟩
   |goto l=>exact⟨_,j,g,f,.pass (x:=.inLoop c) rfl (fun _ _=>.inl (by simp)) d⟩
   |ret=>exact⟨_,j,g,f,.pass (x:=.inLoop c) rfl (fun _ _=>.inl (by simp)) d⟩
   |panic ch=>exact⟨_,j,g,f,.pass (x:=.inLoop c) rfl (fun _ _=>.inl (by simp)) d⟩
   |outgrown=>exact⟨_,j,g,f,.pass (x:=.inLoop c) rfl (fun _ _=>.inl (by simp)) d⟩
 obtain⟨e,a',w',f,d⟩:=p _ t a w rfl y;exact⟨e,a',w',f,.of_steps (.one step_loop) d⟩
inductive ak where
 |n
 |two (a b:ak)
 |inn (a:ak)
 |loop (σ:dw) (κ:cL) (a:ak)
 |join (σ:dw) (κ:cL) (a:ak)
 |scope (l:Nat) (σ:dw) (κ:cL) (pre rest:List ak) (fwd:List (Nat×List ak))
 |fwd (a:ak) (fwd:List (Nat×List ak))
def ak.fst:ak->ak
 | .two a _=>a
 |_=>.n
def ak.snd:ak->ak
 | .two _ b=>b
 |_=>.n
def ak.sub:ak->ak
 | .inn a=>a
 |_=>.n
abbrev QT:=Exit->Env->Heap->Prop
def Jy(σ:dw)(κ:cL)(ρ:Env)(K:σ.den->Heap->Prop)(Q:QT):QT
 | .normal,ρ',h=>bif within σ κ ρ' (ρ'.length-ρ.length)then(match σ.read ρ' with|some s=>K s h|none=>False)else False
 |e,ρ',h=>Q e ρ' h
def GU(next:Env->Heap->Prop)(Q:QT):QT
 | .normal,ρ,h=>next ρ h
 |e,ρ,h=>Q e ρ h
def Xs(id:Nat)(Q:QT):QT
 | .exit i,ρ,h=>bif wI i id then Q .normal ρ h else Q (.exit i) ρ h
 |e,ρ,h=>Q e ρ h
abbrev Rec:=Code->ak->QT->Env->Heap->Prop
def Ab(rec:Rec):List Code->List ak->QT->Env->Heap->Prop
 |[],_,Q,ρ,h=>Q .normal ρ h
 |c::cs,[],Q,ρ,h=>rec c .n (GU (Ab rec cs [] Q) Q) ρ h
 |c::cs,x::xs,Q,ρ,h=>rec c x (GU (Ab rec cs xs Q) Q) ρ h
def chain:Code->Nat->Option (List Code×List Code)
 | .seq a b,l=>match chain a l with
  |some (p,r)=>some (p,r++[b])
  |none=>match chain b l with
   |some (p,r)=>some (a::p,r)
   |none=>none
 | .label l',l=>bif wI l' l then some ([],[])else none
 |_,_=>none
def abX(a:List (Nat×List ak))(l:Nat):Option (List ak):=
 match a with
 |[]=>none
 |p::r=>bif wI p.1 l then some p.2 else abX r l
def GV(rec:Rec)(c:Code)(a:List (Nat×List ak))(Q:QT):Nat->QT
 |0=>fun _ _ _=>False
 |g+1=>fun e ρ h=>match e with
  | .goto l=>match abX a l with
   |some xs=>match chain c l with
    |some (_,r)=>Ab rec r xs (GV rec c a Q g) ρ h
    |none=>False
   |none=>Q (.goto l) ρ h
  |e=>Q e ρ h
def UX(l:Nat)(σ:dw)(κ:cL)(ρ:Env)(K:σ.den->Heap->Prop)(Q:QT):QT
 | .goto l',ρ',h=>bif wI l' l then(bif within σ κ ρ' (ρ'.length-ρ.length)then(match σ.read ρ' with|some s=>K s h|none=>False)else False)else Q (.goto l') ρ' h
 |e,ρ',h=>Q e ρ' h
def Pq(c:Code)(Q:QT):QT
 | .goto l,ρ,h=>match findLabel c l with
  |none=>Q (.goto l) ρ h
  |some _=>False
 |e,ρ,h=>Q e ρ h
def Pr(C:Ctx)(n:Nat)(rec:Rec)(c:Code)(d:ak)(Q:QT)(ρ:Env)(h:Heap):Prop:=
 match d with
 | .join σ κ a=>aW (fun s h=>Q .normal (σ.vals s (κ.over ρ)) h) (fun K=>rec c a (Jy σ κ ρ K Q) ρ h)
 |d=>match c with
  | .skip=>Q .normal ρ h
  | .label _=>Q .normal ρ h
  | .region _ ops draw=>Lu C n ops draw (Q .normal) ρ h
  | .seq a b=>rec a d.fst (GU (rec b d.snd Q) Q) ρ h
  | .cond x a b=>match ρ.eval x with
   |some (.bool t)=>Br t (rec a d.fst Q ρ h) (rec b d.snd Q ρ h)
   |_=>False
  | .block id c=>rec c d.sub (Xs id Q) ρ h
  | .exit id=>Q (.exit id) ρ h
  | .goto l=>Q (.goto l) ρ h
  | .ret=>Q .ret ρ h
  | .loop c=>match d with
   | .loop σ κ a=>match σ.read ρ with
    |some s0=>aG (fun s K h=>rec c a (Jy σ κ (σ.vals s (κ.over ρ)) K Q) (σ.vals s (κ.over ρ)) h) s0 h
    |none=>False
   |_=>False
  | .scope c=>match d with
   | .scope l σ κ pre rest fwd=>match chain c l with
    |some (p,r)=>Ab rec p pre (GU (fun ρ' h'=>match σ.read ρ' with
     |some s0=>aG (fun s K h=>Ab rec r rest (GV rec c fwd (UX l σ κ (σ.vals s (κ.over ρ')) K (Pq c Q)) 4) (σ.vals s (κ.over ρ')) h) s0 h'
     |none=>False) (Pq c Q)) ρ h
    |none=>False
   | .fwd a fwd=>rec c a (GV rec c fwd (Pq c Q) 4) ρ h
   |_=>False
  |_=>False
def vc(C:Ctx)(n:Nat):Nat->Rec
 |0=>fun _ _ _ _ _=>False
 |f+1=>Pr C n (vc C n f)
def GW(C:Ctx)(n:Nat)(rec:Rec):Prop:=∀(c:Code) (b:ak) (Q:QT) (ρ:Env) (a:Act) (w:World),Fits n a ρ->rec c b Q ρ w.heap->c.wp C.P (Out n Q ρ a w) a w
section
variable {C:Ctx} {n:Nat} {Q:QT} {ρ ρ':Env} {a a':Act} {w w':World}
theorem Out.base{e:Exit}{b:Act}{c:World}(f:Ext ρ ρ' a a')(i:cM w w')(h:Out n Q ρ' a' w' e b c):Out n Q ρ a w e b c:=by
 obtain⟨d,k,j,h3,g⟩:=h;exact⟨d,k,f.trans j,i.trans h3,g⟩
theorem Out.mono{f:QT}{e:Exit}{b:Act}{c:World}(i:∀ρ h,Q e ρ h->f e ρ h)(h:Out n Q ρ a w e b c):Out n f ρ a w e b c:=by
 obtain⟨d,k,j,h3,g⟩:=h;exact⟨d,k,j,h3,i _ _ g⟩
theorem Out.then{next:Env->Heap->Prop}{N:Act->World->Prop}{f:Exit->Act->World->Prop}{e:Exit}{b:Act}{c:World}(h:Out n (GU next Q) ρ a w e b c)
  (k:∀ρ',Fits n b ρ'->Ext ρ ρ' a b->cM w c->next ρ' c.heap->N b c) (l:Out n Q ρ a w e b c->e≠.normal->f e b c):Exit.then N f e b c:=by
 obtain⟨d,j,i,h3,g⟩:=h;cases e<;>first|exact k d j i h3 g|exact l ⟨d,j,i,h3,g⟩ (by simp)
def mX(P:Program):List Code->(Exit->Act->World->Prop)->Act->World->Prop
 |[],Q,a,w=>Q .normal a w
 |c::cs,Q,a,w=>c.wp P (Exit.then (mX P cs Q) Q) a w
theorem jL{P:Program}{Q d:Exit->Act->World->Prop}(b:∀e a w,Q e a w->d e a w):∀(l:List Code) (a:Act) (w:World),mX P l Q a w->mX P l d a w
 |[],_,_,h=>b _ _ _ h
 |c::cs,a,w,h=>wp_mono h fun e a w h=>by
  cases e<;>first|exact jL b cs a w h|exact b _ _ _ h
theorem oM{rec:Rec}(d:GW C n rec):∀(l:List Code) (xs:List ak) (Q:QT) (ρ:Env) (a:Act) (w:World),Fits n a ρ->Ab rec l xs Q ρ w.heap->mX C.P l (Out n Q ρ a w) a w
 |[],_,Q,ρ,a,w,hf,h=>⟨ρ,hf,Ext.refl _ _,cM.refl _,h⟩
 |c::cs,[],Q,ρ,a,w,hf,h=>by
  refine wp_mono (d c .n _ ρ a w hf h) fun e a' w' b=>b.then (fun ρ' g x2 x3 f=>?_) (fun b _=>b);exact jL (fun e a w h=>h.base x2 x3) cs a' w' (oM d cs [] Q ρ' a' w' g f)
 |c::cs,x::xs,Q,ρ,a,w,hf,h=>by
  refine wp_mono (d c x _ ρ a w hf h) fun e a' w' b=>b.then (fun ρ' g x2 x3 f=>?_) (fun b _=>b);exact jL (fun e a w h=>h.base x2 x3) cs a' w' (oM d cs xs Q ρ' a' w' g f)
end
theorem AK{P:Program}{b:Code}{Q:Exit->Act->World->Prop}:∀(l:List Code) (a:Act) (w:World),mX P (l++[b]) Q a w->mX P l (Exit.then (b.wp P Q) Q) a w
 |[],a,w,h=>by
  refine wp_mono h fun e a w h=>?_;cases e<;>exact h
 |c::cs,a,w,h=>wp_mono h fun e a w h=>by
  cases e<;>first|exact AK cs a w h|exact h
theorem rq:∀{c:Code} {l:Nat} {p r:List Code},chain c l=some (p,r)->∃k,findLabel c l=some k/\
  (∀{P:Program} {Q:Exit->Act->World->Prop} {a:Act} {w:World},mX P r Q a w->k.wp P Q a w)/\
  (∀{P:Program} {Q:Exit->Act->World->Prop} {a:Act} {w:World},mX P p (Exit.then (mX P r Q) Q) a w->c.wp P Q a w)
 | .seq x y,l,p,r,h=>by
  simp only[chain]at h;split at h
  ·rename_i o m d;cases h;obtain⟨k,i,j,h3⟩:=rq d;refine⟨.seq k y,by simp[findLabel,i],fun{P Q a w} h=>wp_seq (j (AK m a w h)),fun{P Q a w} h=>wp_seq (h3 ?_)⟩;refine jL (fun e a w g=>?_) p a w h;cases e<;>first|exact AK m a w g|exact g
  ·rename_i d;split at h
   ·rename_i o m n;cases h;obtain⟨k,i,j,h3⟩:=rq n;have s:findLabel x l=none:=by
     clear i j h3 n
     induction x with
     |seq a b iha ihb=>
      simp only[chain]at d;split at d
      ·cases d
      ·rename_i q;split at d
       ·cases d
       ·rename_i f;simp[findLabel,iha q,ihb f]
     |label l'=>
      simp only[chain]at d;cases f:wI l' l with
      |true=>rw[f]at d;cases d
      |false=>
       have:¬l'=l:=fun e=>by subst e;simp at f
       simp[findLabel,this]
     |_=>rfl
    refine⟨k,by simp[findLabel,s,i],j,fun{P Q a w} h=>wp_seq (wp_mono h fun e a w g=>?_)⟩;cases e<;>first|exact h3 g|exact g
   ·cases h
 | .label l',l,p,r,h=>by
  simp only[chain]at h;cases f:wI l' l with
  |false=>rw[f]at h;cases h
  |true=>
   rw[f]at h;cases h;have:=zG f;subst this;exact⟨.skip,by simp[findLabel],fun h=>wp_skip h,fun h=>wp_label h⟩
 | .skip,_,_,_,h=>by cases h
 | .region ..,_,_,_,h=>by cases h
 | .cond ..,_,_,_,h=>by cases h
 | .block ..,_,_,_,h=>by cases h
 | .loop _,_,_,_,h=>by cases h
 | .rangeFunc ..,_,_,_,h=>by cases h
 | .exit _,_,_,_,h=>by cases h
 | .scope _,_,_,_,h=>by cases h
 | .goto _,_,_,_,h=>by cases h
 | .ret,_,_,_,h=>by cases h
 | .refuse _,_,_,_,h=>by cases h
section
variable {P:Program} {c:Code} {Q:Exit->Act->World->Prop} {b:Frame} {k:List Item} {cs:List Frame}
def Reach(P:Program)(c:Code)(Q:Exit->Act->World->Prop)(b:Frame)(k:List Item)(d:List Frame)(a:Act)(w:World)(r:Code):Prop:=
 ∃e a' w',Q e a' w'/\Arrives P (lone (b.at a (.code r::.inScope c::k)) d w) b k d e a' w'
def Good(P:Program)(c:Code)(Q:Exit->Act->World->Prop)(b:Frame)(k:List Item)(d:List Frame):Exit->Act->World->Prop
 | .goto l,a,w=>match findLabel c l with
  |some r=>Reach P c Q b k d a w r
  |none=>Q (.goto l) a w
 |e,a,w=>Q e a w
theorem Ps{m:Machine}{e:Exit}{a:Act}{w:World}(f:Good P c Q b k cs e a w)(d:Arrives P m b (.inScope c::k) cs e a w):
  ∃e a' w',Q e a' w'/\Arrives P m b k cs e a' w':=by
 cases e with
 |normal=>exact⟨.normal,a,w,f,Steps.trans d (.one step_inScope)⟩
 |exit id=>exact⟨.exit id,a,w,f,fun i h=>d i (by simp[exitTo,h])⟩
 |goto l=>
  simp only[Good]at f;cases hf:findLabel c l with
  |none=>
   rw[hf]at f;exact⟨.goto l,a,w,f,fun i h=>d i (by simp[gotoIn,hf,h])⟩
  |some r=>
   rw[hf]at f;obtain⟨n,o,p,j,g⟩:=f;exact⟨n,o,p,j,.of_steps (d _ (by simp[gotoIn,hf])) g⟩
 |ret=>exact⟨_,a,w,f,d⟩
 |panic ch=>exact⟨_,a,w,f,d⟩
 |outgrown=>exact⟨_,a,w,f,d⟩
theorem Pt{r:Code}{a:Act}{w:World}(h:r.wp P (Good P c Q b k cs) a w):Reach P c Q b k cs a w r:=by
 obtain⟨e,a',w',f,d⟩:=h b (.inScope c::k) cs;exact Ps f d
theorem DI{a:Act}{w:World}(h:∀b k cs,c.wp P (Good P c Q b k cs) a w):(Code.scope c).wp P Q a w:=by
 intro b k cs;obtain⟨e,l,m,j,d⟩:=h b k cs b (.inScope c::k) cs;obtain⟨f,a',w',i,g⟩:=Ps j d;exact⟨f,a',w',i,.of_steps (.one step_scope) g⟩
end
section
variable {C:Ctx} {n:Nat} {rec:Rec}
theorem Ct(u:GW C n rec){c:Code}{m:List (Nat×List ak)}{t:QT}{s:Exit->Act->World->Prop}{b:Frame}{k:List Item}{q:List Frame}{ρ:Env}{a0:Act}{w0:World}
  (j:∀e d i f,Fits n i d->Ext ρ d a0 i->cM w0 f->t e d f.heap->Good C.P c s b k q e i f):
  ∀(g:Nat) (e:Exit) (d:Env) (i:Act) (f:World),Fits n i d->Ext ρ d a0 i->cM w0 f->GV rec c m t g e d f.heap->Good C.P c s b k q e i f
 |0,_,_,_,_,_,_,_,h=>h.elim
 |g+1,e,d,i,f,hf,hx,hl,h=>by
  cases e with
  |goto l=>
   simp only[GV]at h;split at h
   ·split at h
    ·rename_i p r o;obtain⟨F,z,A,_⟩:=rq o;simp only[Good,z];refine Pt (A ?_);refine jL (fun e a w v=>?_) _ _ _ (oM u _ _ _ d i f hf h);obtain⟨D,y,B,E,x⟩:=v;exact Ct u j g e D a w y (hx.trans B) (hl.trans E) x
    ·exact h.elim
   ·exact j _ _ _ _ hf hx hl h
  |normal=>exact j _ _ _ _ hf hx hl h
  |exit id=>exact j _ _ _ _ hf hx hl h
  |ret=>exact j _ _ _ _ hf hx hl h
  |panic ch=>exact j _ _ _ _ hf hx hl h
  |outgrown=>exact j _ _ _ _ hf hx hl h
theorem nV{c:Code}{Q:QT}{b:Frame}{k:List Item}{o:List Frame}{ρ:Env}{a0:Act}{w0:World}{e:Exit}{a:Env}{j:Act}{i:World}
  (f:Fits n j a) (d:Ext ρ a a0 j) (g:cM w0 i) (h:Pq c Q e a i.heap):Good C.P c (Out n Q ρ a0 w0) b k o e j i:=by
 cases e with
 |goto l=>
  simp only[Pq]at h;simp only[Good];split at h
  ·rename_i m;simp only[m];exact⟨a,f,d,g,h⟩
  ·exact h.elim
 |normal=>exact⟨a,f,d,g,h⟩
 |exit id=>exact⟨a,f,d,g,h⟩
 |ret=>exact⟨a,f,d,g,h⟩
 |panic ch=>exact⟨a,f,d,g,h⟩
 |outgrown=>exact⟨a,f,d,g,h⟩
theorem MR{a:Act}{σ:dw}{κ:cL}{ρ:Env}{s:σ.den}(b:Fits n a ρ)(c:σ.read ρ=some s):Fits n a (σ.vals s (κ.over ρ))/\Ext ρ (σ.vals s (κ.over ρ)) a a:=
 b.pU b (fun _ _ _=>rfl) c
theorem Sz(F:GW C n rec){c:Code}{l:Nat}{σ:dw}{κ:cL}{pre rest:List ak}{A:List (Nat×List ak)}{p r:List Code}(hc:chain c l=some (p,r)){Q:QT}{ρ:Env}{a:Act}{w:World}(hf:Fits n a ρ)
  (h:Ab rec p pre (GU (fun ρ' h'=>match σ.read ρ' with
     |some S=>aG (fun s K h=>Ab rec r rest (GV rec c A (UX l σ κ (σ.vals s (κ.over ρ')) K (Pq c Q)) 4) (σ.vals s (κ.over ρ')) h) S h'
     |none=>False) (Pq c Q)) ρ w.heap):(Code.scope c).wp C.P (Out n Q ρ a w) a w:=by
 refine DI fun b k cs=>?_;obtain⟨kk,W,Y,h3⟩:=rq hc;refine h3 (jL (fun e a' w' y=>?_) _ _ _ (oM F _ _ _ ρ a w hf h));refine y.then (fun ρ' N x2 x3 D=>?_) (fun y _=>?_)
 ·split at D
  ·rename_i S J;obtain⟨τ,V,I,μ,t0,e0,X,i⟩:=D;subst e0;have g:=MR (κ:=κ) N J;have x:∀(m:Nat) (t:τ) (v:Act) (o:World),μ t=m->I t o.heap->Fits n v (σ.vals (V t) (κ.over ρ'))->Ext ρ' (σ.vals (V t) (κ.over ρ')) a' v->cM w' o->
     mX C.P r (Good C.P c (Out n Q ρ a w) b k cs) v o:=by
    intro m
    induction m using Nat.strongRecOn with
    |_ m ih=>
     intro t v o hm E H f d;refine jL (fun e a2 w2 y=>?_) _ _ _ (oM F _ _ _ _ v o H (i t o.heap E));obtain⟨ρ2,z,B,G,L⟩:=y;refine Ct F (ρ:=σ.vals (V t) (κ.over ρ')) (a0:=v) (w0:=o) (fun e O a3 w3 q u z3 z4=>?_) 4 e ρ2 a2 w2 z B G L;cases e with
     |goto l'=>
      simp only[UX]at z4;cases hb:wI l' l with
      |false=>
       rw[hb]at z4;exact nV q (x2.trans (f.trans u)) (x3.trans (d.trans z3)) z4
      |true=>
       rw[hb]at z4;have:=zG hb;subst this;simp only[Good,W];cases hw:within σ κ O (O.length-(σ.vals (V t) (κ.over ρ')).length)with
       |false=>rw[hw]at z4;exact z4.elim
       |true=>
        rw[hw]at z4;simp only[cond_true]at z4;split at z4
        ·rename_i s' M;have j:∀t,σ.has t=false->(κ.over []).dT t=false->a3.tmps[t]?=a'.tmps[t]?:=fun t T R=>by
          rw[u.within hw t T R,f.pU t T R]
         obtain⟨U,u2⟩:=N.pU (κ:=κ) q j M;obtain⟨t',Z,i1,i2⟩:=z4;subst Z;exact Pt (Y (ih _ (by rw[<-hm];exact i2) t' a3 w3 rfl i1 U u2 (d.trans z3)))
        ·exact z4.elim
     |normal=>exact nV q (x2.trans (f.trans u)) (x3.trans (d.trans z3)) z4
     |exit id=>exact nV q (x2.trans (f.trans u)) (x3.trans (d.trans z3)) z4
     |ret=>exact nV q (x2.trans (f.trans u)) (x3.trans (d.trans z3)) z4
     |panic ch=>exact nV q (x2.trans (f.trans u)) (x3.trans (d.trans z3)) z4
     |outgrown=>exact nV q (x2.trans (f.trans u)) (x3.trans (d.trans z3)) z4
   exact x _ t0 a' w' rfl X g.1 g.2 (cM.refl _)
  ·exact D.elim
 ·obtain⟨ρ1,z,B,G,L⟩:=y;exact nV z B G L
theorem acW(P:C.Ok)(o:GW C n rec):GW C n (Pr C n rec):=by
 intro c X Q ρ a w j h;have q:∀{σ:dw} {κ:cL} {K:σ.den->Heap->Prop} {e:Exit} {a':Act} {w':World},Out n (Jy σ κ ρ K Q) ρ a w e a' w'->(∀s h,K s h->Q .normal (σ.vals s (κ.over ρ)) h)->Out n Q ρ a w e a' w':=by
  intro σ κ K e a' w' g hk;obtain⟨ρ',f,x2,x3,d⟩:=g;cases e with
  |normal=>
   simp only[Jy]at d;cases hw:within σ κ ρ' (ρ'.length-ρ.length)with
   |false=>rw[hw]at d;exact d.elim
   |true=>
    rw[hw]at d;simp only[cond_true]at d;split at d
    ·rename_i s S;obtain⟨G,H⟩:=j.pU (κ:=κ) f (x2.within hw) S;exact⟨_,G,H,x3,hk _ _ d⟩
    ·exact d.elim
  |exit id=>exact⟨ρ',f,x2,x3,d⟩
  |goto l=>exact⟨ρ',f,x2,x3,d⟩
  |ret=>exact⟨ρ',f,x2,x3,d⟩
  |panic ch=>exact⟨ρ',f,x2,x3,d⟩
  |outgrown=>exact⟨ρ',f,x2,x3,d⟩
 unfold Pr at h;split at h
 ·rename_i σ κ x;obtain⟨K,hK,hB⟩:=h;exact wp_mono (o c x _ ρ a w j hB) fun e a' w' g=>q g hK
 ·split at h
  ·exact wp_skip ⟨ρ,j,Ext.refl _ _,cM.refl _,h⟩
  ·exact wp_label ⟨ρ,j,Ext.refl _ _,cM.refl _,h⟩
  ·exact wp_mono (Pp P j h) fun e a' w' g=>g.2
  ·rename_i x y;refine wp_seq (wp_mono (o x _ _ ρ a w j h) fun e a' w' g=>g.then (fun ρ' f x2 x3 d=>?_) (fun g _=>g));exact wp_mono (o y _ _ ρ' a' w' f d) fun e U O g=>g.base x2 x3
  ·rename_i x y z;split at h
   ·rename_i t ht;refine wp_cond_split (j.eval ht) (fun e=>?_) (fun e=>?_)
    ·subst e;exact o y _ _ ρ a w j h
    ·subst e;exact o z _ _ ρ a w j h
   ·exact h.elim
  ·rename_i id x;refine wp_block (wp_mono (o x _ _ ρ a w j h) fun e a' w' g=>?_);obtain⟨ρ',f,x2,x3,d⟩:=g;cases e with
   |exit i=>
    simp only[Exit.inBlock];simp only[Xs]at d;cases hb:wI i id with
    |true=>
     rw[hb]at d;rw[if_pos (zG hb)];exact⟨ρ',f,x2,x3,d⟩
    |false=>
     rw[hb]at d;rw[if_neg (fun e=>by subst e;simp at hb)];exact⟨ρ',f,x2,x3,d⟩
   |normal=>exact⟨ρ',f,x2,x3,d⟩
   |goto l=>exact⟨ρ',f,x2,x3,d⟩
   |ret=>exact⟨ρ',f,x2,x3,d⟩
   |panic ch=>exact⟨ρ',f,x2,x3,d⟩
   |outgrown=>exact⟨ρ',f,x2,x3,d⟩
  ·exact wp_exit ⟨ρ,j,Ext.refl _ _,cM.refl _,h⟩
  ·exact wp_goto ⟨ρ,j,Ext.refl _ _,cM.refl _,h⟩
  ·exact wp_ret ⟨ρ,j,Ext.refl _ _,cM.refl _,h⟩
  ·rename_i x;split at h
   ·rename_i σ κ y _;split at h
    ·rename_i s0 E;obtain⟨τ,V,I,μ,t0,N,W,u⟩:=h;subst N;have m:=MR (κ:=κ) j E;refine Xr (σ:=τ) (fun t D B=>Fits n D (σ.vals (V t) (κ.over ρ))/\Ext ρ (σ.vals (V t) (κ.over ρ)) a D/\cM w B/\I t B.heap) (fun t _=>μ t) t0 ⟨m.1,m.2,cM.refl _,W⟩ ?_;rintro t D B ⟨F,v,z3,z4⟩;refine wp_mono (o x y _ _ D B F (u t _ z4)) fun e R w2 g=>?_;obtain⟨ρ',f,x2,x3,d⟩:=g;cases e with
     |normal=>
      simp only[Jy]at d;cases hw:within σ κ ρ' (ρ'.length-(σ.vals (V t) (κ.over ρ)).length)with
      |false=>rw[hw]at d;exact d.elim
      |true=>
       rw[hw]at d;simp only[cond_true]at d;split at d
       ·rename_i s' J;have A:∀t,σ.has t=false->(κ.over []).dT t=false->R.tmps[t]?=a.tmps[t]?:=fun t M L=>by
         rw[x2.within hw t M L,v.pU t M L]
        obtain⟨G,H⟩:=j.pU (κ:=κ) f A J;obtain⟨Y,e1,i1,Z⟩:=d;subst e1;exact⟨Y,⟨G,H,z3.trans x3,i1⟩,Z⟩
       ·exact d.elim
     |exit id=>exact⟨ρ',f,v.trans x2,z3.trans x3,d⟩
     |goto l=>exact⟨ρ',f,v.trans x2,z3.trans x3,d⟩
     |ret=>exact⟨ρ',f,v.trans x2,z3.trans x3,d⟩
     |panic ch=>exact⟨ρ',f,v.trans x2,z3.trans x3,d⟩
     |outgrown=>exact⟨ρ',f,v.trans x2,z3.trans x3,d⟩
    ·exact h.elim
   ·exact h.elim
  ·rename_i x;split at h
   ·split at h
    ·rename_i p r T;exact Sz o T j h
    ·exact h.elim
   ·refine DI fun b k cs=>wp_mono (o x _ _ ρ a w j h) fun e a' w' g=>?_;obtain⟨ρ',f,x2,x3,d⟩:=g;exact Ct o (ρ:=ρ) (a0:=a) (w0:=w) (fun e ρ3 a3 w3 F v z3 z4=>nV F v z3 z4) 4 e ρ' a' w' f x2 x3 d
   ·exact h.elim
  ·exact h.elim
theorem Pu(a:C.Ok):∀f,GW C n (vc C n f)
 |0=>fun _ _ _ _ _ _ _ h=>h.elim
 |f+1=>acW a (Pu a f)
end
def EI(C:Ctx)(ρ:Env):List ResultVar->(List Value->Prop)->Heap->Prop
 |[],K,_=>K []
 | .tmp t::r,K,h=>match ρ.get t with
  |some v=>EI C ρ r (fun vs=>K (v::vs)) h
  |none=>False
 | .cell a t::r,K,h=>match uy C.T (.load t (.tmp a)) ρ.eval with
  |some q=>∃y:q.ty.den,q.holds h y/\EI C ρ r (fun vs=>K (q.ty.enc y::vs)) h
  |none=>False
def EJ:List Value->Value
 |[v]=>v
 |vs=>.tuple vs.toArray
def EK(C:Ctx)(rs:List ResultVar)(R:Value->Heap->Prop):QT
 | .normal,ρ,h=>EI C ρ rs (fun vs=>R (EJ vs) h) h
 | .ret,ρ,h=>EI C ρ rs (fun vs=>R (EJ vs) h) h
 |_,_,_=>False
def EL:Nat->List Value->Env
 |_,[]=>[]
 |n,v::r=>.val n v::EL (n+1) r
def fnV(C:Ctx)(d:Func)(a:Nat)(b:ak)(args:List Value)(R:Value->Heap->Prop)(h:Heap):Prop:=
 match d.body with
 |some c=>vc C d.ntmps a c b (EK C d.results.toList R) (EL 0 args) h
 |none=>False
theorem Jz:∀{args:List Value} {n t:Nat} {v:Value},(EL n args).get t=some v->n<=t/\args[t-n]?=some v
 |[],_,_,_,h=>by cases h
 |u::r,n,t,v,h=>by
  simp only[EL,Env.get]at h;cases hb:wI n t with
  |true=>
   rw[hb]at h;have:=zG hb;subst this;simpa using h
  |false=>
   rw[hb]at h;obtain⟨c,b⟩:=Jz (args:=r) h;refine⟨by omega,?_⟩;obtain⟨k,a⟩:∃k,t-n=k+1:=⟨t-(n+1),by omega⟩
   rw[a,List.getElem?_cons_succ];have:t-(n+1)=k:=by omega
   rw[<-this];exact b
theorem aah{C:Bq}(f:C.Ok){ev:Operand->Option Value}{e:Operand->Value}(h:∀x v,ev x=some v->e x=v){t:TypeId}{x:Operand}{q:Aa}
  (d:uy C.T (.load t x) ev=some q) {y:q.ty.den} {w:World} (g:q.holds w.heap y):(vW t (e x)).run C.P w=.ok (q.ty.enc y) w:=by
 have c:(do pure (Next.value (<-vW t (e x))):Sem Next).run C.P w=.ok (.value (q.ty.enc y)) w:=Cp f h (o:=⟨none,.load t x,0, "",#[],none⟩) d g;rw[Sem.run_bind]at c;cases hr:(vW t (e x)).run C.P w with
 |halt a b=>rw[hr]at c;cases c
 |ok v w'=>
  rw[hr]at c;simp only[Result.andThen_ok]at c;cases c;rfl
theorem EM{C:Ctx}(j:C.Ok){n:Nat}{a:Act}{ρ:Env}(f:Fits n a ρ):∀{rs:List ResultVar} {K:List Value->Prop} {w:World},EI C ρ rs K w.heap->
  ∃vs,(rs.mapM (fun| .tmp t=>pure (a.tmps.getD t undef)| .cell x t=>(do loadVar t (<-asAddr (a.tmps.getD x undef)):Sem Value)):Sem (List Value)).run C.P w=.ok vs w/\K vs
 |[],K,w,h=>⟨[],rfl,h⟩
 | .tmp t::r,K,w,h=>by
  simp only[EI]at h;split at h
  ·rename_i v o;obtain⟨vs,k,l⟩:=EM j f h;refine⟨v::vs,?_,l⟩;have i:a.tmps.getD t undef=v:=by simp[Array.getD_eq_getD_getElem?,f.get t v o]
   rw[List.mapM_cons,Sem.run_bind,Sem.run_pure,Result.andThen_ok,Sem.run_bind,k,i];rfl
  ·exact h.elim
 | .cell x t::r,K,w,h=>by
  simp only[EI]at h;split at h
  ·rename_i q d;obtain⟨y,p,h⟩:=h;obtain⟨vs,k,l⟩:=EM j f h;refine⟨q.ty.enc y::vs,?_,l⟩;have m:=aah j.toOk (e:=a.eval) (fun x v h=>f.eval h) d p;have s:∃c,a.eval (.tmp x)=.pointer (some c):=by
    unfold uy at d;simp only at d;split at d
    ·rename_i c b;exact⟨c,f.eval b⟩
    ·cases d
   obtain⟨c,b⟩:=s;have i:a.tmps.getD x undef=.pointer (some c):=b;rw[b]at m;rw[List.mapM_cons,Sem.run_bind];simp only[i];have g:(do loadVar t (<-asAddr (.pointer (some c))):Sem Value).run C.P w=.ok (q.ty.enc y) w:=m;rw[g,Result.andThen_ok,Sem.run_bind,k];rfl
  ·exact h.elim
theorem acX{C:Ctx}(n:C.Ok){f:FuncId}{d:Func}(u:C.P.funcs[f]?=some d){a:Nat}{i:ak}{args:List Value}(z:args.length<=d.ntmps){R:Value->Heap->Prop}{h:Heap}
  (j:fnV C d a i args R h):ab C.P f args.toArray h R:=by
 rintro w rfl;unfold fnV at j;split at j
 ·rename_i c s;refine calls_of_wp u s ?_;have b:Fits d.ntmps {tmps:=args.toArray++vq (d.ntmps-args.toArray.size) undef,defers:=[]} (EL 0 args):=by
   refine⟨by simp;omega,rfl,fun t v x=>?_⟩;obtain⟨_,g⟩:=Jz x;rw[Nat.sub_zero]at g;have k:t<args.length:=(qn.1 g).1;simp only[Array.getElem?_append,List.size_toArray,k,if_true,List.getElem?_toArray];exact g
  refine wp_mono (Pu n a c i _ _ _ w b j) fun e a' w' p=>?_;obtain⟨ρ',m,x2,x3,l⟩:=p;have fin:EI C ρ' d.results.toList (fun vs=>R (EJ vs) w'.heap) w'.heap->a'.defers=[]/\∃v,(results d a'.tmps).run C.P w'=.ok v w'/\(∃o,Ending.returned v=.returned o/\cM w w'/\R o w'.heap):=fun y=>by
   obtain⟨vs,q,g⟩:=EM n m y;refine⟨m.defers,EJ vs,?_,EJ vs,rfl,x3,g⟩;unfold results;rw[vk,map_eq_pure_bind,bind_assoc,Sem.run_bind];refine(congrArg (fun r=>Result.andThen r _) q).trans ?_;simp only[Result.andThen_ok,pure_bind,Sem.run_pure];cases vs with
   |nil=>rfl
   |cons v r=>cases r<;>rfl
  cases e<;>first|exact fin l|exact l.elim
 ·exact j.elim
theorem ao{C:Ctx}(g:C.Ok){f:FuncId}{b:Func}(d:C.P.funcs[f]?=some b)(a:ak){args:List Value}{R:Value->Heap->Prop}{h:Heap}{Q:Prop}(i:Q)
  (c:xg args.length b.ntmps=true:=by kernel_rfl) (e:fnV C b 300 a args R h=Q:=by kernel_rfl):ab C.P f args.toArray h R:=acX g d (zF c) (cast e.symm i)
def aw(P:Program)(s:Sem Value)(r:Rt)(h:Heap)(K:r.den->Heap->Prop):Prop:=ae P s h fun v h'=>∃x:r.den,v=r.enc x/\K x h'
def aO(P:Program)(s:Sem Value)(h:Heap)(K:Addr->Heap->Prop):Prop:=ae P s h fun v h'=>∃a:Addr,v=.pointer (some a)/\K a h'
def af(P:Program)(f:FuncId)(args:Array Value)(r:Rt)(h:Heap)(K:r.den->Heap->Prop):Prop:=ab P f args h fun v h'=>∃x:r.den,v=r.enc x/\K x h'
def hJ(C:Ctx)(g:FuncId)(args:List Value)(r:Rt)(h:Heap)(K:r.den->Heap->Prop):Prop:=
 match C.fns[g]? with
 |some true=>af C.P g args.toArray r h K
 |_=>False
theorem eS{C:Ctx}{g:FuncId}{args:List Value}{r:Rt}{h:Heap}{K:r.den->Heap->Prop}(b:C.fns[g]?=some true)(a:af C.P g args.toArray r h K):hJ C g args r h K:=by
 unfold hJ;rw[b];exact a
end Go.Vc
abbrev cv:=List (List UInt8)
abbrev aU:=List UInt8
abbrev dq:=List (List Int)
abbrev aB:=List Int
abbrev aP:=Option Go.Addr
abbrev aV:=List Go.Value
abbrev Cu:=Go.Value->Go.Vc.Heap->Prop
abbrev cB:=Go.FuncId×Array Go.Value×Array Go.Value
abbrev Go.Vc.ak.tn(a:Go.Vc.ak):Go.Vc.ak:=.two .n a
