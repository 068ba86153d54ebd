/- Lemmas for the proof of the law; no condition. -/
import Derived.Calls
import Derived.Orders
import Derived.Scope
import Derived.KernelRfl
import Derived.Laws.Sem
import Derived.OrdersHeld
set_option linter.unusedVariables false
set_option linter.unusedSimpArgs false
open Nat renaming beq -> wM, ble -> xo, blt -> xg, eq_of_beq_eq_true -> zM, le_of_ble_eq_true -> zG, le_refl -> ql
open Bool renaming and_eq_true -> qy, false_eq_true -> zg, or_eq_false_iff -> yA, or_eq_true -> zZ, or_false -> xw
open List renaming cons_append -> zu, getElem?_eq_some_iff -> qk, getElem?_map -> qP, length_cons -> ze, mem_append_right -> wb, mem_cons -> qX, mem_cons_of_mem -> qD, mem_cons_self -> qM, mem_singleton -> qu
open BitVec renaming ofInt -> qO
open Go.IntKind renaming i64 -> xL
open Go.Instr renaming alloc -> yQ, box -> vC, build -> xt, buildSlice -> zL, fill -> wH, loadAt -> xp, lookup -> xC, makeMap -> xh, makeSlice -> zA, mapUpdate -> yY, slice -> xk, sliceAt -> w4, sliceBound -> vB, sliceBounds -> wk, storeAt -> qG
open Option renaming map_eq_some_iff -> vf, map_some -> qQ, some -> zW
open Array renaming ext' -> yI, getElem?_toList -> vp, mapM_eq_mapM_toList -> vF, replicate -> vK, toList_map -> vY
open Go.Builtin renaming append_ -> zx, clear_ -> vO, copy_ -> yg, len_ -> xB
namespace Go.Qw
abbrev Heap:=Array Obj
def cellOf(h:Heap)(a:Addr):Option Value:=
 match h[a.block]? with
 |some (.cells c _ _)=>if a.spot.isSome then none else c[a.off]?
 |_=>none
def Ti(h:Heap)(a:Addr):Bool:=
 match h[a.block]? with
 |some (.cells _ _ (lo,hi))=>lo<=a.off&&a.off<hi
 |_=>false
def Tj(h:Heap)(a:Addr)(v:Value):Heap:=
 h.modify a.block λ
  | .cells c elem frozen=>.cells (if a.spot.isSome then c else c.setIfInBounds a.off v) elem frozen
  |o=>o
def shapeOf(h:Heap)(r:Nat):Option (TypeId×Nat):=match h[r]? with|some (.cells c elem _)=>some (elem,c.size)|_=>none
theorem Zu(w:World)(r:Nat):w.shape? r=shapeOf w.heap r:=rfl
theorem JB(w:World)(a:Addr):w.cell? a=cellOf w.heap a:=rfl
theorem adg(w:World)(a:Addr):w.frozen? a=Ti w.heap a:=rfl
theorem adh(w:World)(a:Addr)(v:Value):(w.setCell a v).heap=Tj w.heap a v:=rfl
structure dg (w w':World):Prop where
 os:w'.os=w.os
 tape:w'.tape=w.tape
 output:w'.output=w.output
 drawn:w.drawn<=w'.drawn
theorem dg.refl(w:World):dg w w:=⟨rfl,rfl,rfl,ql _⟩
theorem dg.trans{a b c:World}(h:dg a b)(k:dg b c):dg a c:=⟨k.os.trans h.os,k.tape.trans h.tape,k.output.trans h.output,Nat.le_trans h.drawn k.drawn⟩
def an(P:Program)(f:FuncId)(args:Array Value)(h:Heap)(R:Value->Heap->Prop):Prop:=
 ∀w,w.heap=h->Calls P f args w λe w'=>∃v,e=.returned v/\dg w w'/\R v w'.heap
theorem an.mono{P:Program}{f:FuncId}{args:Array Value}{h:Heap}{R a:Value->Heap->Prop}(e:an P f args h R)
  (d:∀v h',R v h'->a v h'):an P f args h a:=λw b=>
 (e w b).mono λ_ _ ⟨v,c,g,r⟩=>⟨v,c,g,d _ _ r⟩
def au{α:Type}(P:Program)(s:Sem α)(h:Heap)(K:α->Heap->Prop):Prop:=
 ∀w,w.heap=h->∃v w',s.run P w=.ok v w'/\dg w w'/\K v w'.heap
variable {α β:Type} {P:Program} {h:Heap}
theorem au.pure'{K:α->Heap->Prop}{a:α}(c:K a h):au P (Pure.pure a) h K:=λw b=>⟨a,w,rfl,dg.refl w,by rw[b];exact c⟩
theorem au.bind{s:Sem α}{f:α->Sem β}{K:β->Heap->Prop}(j:au P s h λv h'=>au P (f v) h' K):au P (s>>=f) h K:=by intro w e;obtain⟨v,w',g,i,k⟩:=j w e;obtain⟨l,a,b,c,d⟩:=k w' rfl;exact⟨l,a,by rw[Sem.run_bind,g];exact b,i.trans c,d⟩
theorem au.mono{s:Sem α}{K d:α->Heap->Prop}(f:au P s h K)(g:∀v h',K v h'->d v h'):au P s h d:=λw e=>
 let⟨v,w',a,b,c⟩:=f w e;⟨v,w',a,b,g _ _ c⟩
theorem au.Zv{K:Program->Heap->Prop}(a:K P h):au P program h K:=λw b=>⟨P,w,rfl,dg.refl w,by rw[b];exact a⟩
theorem au.aew{a:Addr}{v v0:Value}{m:Mode}{K:Unit->Heap->Prop}(e:v.oneCell'=true)(d:cellOf h a=some v0)(c:Ti h a=false)(f:K () (Tj h a v)):
  au P (store a v m) h K:=λw b=>
 ⟨(),w.setCell a v,by rw[run_store _ _ _ _ _ e,JB,b,d];simp[adg,b,c],⟨rfl,rfl,rfl,ql _⟩,by rw[adh,b];exact f⟩
theorem au.oB{o:Obj}{K:Nat->Heap->Prop}(b:K h.size (h.push o)):au P (newObj o) h K:=λw a=>
 ⟨w.heap.size,_,run_newObj P w o,⟨rfl,rfl,rfl,ql _⟩,by simp only[a];exact b⟩
theorem au.Gt{n:Nat}{K:Unit->Heap->Prop}(b:K () h):au P (askRoom n) h K:=λw a=>⟨(),w,run_askRoom P w n,dg.refl w,by rw[a];exact b⟩
theorem au.JC{q:Question}{K:Nat->Heap->Prop}(b:(q.forced=true->K 0 h)/\(q.forced=false->∀n,K (q.cut n) h)):au P (choose q) h K:=by
 intro w a;cases hq:q.forced with
 |true=>exact⟨0,w,by rw[run_choose,hq];rfl,dg.refl w,by rw[a];exact b.1 hq⟩
 |false=>exact⟨q.cut (w.tape w.drawn q),{w with drawn:=w.drawn+1},by rw[run_choose,hq];rfl,⟨rfl,rfl,rfl,Nat.le_succ _⟩,by show K _ w.heap;rw[a];exact b.2 hq _⟩
theorem au.Sg{r:Nat}{o:Obj}{K:Obj->Heap->Prop}(b:h[r]?=some o)(g:∀c e f,o≠.cells c e f)(d:K o h):au P (getObj r) h K:=λw a=>by
 refine⟨o,w,?_,dg.refl w,by rw[a];exact d⟩;simp only[getObj,Sem.run,a,b]
theorem au.Sh{r:Nat}{o a:Obj}{K:Unit->Heap->Prop}(d:h[r]?=some o)(i:∀c e f,o≠.cells c e f)(g:K () (h.setIfInBounds r a)):au P (setObj r a) h K:=λw b=>by
 refine⟨(),{w with heap:=w.heap.setIfInBounds r a},?_,⟨rfl,rfl,rfl,ql _⟩,by show K () (w.heap.setIfInBounds r a);rw[b];exact g⟩;simp only[setObj,Sem.run,b,d]
theorem au.aex{r:Nat}{K:Option (TypeId×Nat)->Heap->Prop}(b:K (shapeOf h r) h):au P (shape r) h K:=λw a=>
 ⟨_,w,run_shape P w r,dg.refl w,by rw[a,Zu,a];exact b⟩
def AO(P:Program)(s:Sem Next)(h:Heap)(K:Value->Heap->Prop):Prop:=
 au P s h λa h'=>match a with
  | .value v=>K v h'
  | .skip=>K undef h'
  | .enter f args=>an P f args h' K
  |_=>False
theorem agz{P:Program}{o:Oper}{a:Act}{w:World}{K:Value->Heap->Prop}{Q:Exit->Act->World->Prop}
  (i:AO P (execOp a.eval o) w.heap K) {next:Act->World->Prop}
  (g:∀v w',dg w w'->K v w'.heap->next (a.put o.dst v) w'):o.wp P a w next Q:=by
 obtain⟨j,w',k,d,b⟩:=i w rfl;unfold Oper.wp;rw[k];cases j<;>simp only at b<;>simp only[Oper.upon]
 case value v=>exact g _ _ d b
 case skip=>exact g _ _ d b
 case enter f args=>
  refine(b w' rfl).mono ?_;rintro e h ⟨v,rfl,c,r⟩;exact g _ _ (d.trans c) r
structure Sl where
 ptr:Option Addr
 len:Nat
 cap:Nat
 deriving Inhabited
inductive Sc where
 |int (k:IntKind)|bool|str|ptr|slc|flt (k:FloatKind)|cpx (k:FloatKind)|mp|fn|any|adr
@[reducible] def Sc.den:Sc->Type
 | .int _=>Int
 | .bool=>Bool
 | .str=>ByteArray
 | .ptr=>Option Addr
 | .slc=>Sl
 | .flt _=>Nat
 | .cpx _=>Nat×Nat
 | .mp=>Option Nat
 | .fn=>FuncId×Array Value×Array Value
 | .any=>Value
 | .adr=>Addr
@[reducible] def Sc.enc:(s:Sc)->s.den->Value
 | .int k,n=>.int k n
 | .bool,x=>.bool x
 | .str,x=>.string x
 | .ptr,a=>.pointer a
 | .slc,x=>.slice x.ptr x.len x.cap
 | .flt k,n=>.float k n
 | .cpx k,x=>.complex k x.1 x.2
 | .mp,r=>.map r
 | .fn,x=>.func (.func x.1) x.2.1 x.2.2
 | .any,v=>v
 | .adr,a=>.pointer (some a)
def AP:IntKind->IntKind->Bool
 | .i8,.i8| .i16,.i16| .i32,.i32| .i64,.i64| .u8,.u8| .u16,.u16| .u32,.u32| .u64,.u64=>true
 |_,_=>false
theorem FP:∀{a b:IntKind},AP a b=true->a=b:=by intro a b;cases a<;>cases b<;>simp[AP]
def Dh:FloatKind->FloatKind->Bool
 | .f32,.f32| .f64,.f64=>true
 |_,_=>false
theorem Di:∀{a b:FloatKind},Dh a b=true->a=b:=by intro a b;cases a<;>cases b<;>simp[Dh]
def Sc.dec:(s:Sc)->Value->Option s.den
 | .int k,.int k' n=>bif AP k k' then some n else none
 | .bool,.bool x=>some x
 | .str,.string x=>some x
 | .ptr,.pointer a=>some a
 | .slc,.slice a l c=>some ⟨a,l,c⟩
 | .flt k,.float k' n=>bif Dh k k' then some n else none
 | .cpx k,.complex k' a b=>bif Dh k k' then some (a,b)else none
 | .mp,.map r=>some r
 | .fn,.func (.func g) f c=>some (g,f,c)
 | .any,v=>some v
 | .adr,.pointer (some a)=>some a
 |_,_=>none
theorem Sc.pK{s:Sc}{v:Value}{x:s.den}(h:s.dec v=some x):v=s.enc x:=by
 cases s<;>cases v<;>simp only[Sc.dec]at h<;>try(first|(cases h;done)|(cases h;rfl))
 case int.int k k' n=>
  cases hk:AP k k'<;>simp[hk]at h;have:=FP hk;subst this;subst h;rfl
 case flt.float k k' n=>
  cases hk:Dh k k'<;>simp[hk]at h;have:=Di hk;subst this;subst h;rfl
 case cpx.complex k k' a b=>
  cases hk:Dh k k'<;>simp[hk]at h;have:=Di hk;subst this;subst h;rfl
 case fn.func g f c=>
  cases g<;>first|(cases h;done)|skip
  obtain⟨l⟩:=f;cases l<;>first|(cases h;done)|(cases h;rfl)
 case adr.pointer a=>
  cases a<;>first|(cases h;done)|(cases h;rfl)
@[reducible] def Aq:List Sc->Type
 |[]=>Unit
 |[s]=>s.den
 |s::t::r=>s.den×Aq (t::r)
@[reducible] def nJ:(l:List Sc)->Aq l->List Value
 |[],_=>[]
 |[s],x=>[s.enc x]
 |s::t::r,x=>s.enc x.1::nJ (t::r) x.2
def Tk:(l:List Sc)->List Value->Option (Aq l)
 |[],[]=>some ()
 |[s],[v]=>s.dec v
 |s::t::r,v::vs=>match s.dec v with
  |some x=>match Tk (t::r) vs with
   |some y=>some (x,y)
   |none=>none
  |none=>none
 |_,_=>none
theorem VY:∀{l:List Sc} {vs:List Value} {x:Aq l},Tk l vs=some x->vs=nJ l x:=by
 intro l vs
 fun_induction Tk l vs with
 |case1=>intro x _;rfl
 |case2 s v=>intro x h;simp only[nJ];rw[Sc.pK h]
 |case3 s t r v vs x hx y hy ih=>intro z h;cases h;simp only[nJ];rw[Sc.pK hx,ih hy]
 |case4=>intro x h;cases h
 |case5=>intro x h;cases h
 |case6=>intro x h;cases h
inductive Ty where
 |sc (s:Sc)
 |agg (l:List Sc)
 |arr (s:Sc)
@[reducible] def Ty.den:Ty->Type
 | .sc s=>s.den
 | .agg l=>Aq l
 | .arr s=>List s.den
@[reducible] def Ty.enc:(t:Ty)->t.den->Value
 | .sc s,x=>s.enc x
 | .agg l,x=>.agg (nJ l x).toArray
 | .arr s,x=>.agg (x.map s.enc).toArray
def Ty.dec:(t:Ty)->Value->Option t.den
 | .sc s,v=>s.dec v
 | .agg l,.agg ⟨cs⟩=>Tk l cs
 |_,_=>none
theorem Ty.pK{t:Ty}{v:Value}{x:t.den}(h:t.dec v=some x):v=t.enc x:=by
 unfold Ty.dec at h;split at h
 ·exact Sc.pK h
 ·have:=VY h;subst this;rfl
 ·cases h
@[reducible] def My:List Ty->Type
 |[]=>Unit
 |[s]=>s.den
 |s::t::r=>s.den×My (t::r)
@[reducible] def Tl:(l:List Ty)->My l->List Value
 |[],_=>[]
 |[s],x=>[s.enc x]
 |s::t::r,x=>s.enc x.1::Tl (t::r) x.2
inductive Rt where
 |one (t:Ty)
 |many (l:List Ty)
@[reducible] def Rt.den:Rt->Type
 | .one t=>t.den
 | .many l=>My l
@[reducible] def Rt.enc:(r:Rt)->r.den->Value
 | .one t,x=>t.enc x
 | .many l,x=>.tuple (Tl l x).toArray
inductive pL where
 |val (t:Nat) (x:Value)
 |kil (lo hi:Nat)
abbrev Env:=List pL
def pL.fb:pL->Nat->Bool
 | .val s _,t=>wM s t
 | .kil lo hi,t=>xo lo t&&xg t hi
def Env.get:Env->Nat->Option Value
 |[],_=>none
 | .val s x::r,t=>bif wM s t then some x else Env.get r t
 | .kil lo hi::r,t=>bif xo lo t&&xg t hi then none else Env.get r t
def Env.fb:Env->Nat->Bool
 |[],_=>false
 |e::r,t=>e.fb t||Env.fb r t
theorem Env.Zw(e:pL)(r:Env)(t:Nat)(h:e.fb t=false):Env.get (e::r) t=Env.get r t:=by
 cases e<;>simp only[pL.fb]at h<;>simp[Env.get,h]
theorem Env.get_append{δ ρ:Env}{t:Nat}(h:δ.fb t=false):Env.get (δ++ρ) t=Env.get ρ t:=by
 induction δ with
 |nil=>rfl
 |cons e r ih=>
  simp only[Env.fb,yA]at h;rw[zu,Env.Zw _ _ _ h.1,ih h.2]
theorem Env.Ar{δ ρ:Env}{t:Nat}:Env.fb (δ++ρ) t=(δ.fb t||ρ.fb t):=by
 induction δ with
 |nil=>simp[Env.fb]
 |cons e r ih=>simp[Env.fb,ih,Bool.or_assoc]
structure Fits (n:Nat) (a:Act) (ρ:Env):Prop where
 size:a.tmps.size=n
 defers:a.defers=[]
 get:∀t x,ρ.get t=some x->a.tmps[t]?=some x
def Ext(ρ c:Env)(a b:Act):Prop:=∃δ:Env,c=δ++ρ/\∀t,δ.fb t=false->b.tmps[t]?=a.tmps[t]?
theorem Ext.refl(ρ:Env)(a:Act):Ext ρ ρ a a:=⟨[],rfl,λ_ _=>rfl⟩
theorem Ext.trans{ρ f b:Env}{a e c:Act}(h:Ext ρ f a e)(k:Ext f b e c):Ext ρ b a c:=by obtain⟨δ,rfl,h⟩:=h;obtain⟨g,rfl,k⟩:=k;refine⟨g++δ,by simp,λt d=>?_⟩;rw[Env.Ar,yA]at d;rw[k t d.1,h t d.2]
def Env.eval(ρ:Env):Operand->Option Value
 | .tmp t=>ρ.get t
 | .const v=>some v
 | .global g=>some (.pointer (some ⟨g,0,none⟩))
 | .func f=>some (.func (.func f) #[] #[])
theorem Fits.eval{n:Nat}{a:Act}{ρ:Env}(h:Fits n a ρ){x:Operand}{v:Value}(b:ρ.eval x=some v):a.eval x=v:=by
 cases x<;>simp only[Env.eval]at b<;>simp only[Act.eval]
 case tmp t=>have:=h.get t v b;simp[Array.getD_eq_getD_getElem?,this]
 all_goals (injection b)
theorem Fits.put{n:Nat}{a:Act}{ρ:Env}(h:Fits n a ρ){d:Nat}(f:xg d n=true)(v:Value):Fits n (a.put (some d) v) (.val d v::ρ):=by
 have c:d<n:=zG f;refine⟨by simp[Act.put,h.size],h.defers,λt x b=>?_⟩;simp only[Env.get]at b;simp only[Act.put,Array.getElem?_setIfInBounds];cases hb:wM d t with
 |true=>
  rw[hb]at b;have:d=t:=zM hb;subst this;simp at b;simp[h.size,c,b]
 |false=>
  rw[hb]at b;have:d≠t:=λe=>by subst e;simp at hb
  simp only[this,if_false];exact h.get t x b
theorem Ext.put{ρ:Env}{a:Act}{d:Nat}(v u:Value):Ext ρ (.val d u::ρ) a (a.put (some d) v):=by
 refine⟨[.val d u],rfl,λt b=>?_⟩;simp only[Env.fb,pL.fb,xw]at b;have:d≠t:=λe=>by subst e;simp at b
 simp[Act.put,this]
abbrev dG:=List (Nat×Ty)
@[reducible] def dG.den:dG->Type
 |[]=>Unit
 |[s]=>s.2.den
 |s::t::r=>s.2.den×dG.den (t::r)
def dG.vals:(σ:dG)->σ.den->Env->Env
 |[],_,ρ=>ρ
 |[s],x,ρ=>.val s.1 (s.2.enc x)::ρ
 |s::t::r,x,ρ=>.val s.1 (s.2.enc x.1)::dG.vals (t::r) x.2 ρ
def dG.read:(σ:dG)->Env->Option σ.den
 |[],_=>some ()
 |[s],ρ=>match ρ.get s.1 with
  |some v=>s.2.dec v
  |none=>none
 |s::t::r,ρ=>match ρ.get s.1 with
  |some v=>match s.2.dec v with
   |some x=>match dG.read (t::r) ρ with
    |some y=>some (x,y)
    |none=>none
   |none=>none
  |none=>none
def dG.has:dG->Nat->Bool
 |[],_=>false
 |s::r,t=>wM s.1 t||dG.has r t
abbrev dt:=List (Nat×Nat)
def dt.over:dt->Env->Env
 |[],ρ=>ρ
 |(lo,hi)::r,ρ=>.kil lo hi::dt.over r ρ
def dt.has:dt->Nat->Nat->Bool
 |[],_,_=>false
 |(lo,hi)::r,a,b=>(xo lo a&&xo b hi)||dt.has r a b
def within(σ:dG)(κ:dt):Env->Nat->Bool
 |_,0=>true
 |[],_+1=>true
 | .val t _::r,n+1=>(dG.has σ t||dt.has κ t (t+1))&&within σ κ r n
 | .kil lo hi::r,n+1=>dt.has κ lo hi&&within σ κ r n
theorem dt.Zx{κ:dt}{a b:Nat}(h:κ.has a b=true){t:Nat}(e:a<=t)(f:t<b)(ρ:Env):∃δ:Env,κ.over ρ=δ++ρ/\δ.fb t=true:=by
 induction κ with
 |nil=>simp[dt.has]at h
 |cons p r ih=>
  obtain⟨c,d⟩:=p;simp only[dt.has,zZ,qy]at h;obtain⟨δ,j⟩:∃δ:Env,dt.over r ρ=δ++ρ:=by
   clear ih h
   induction r with
   |nil=>exact⟨[],rfl⟩
   |cons q r ih=>obtain⟨δ,h⟩:=ih;exact⟨.kil q.1 q.2::δ,by show pL.kil q.1 q.2::dt.over r ρ=_;rw[h];rfl⟩
  rcases h with h|h
  ·have k:=zG h.1;have l:=zG h.2;refine⟨.kil c d::δ,by simp[dt.over,j],?_⟩;have i:xo c t=true:=Nat.ble_eq_true_of_le (by omega);have x2:xg t d=true:=by unfold xg;exact Nat.ble_eq_true_of_le (by omega)
   simp[Env.fb,pL.fb,i,x2]
  ·obtain⟨g,e,f⟩:=ih h;exact⟨.kil c d::g,by simp[dt.over,e],by simp[Env.fb,f]⟩
theorem dt.ML(κ:dt)(ρ:Env):κ.over ρ=κ.over []++ρ:=by
 induction κ with
 |nil=>rfl
 |cons p r ih=>obtain⟨a,b⟩:=p;simp[dt.over,ih]
theorem dG.Gu:∀(σ:dG) (x:σ.den) (ρ:Env),σ.vals x ρ=σ.vals x []++ρ
 |[],_,ρ=>rfl
 |[s],x,ρ=>rfl
 |s::t::r,x,ρ=>by simp only[dG.vals];rw[dG.Gu (t::r) x.2 ρ];rfl
theorem dG.uV:∀(σ:dG) (x:σ.den) (t:Nat),(σ.vals x []).fb t=σ.has t
 |[],_,_=>rfl
 |[s],x,t=>by simp[dG.vals,Env.fb,pL.fb,dG.has]
 |s::u::r,x,t=>by
  have:=dG.uV (u::r) x.2 t;simp only[dG.vals,Env.fb,pL.fb,this];rfl
theorem dG.MM:∀(σ:dG) (x:σ.den) (e:Env) (t:Nat),σ.has t=true->((σ.vals x [])++e).get t=(σ.vals x []).get t
 |[],_,_,_,h=>by cases h
 |[s],x,e,t,h=>by
  simp only[dG.has,xw]at h;simp[dG.vals,Env.get,h]
 |s::u::r,x,e,t,h=>by
  simp only[dG.vals,zu,Env.get];cases hb:wM s.1 t with
  |true=>rfl
  |false=>
   have h':dG.has (u::r) t=true:=by have a:(wM s.1 t||dG.has (u::r) t)=true:=h;rw[hb]at a;exact a
   simpa using dG.MM (u::r) x.2 e t h'
theorem dt.KH{κ:dt}{a b t:Nat}(h:κ.has a b=true)(c:a<=t)(d:t<b):(κ.over []).fb t=true:=by obtain⟨δ,e,f⟩:=dt.Zx h c d [];rw[e];simpa using f
theorem pM{σ:dG}{κ:dt}:∀{δ ρ:Env},within σ κ (δ++ρ) δ.length=true->∀t,σ.has t=false->(κ.over []).fb t=false->δ.fb t=false
 |[],_,_,_,_,_=>rfl
 | .val s x::r,ρ,h,t,h1,h2=>by
  simp only[zu,ze,within,qy,zZ]at h;simp only[Env.fb,pL.fb,yA];refine⟨?_,pM h.2 t h1 h2⟩;cases hb:wM s t with
  |false=>rfl
  |true=>
   have:s=t:=zM hb;subst this;rcases h.1 with h|h
   ·rw[h]at h1;cases h1
   ·rw[dt.KH h (ql _) (Nat.lt_succ_self _)]at h2;cases h2
 | .kil lo hi::r,ρ,h,t,h1,h2=>by
  simp only[zu,ze,within,qy]at h;simp only[Env.fb,pL.fb,yA];refine⟨?_,pM h.2 t h1 h2⟩;cases hb:(xo lo t&&xg t hi)with
  |false=>rfl
  |true=>
   simp only[qy]at hb;have a:=zG hb.1;have b:t<hi:=zG hb.2;rw[dt.KH h.1 a b]at h2;cases h2
theorem dG.MN:∀{σ:dG} {ρ:Env} {x:σ.den} {t:Nat} {v:Value},σ.read ρ=some x->(σ.vals x []).get t=some v->ρ.get t=some v∨False
 |[],_,_,_,_,_,h=>by simp[dG.vals,Env.get]at h
 |[s],ρ,x,t,v,h,hv=>by
  simp only[dG.read]at h;split at h
  ·rename_i u b;simp only[dG.vals,Env.get]at hv;cases hb:wM s.1 t with
   |true=>
    rw[hb]at hv;have:=zM hb;simp at hv;subst hv;rw[<-Ty.pK h,<-this];exact .inl b
   |false=>rw[hb]at hv;simp at hv
  ·cases h
 |s::u::r,ρ,x,t,v,h,hv=>by
  simp only[dG.read]at h;split at h
  ·rename_i z c;split at h
   ·rename_i y d;split at h
    ·rename_i w a;cases h;simp only[dG.vals,Env.get]at hv;cases hb:wM s.1 t with
     |true=>
      rw[hb]at hv;have:=zM hb;simp at hv;subst hv;rw[<-Ty.pK d,<-this];exact .inl c
     |false=>
      rw[hb]at hv;exact dG.MN (σ:=u::r) a hv
    ·cases h
   ·cases h
  ·cases h
theorem Fits.pN{n:Nat}{a d:Act}{σ:dG}{κ:dt}{ρ g:Env}{x:σ.den}(l:Fits n a ρ)(h:Fits n d g)
  (b:∀t,σ.has t=false->(κ.over []).fb t=false->d.tmps[t]?=a.tmps[t]?) (k:σ.read g=some x):
  Fits n d (σ.vals x (κ.over ρ))/\Ext ρ (σ.vals x (κ.over ρ)) a d:=by
 rw[dG.Gu,dt.ML];refine⟨⟨h.size,h.defers,λt v c=>?_⟩,⟨σ.vals x []++κ.over [],by simp,λt f=>?_⟩⟩
 ·cases h1:σ.has t with
  |true=>
   have:∀(e:Env),((σ.vals x [])++e).get t=(σ.vals x []).get t:=λe=>dG.MM σ x e t h1;rw[this]at c;rcases dG.MN k c with h2|h2
   ·exact h.get t v h2
   ·exact h2.elim
  |false=>
   rw[Env.get_append (by rw[dG.uV];exact h1)]at c;cases h2:(κ.over []).fb t with
   |true=>
    have:∀(e:Env),((κ.over [])++e).get t=none:=by
     intro e;clear b c
     induction κ with
     |nil=>simp[dt.over,Env.fb]at h2
     |cons p r ih=>
      obtain⟨j,i⟩:=p;simp only[dt.over,Env.fb,pL.fb]at h2;simp only[dt.over,zu,Env.get];cases hb:(xo j t&&xg t i)with
      |true=>rfl
      |false=>rw[hb]at h2;simp at h2;simpa using ih h2
    rw[this]at c;cases c
   |false=>
    rw[Env.get_append h2]at c;rw[b t h1 h2];exact l.get t v c
 ·rw[Env.Ar,yA,dG.uV]at f;exact b t f.1 f.2
theorem Ext.within{a e:Act}{σ:dG}{κ:dt}{ρ c:Env}(f:Ext ρ c a e)(d:within σ κ c (c.length-ρ.length)=true):
  ∀t,σ.has t=false->(κ.over []).fb t=false->e.tmps[t]?=a.tmps[t]?:=by
 obtain⟨δ,rfl,i⟩:=f;have b:(δ++ρ).length-ρ.length=δ.length:=by simp
 rw[b]at d;exactλt g h=>i t (pM d t g h)
theorem Ext.pN{a c:Act}{σ:dG}{κ:dt}{ρ:Env}{x:σ.den}(d:Ext ρ (σ.vals x (κ.over ρ)) a c):
  ∀t,σ.has t=false->(κ.over []).fb t=false->c.tmps[t]?=a.tmps[t]?:=by
 obtain⟨δ,b,g⟩:=d;rw[dG.Gu,dt.ML,<-List.append_assoc]at b;have:=List.append_cancel_right b;subst this;exactλt e f=>g t (by rw[Env.Ar,dG.uV,e,f];rfl)
inductive nH where
 |int (k:IntKind)|bool|str|flt|cpx|mp|fn|other
 |slice (e:TypeId)|array (n:Nat) (e:TypeId)|struct (fs:List (Nat×TypeId))|ptr (e:TypeId)
def jc:Option TypeDesc->nH
 |some (.int k)=>.int k
 |some .bool=>.bool
 |some .string=>.str
 |some (.float _)=>.flt
 |some (.complex _)=>.cpx
 |some (.map ..)=>.mp
 |some (.func ..)=>.fn
 |some (.slice e)=>.slice e
 |some (.array n e)=>.array n e
 |some (.struct fs)=>.struct (fs.toList.map λf=>(f.offset,f.type))
 |some (.pointer e)=>.ptr e
 |_=>.other
structure TI where
 cG:nH
 ty:Ty
 size:Nat
 bytes:Nat
 zero:List Value
abbrev kr:=List TI
def kr.seen(P:Program)(t:TypeId):nH×Option (Nat×Nat×Option (List Value)):=
 (jc (P.underlying t),(P.info? t).map λi=>(i.size,i.bytes,i.zero.map (·.cells.toList)))
def kr.told(i:TI):nH×Option (Nat×Nat×Option (List Value)):=(i.cG,some (i.size,i.bytes,some i.zero))
def kr.get:kr->Nat->Option TI
 |[],_=>none
 |i::_,0=>some i
 |_::r,t+1=>kr.get r t
structure AQ where
 P:Program
 T:kr
structure AQ.Ok (C:AQ):Prop where
 SI:(List.range C.T.length).map (kr.seen C.P)=C.T.map kr.told
 mixed:C.P.follows .mixedOrders=true
theorem kr.get_eq:∀(T:kr) (t:Nat),T.get t=T[t]?
 |[],_=>rfl
 |_::_,0=>rfl
 |_::r,t+1=>by simp[kr.get,kr.get_eq r t]
theorem AQ.Ok.at{C:AQ}(h:C.Ok){t:Nat}{i:TI}(a:C.T.get t=some i):kr.seen C.P t=kr.told i:=by rw[kr.get_eq]at a;have b:t<C.T.length:=(qk.1 a).1;have:=congrArg (·[t]?) h.SI;simp[b]at this;rw[this,(qk.1 a).2]
def Br(b:Bool)(A B:Prop):Prop:=match b with
 |true=>A
 |false=>B
inductive PV:Type 1 where
 |no
 |val (v:Value)
 |cond (c:Prop) (v:Value)
 |ex (X:Type) (c:X->Prop) (v:X->Value)
 |br (b:Bool) (x y:Value)
def PV.holds(p:PV)(K:Value->Prop):Prop:=match p with
 | .no=>False
 | .val v=>K v
 | .cond c v=>c/\K v
 | .ex _ c v=>∃x,c x/\K (v x)
 | .br b x y=>Br b (K x) (K y)
def rL(P:Program)(s:Sem Next)(v:Value):Prop:=∀w,s.run P w=.ok (.value v) w
def aH{α:Type}(P:Program)(s:Sem α)(v:α):Prop:=∀w,s.run P w=.ok v w
def ku(P:Program)(op:BinOp)(t:TypeId)(x y:Operand)(a b r:Value):Prop:=aH P (do eqGuard op t x y a b;binOp op t a b) r
def abO:Operand->Bool
 | .tmp _=>true
 |_=>false
def Zy(P:Program)(t:TypeId)(x y:Operand)(d:Option nH)(op:BinOp):Value->Value->PV
 | .int k a,.int k' b=>
  match op with
  | .shl=>.cond (0<=b) (.int k (k.wrap (a*2^min b.toNat k.bits)))
  | .shr=>.cond (0<=b) (.int k (a.fdiv (2^min b.toNat k.bits)))
  |_=>bif AP k k' then
   match op with
   | .add=>.val (.int k (k.wrap (a+b)))
   | .sub=>.val (.int k (k.wrap (a-b)))
   | .mul=>.val (.int k (k.wrap (a*b)))
   | .quo=>.cond (b≠0) (.int k (k.wrap (a.tdiv b)))
   | .rem=>.cond (b≠0) (.int k (a.tmod b))
   | .and=>.val (.int k (k.wrap (qO k.bits a&&&qO k.bits b).toNat))
   | .or=>.val (.int k (k.wrap (qO k.bits a|||qO k.bits b).toNat))
   | .xor=>.val (.int k (k.wrap (qO k.bits a^^^qO k.bits b).toNat))
   | .andNot=>.val (.int k (k.wrap (qO k.bits a&&&~~~qO k.bits b).toNat))
   | .eql=>.val (.bool (a==b))
   | .neq=>.val (.bool (a !=b))
   | .lss=>.val (.bool (decide (a<b)))
   | .leq=>.val (.bool (decide (a<=b)))
   | .gtr=>.val (.bool (decide (a>b)))
   | .geq=>.val (.bool (decide (a>=b)))
   |_=>.no
  else .no
 | .float k a,.float k' b=>bif Dh k k' then
   match op with
   | .add=>.ex Nat (λr=>k.format.add a b=some r) (λr=>.float k r)
   | .sub=>.ex Nat (λr=>k.format.sub a b=some r) (λr=>.float k r)
   | .mul=>.ex Nat (λr=>k.format.mul a b=some r) (λr=>.float k r)
   | .quo=>.ex Nat (λr=>k.format.div a b=some r) (λr=>.float k r)
   | .eql=>.val (.bool (k.format.order a b==some .eq))
   | .neq=>.val (.bool (k.format.order a b !=some .eq))
   | .lss=>.val (.bool (k.format.order a b==some .lt))
   | .gtr=>.val (.bool (k.format.order a b==some .gt))
   |_=>.no
  else .no
 | .string a,.string b=>
  match op with
  | .eql=>.val (.bool (a.toList==b.toList))
  | .neq=>.val (.bool (!(a.toList==b.toList)))
  | .lss=>.val (.bool (Op.bytesLess a.toList b.toList))
  | .leq=>.val (.bool (Op.bytesLess a.toList b.toList||a.toList==b.toList))
  | .gtr=>.val (.bool (!(Op.bytesLess a.toList b.toList||a.toList==b.toList)))
  | .geq=>.val (.bool (!(Op.bytesLess a.toList b.toList)))
  | .add=>.cond (((a.size+b.size:Nat):Int)<=xL.max) (.string (a++b))
  |_=>.no
 | .bool a,.bool b=>
  match d with
  |some .bool=>match op with
   | .eql=>.val (.bool (a==b))
   | .neq=>.val (.bool (!(a==b)))
   |_=>.no
  |_=>.no
 | .pointer a,.pointer b=>bif abO y then .ex Bool (λr=>ku P op t x y (.pointer a) (.pointer b) (.bool r)) (λr=>.bool r)else
  match b with
  |none=>match d with
   |some (.ptr _)=>match op with
    | .eql=>.val (.bool a.isNone)
    | .neq=>.val (.bool (!a.isNone))
    |_=>.no
   |_=>.no
  |some _=>.no
 | .slice a _ _,.slice none _ _=>
  match d with
  |some (.slice _)=>match op with
   | .eql=>.val (.bool a.isNone)
   | .neq=>.val (.bool (!a.isNone))
   |_=>.no
  |_=>.no
 | .agg a,.agg b=>.ex Bool (λr=>ku P op t x y (.agg a) (.agg b) (.bool r)) (λr=>.bool r)
 | .complex k a b,.complex k' c e=>
  match op with
  | .eql| .neq=>.ex Bool (λr=>ku P op t x y (.complex k a b) (.complex k' c e) (.bool r)) (λr=>.bool r)
  |_=>.ex (Nat×Nat) (λr=>ku P op t x y (.complex k a b) (.complex k' c e) (.complex k r.1 r.2)) (λr=>.complex k r.1 r.2)
 |_,_=>.no
def Zz(P:Program)(t:TypeId)(x y:Operand)(d:Option nH)(op:BinOp)(a:Value):Value->PV
 | .nilIface=>.ex Bool (λr=>ku P op t x y a .nilIface (.bool r)) (λr=>.bool r)
 |b=>Zy P t x y d op a b
def unV(op:UnOp):Value->PV
 | .bool b=>match op with
  | .not=>.val (.bool !b)
  |_=>.no
 | .int k n=>match op with
  | .neg=>.val (.int k (k.wrap (0-n)))
  | .xor=>.val (.int k (k.wrap (qO k.bits (if k.signed then-1 else k.max)^^^qO k.bits n).toNat))
  |_=>.no
 |_=>.no
def pJ(ev:Operand->Option Value):List Operand->Option (List Value)
 |[]=>some []
 |x::r=>match ev x with
  |some v=>match pJ ev r with
   |some vs=>some (v::vs)
   |none=>none
  |none=>none
def Dj(ev:Operand->Option Value):List (Nat×Operand)->Option (List (Nat×Value))
 |[]=>some []
 |(n,x)::r=>match ev x with
  |some v=>match Dj ev r with
   |some vs=>some ((n,v)::vs)
   |none=>none
  |none=>none
def placesOf(T:kr):List (Nat×TypeId)->Option (List (Nat×Nat))
 |[]=>some []
 |(off,t)::r=>match T.get t with
  |some j=>match placesOf T r with
   |some ps=>some ((off,j.size)::ps)
   |none=>none
  |none=>none
def Hy(ev:Operand->Option Value):Option Operand->Option (Option Int)
 |none=>some none
 |some x=>match ev x with
  |some (.int _ n)=>some (some n)
  |_=>none
def aey(d:Option nH):Value->PV
 | .slice _ n _=>match d with
  |some (.slice _)=>.val (.int .i64 n)
  |_=>.no
 | .string s=>match d with
  |some .str=>.val (.int .i64 s.size)
  |_=>.no
 |_=>.no
def aez(d:Option nH):Value->PV
 | .slice _ _ n=>match d with
  |some (.slice _)=>.val (.int .i64 n)
  |_=>.no
 |_=>.no
def abP(d:Option nH):Value->PV
 | .int _ n=>match d with
  |some (.int k)=>.val (.int k (k.wrap n))
  |_=>.no
 |_=>.no
def AR(P:Program)(T:kr)(op:Op)(ev:Operand->Option Value):PV:=
 match op with
 | .move x| .assign x=>match ev x with
  |some v=>.val v
  |none=>.no
 | .pick c a b=>match ev c,ev a,ev b with
  |some (.bool t),some x,some y=>.br t x y
  |_,_,_=>.no
 | .nilCheck x=>match ev x with
  |some (.pointer p)=>.ex Addr (λa=>p=some a) (λa=>.pointer (some a))
  |_=>.no
 | .fieldAddr s x f=>match ev x with
  |some (.pointer (some a))=>match T.get s with
   |some i=>match i.cG with
    | .struct fs=>match fs[f]? with
     |some (off,t)=>match T.get t with
      |some j=>bif wM j.size 0 then .no else .val (.pointer (some (a.add off)))
      |none=>.no
     |none=>.no
    |_=>.no
   |none=>.no
  |_=>.no
 | .indexAddr t x ix=>match ev ix with
  |some (.int _ n)=>match ev x with
   |some (.slice p len _)=>match T.get t with
    |some i=>match i.cG with
     | .slice e=>match T.get e with
      |some j=>.ex Addr (λa=>p=some a/\0<=n/\n<(len:Int)) (λa=>.pointer (some (a.add (n.toNat*j.size))))
      |none=>.no
     |_=>.no
    |none=>.no
   |some (.pointer (some a))=>match T.get t with
    |some i=>match i.cG with
     | .array m e=>match T.get e with
      |some j=>.cond (0<=n/\n<(m:Int)) (.pointer (some (a.add (n.toNat*j.size))))
      |none=>.no
     |_=>.no
    |none=>.no
   |_=>.no
  |_=>.no
 | .index t x ix=>match ev ix with
  |some (.int _ n)=>match ev x with
   |some (.string s)=>match T.get t with
    |some i=>match i.cG with
     | .str=>.ex UInt8 (λb=>0<=n/\s.data[n.toNat]?=some b) (λb=>.int .u8 b.toNat)
     |_=>.no
    |none=>.no
   |some (.agg cs)=>match T.get t with
    |some i=>match i.cG with
     | .array m e=>match T.get e with
      |some j=>match j.ty with
       | .sc s=>match j.cG with
        | .struct _=>.no
        | .array _ _=>.no
        | .other=>.no
        |_=>bif wM j.size 1 then .ex s.den (λy=>0<=n/\n<(m:Int)/\cs[n.toNat]?=some (s.enc y)) (λy=>s.enc y)else .no
       |_=>.no
      |none=>.no
     |_=>.no
    |none=>.no
   |_=>.no
  |_=>.no
 | .field s x f=>match ev x with
  |some (.agg ⟨cs⟩)=>match T.get s with
   |some i=>match i.cG with
    | .struct fs=>match fs[f]? with
     |some (off,t)=>match T.get t with
      |some j=>match j.cG with
       | .struct _=>.val (.agg ((cs.drop off).take j.size).toArray)
       | .array _ _=>.val (.agg ((cs.drop off).take j.size).toArray)
       | .other=>.no
       |_=>match cs[off]? with
        |some v=>.val v
        |none=>.no
      |none=>.no
     |none=>.no
    |_=>.no
   |none=>.no
  |_=>.no
 | .slice t x lo hi mx=>match mx with
  |some _=>.no
  |none=>match Hy ev lo,Hy ev hi with
   |some l,some r=>match ev x with
    |some (.slice p len cap)=>match T.get t with
     |some i=>match i.cG with
      | .slice e=>match T.get e with
       |some j=>match l,r with
        |none,none=>.val (.slice p len cap)
        |none,some r=>.cond (0<=r/\r<=(cap:Int)) (.slice p r.toNat cap)
        |some l,none=>.cond (0<=l/\l<=(len:Int)) (.slice (if cap=l.toNat then p else p.map (·.add (l.toNat*j.size))) (len-l.toNat) (cap-l.toNat))
        |some l,some r=>.cond (0<=l/\l<=r/\r<=(cap:Int)) (.slice (if cap=l.toNat then p else p.map (·.add (l.toNat*j.size))) (r.toNat-l.toNat) (cap-l.toNat))
       |none=>.no
      |_=>.no
     |none=>.no
    |some (.string s)=>match T.get t with
     |some i=>match i.cG with
      | .str=>match l,r with
       |none,none=>.val (.string (s.extract 0 s.size))
       |none,some r=>.cond (0<=r/\r<=(s.size:Int)) (.string (s.extract 0 r.toNat))
       |some l,none=>.cond (0<=l/\l<=(s.size:Int)) (.string (s.extract l.toNat s.size))
       |some l,some r=>.cond (0<=l/\l<=r/\r<=(s.size:Int)) (.string (s.extract l.toNat r.toNat))
      |_=>.no
     |none=>.no
    |some (.pointer (some a))=>match T.get t with
     |some i=>match i.cG with
      | .array n e=>match T.get e with
       |some j=>match l,r with
        |none,none=>.val (.slice (some a) n n)
        |none,some r=>.cond (0<=r/\r<=(n:Int)) (.slice (some a) r.toNat n)
        |some l,none=>.cond (0<=l/\l<=(n:Int)) (.slice (some (if n=l.toNat then a else a.add (l.toNat*j.size))) (n-l.toNat) (n-l.toNat))
        |some l,some r=>.cond (0<=l/\l<=r/\r<=(n:Int)) (.slice (some (if n=l.toNat then a else a.add (l.toNat*j.size))) (r.toNat-l.toNat) (n-l.toNat))
       |none=>.no
      |_=>.no
     |none=>.no
    |_=>.no
   |_,_=>.no
 | .extract x n=>match ev x with
  |some (.tuple ⟨vs⟩)=>match vs[n]? with
   |some v=>.val v
   |none=>.no
  |_=>.no
 | .binOp op t x y _=>match ev x,ev y with
  |some a,some b=>Zz P t x y ((T.get t).map (·.cG)) op a b
  |_,_=>.no
 | .unOp op _ x=>match ev x with
  |some v=>unV op v
  |none=>.no
 | .convert src dst x=>match ev x,(T.get src).map TI.cG with
  |some v,some (nH.int _)=>abP ((T.get dst).map (·.cG)) v
  |_,_=>.no
 | .build t parts=>match Dj ev parts.toList with
  |some vs=>match T.get t with
   |some i=>bif xg 24 i.size then .ex Value (λv=>aH P (xt t vs.toArray) v) (λv=>v)else match i.cG with
    | .struct fs=>match placesOf T fs with
     |some ps=>match wH (λn=>ps[n]?) i.zero.toArray vs with
      |some cells=>.val (.agg cells)
      |none=>.no
     |none=>.no
    | .array _ e=>match T.get e with
     |some j=>match wH (λn=>some (n*j.size,j.size)) i.zero.toArray vs with
      |some cells=>.val (.agg cells)
      |none=>.no
     |none=>.no
    |_=>.no
   |none=>.no
  |none=>.no
 | .makeFunc fn first captured=>match pJ ev first.toList,pJ ev captured.toList with
  |some a,some b=>.val (.func fn a.toArray b.toArray)
  |_,_=>.no
 | .call c=>match c.callee with
  | .builtin b=>match b with
   | .len=>match c.argTypes.toList,c.args.toList with
    |t::_,[x]=>match ev x with
     |some v=>aey ((T.get t).map (·.cG)) v
     |none=>.no
    |_,_=>.no
   | .cap=>match c.argTypes.toList,c.args.toList with
    |t::_,[x]=>match ev x with
     |some v=>aez ((T.get t).map (·.cG)) v
     |none=>.no
    |_,_=>.no
   | .min=>match pJ ev c.args.toList with
    |some [.int k a,.int _ b]=>.val (.int k (if b<a then b else a))
    |_=>.no
   | .max=>match pJ ev c.args.toList with
    |some [.int k a,.int _ b]=>.val (.int k (if b>a then b else a))
    |_=>.no
   | .real=>match pJ ev c.args.toList with
    |some [.complex k a _]=>.val (.float k a)
    |_=>.no
   | .imag=>match pJ ev c.args.toList with
    |some [.complex k _ b]=>.val (.float k b)
    |_=>.no
   |_=>.no
  |_=>.no
 |_=>.no
theorem aH.next{P:Program}{s:Sem Value}{v:Value}(h:aH P s v):rL P (do pure (.value (<-s))) v:=λw=>by
 rw[Sem.run_bind,h w];rfl
theorem aH.pure{α:Type}{P:Program}{v:α}:aH P (pure v) v:=λ_=>rfl
theorem aH.bind{α β:Type}{P:Program}{s:Sem α}{f:α->Sem β}{v:α}{u:β}(h:aH P s v)(k:aH P (f v) u):aH P (s>>=f) u:=λw=>by
 rw[Sem.run_bind,h w];exact k w
theorem Fh{d:Option TypeDesc}{k:IntKind}(h:jc d=.int k):d=some (.int k):=by unfold jc at h;split at h<;>cases h;rfl
theorem ZA{d:Option TypeDesc}(h:jc d=.bool):d=some .bool:=by unfold jc at h;split at h<;>cases h;rfl
theorem tv{d:Option TypeDesc}(h:jc d=.str):d=some .string:=by unfold jc at h;split at h<;>cases h;rfl
theorem jF{d:Option TypeDesc}{e:TypeId}(h:jc d=.slice e):d=some (.slice e):=by unfold jc at h;split at h<;>cases h;rfl
theorem rN{d:Option TypeDesc}{n:Nat}{e:TypeId}(h:jc d=.array n e):d=some (.array n e):=by unfold jc at h;split at h<;>cases h;rfl
theorem adi{d:Option TypeDesc}{e:TypeId}(h:jc d=.ptr e):d=some (.pointer e):=by unfold jc at h;split at h<;>cases h;rfl
theorem oR{d:Option TypeDesc}{a:List (Nat×TypeId)}(h:jc d=.struct a):∃b,d=some (.struct b)/\a=b.toList.map λf=>(f.offset,f.type):=by unfold jc at h;split at h<;>cases h;exact⟨_,rfl,rfl⟩
variable {t:TypeId} {i:TI}
section
variable {C:AQ}
theorem AQ.Ok.cG(h:C.Ok)(a:C.T.get t=some i):jc (C.P.underlying t)=i.cG:=congrArg Prod.fst (h.at a)
theorem AQ.Ok.info(h:C.Ok)(d:C.T.get t=some i):∃f,C.P.info? t=some f/\f.size=i.size/\f.bytes=i.bytes/\∃z,f.zero=some z/\z.cells.toList=i.zero:=by
 have:=congrArg Prod.snd (h.at d);simp only[kr.seen,kr.told]at this;cases hf:C.P.info? t with
 |none=>rw[hf]at this;cases this
 |some f=>
  rw[hf]at this;simp only[qQ,zW.injEq,Prod.mk.injEq]at this;obtain⟨a,b,c⟩:=this;cases hz:f.zero with
  |none=>rw[hz]at c;cases c
  |some z=>rw[hz]at c;simp at c;exact⟨f,rfl,a,b,z,hz,by simpa using c⟩
theorem aG{P:Program}{t:TypeId}{d:TypeDesc}(h:P.underlying t=some d):aH P (underlying t) d:=λw=>by
 simp[underlying,h]
theorem dc{P:Program}{t:TypeId}{d:TypeInfo}(h:P.info? t=some d):aH P (typeInfo t) d:=λw=>by
 simp[typeInfo,h]
theorem eE(h:C.Ok)(b:C.T.get t=some i):aH C.P (sizeOf t) i.size:=by obtain⟨f,a,c,_⟩:=h.info b;rw[<-c];exact(dc a).bind .pure
theorem rx(h:C.Ok)(c:C.T.get t=some i):∃z,aH C.P (zeroValue t) z/\z.cells.toList=i.zero:=by obtain⟨f,a,_,_,z,d,b⟩:=h.info c;refine⟨z,(dc a).bind ?_,b⟩;rw[d];exact .pure
theorem lj(h:C.Ok)(j:C.T.get t=some i):(∀b,i.cG=.struct b->aH C.P (isAgg t) true)/\(∀n e,i.cG=.array n e->aH C.P (isAgg t) true)/\
  ((∀b,i.cG≠.struct b)->(∀n e,i.cG≠.array n e)->i.cG≠.other->aH C.P (isAgg t) false):=by
 have a:=h.cG j;refine⟨λb c=>?_,λn e c=>?_,λg k h3=>?_⟩
 ·rw[c]at a;obtain⟨l,f,_⟩:=oR a;exact(aG f).bind .pure
 ·rw[c]at a;exact(aG (rN a)).bind .pure
 ·cases hu:C.P.underlying t with
  |none=>rw[hu]at a;exact absurd a.symm h3
  |some d=>
   refine(aG hu).bind ?_;rw[hu]at a;cases d<;>first|exact .pure|(exfalso;simp only[jc]at a;first|exact g _ a.symm|exact k _ _ a.symm)
end
theorem Bw{ev:Operand->Option Value}{e:Operand->Value}(b:∀x v,ev x=some v->e x=v):∀{l:List Operand} {vs:List Value},pJ ev l=some vs->l.map e=vs:=by
 intro l
 induction l with
 |nil=>intro vs h;cases h;rfl
 |cons x r ih=>
  intro vs h;simp only[pJ]at h;split at h
  ·rename_i v c;split at h
   ·rename_i us a;cases h;simp[b _ _ c,ih a]
   ·cases h
  ·cases h
theorem FQ{ev:Operand->Option Value}{e:Operand->Value}(b:∀x v,ev x=some v->e x=v):∀{l:List (Nat×Operand)} {vs:List (Nat×Value)},Dj ev l=some vs->l.map (λp=>(p.1,e p.2))=vs:=by
 intro l
 induction l with
 |nil=>intro vs h;cases h;rfl
 |cons x r ih=>
  intro vs h;obtain⟨n,x⟩:=x;simp only[Dj]at h;split at h
  ·rename_i v c;split at h
   ·rename_i us a;cases h;simp[b _ _ c,ih a]
   ·cases h
  ·cases h
theorem Gv(t:TypeId)(x y:Value):Op.equal t x y=Op.equalIn (9999+1) t x y:=rfl
theorem adj{t:TypeId}(c:P.underlying t=some .bool)(d:Nat)(a b:Bool):aH P (Op.equalIn (d+1) t (.bool a) (.bool b)) (a==b):=λw=>by
 simp[Op.equalIn,underlying,c]
theorem aeA{t e:TypeId}(b:P.underlying t=some (.pointer e))(d:Nat)(a:Option Addr):aH P (Op.equalIn (d+1) t (.pointer a) (.pointer none)) a.isNone:=λw=>by
 cases a<;>simp[Op.equalIn,underlying,b]
theorem ZB{t e:TypeId}(b:P.underlying t=some (.slice e))(d:Nat)(a:Option Addr)(l c g f:Nat):aH P (Op.equalIn (d+1) t (.slice a l c) (.slice none g f)) a.isNone:=λw=>by
 cases a<;>simp[Op.equalIn,underlying,b]
theorem Tm{t:TypeId}{d:Option nH}{op:BinOp}{a b:Value}{x y:Operand}{K:Value->Prop}(o:∀q,d=some q->jc (P.underlying t)=q)
  (h:(Zy P t x y d op a b).holds K):∃v,aH P (do eqGuard op t x y a b;binOp op t a b) v/\K v:=by
 have j:∀{a b:Value},¬(a=.nilIface/\b=.nilIface)->(∀u v,¬(a=.agg u/\b=.agg v))->aH P (eqGuard op t x y a b) ():=by
  intro a b f i w;simp only[eqGuard];cases op<;>simp only[Bool.not_true,Bool.not_false,zg,if_true,if_false]<;>
   first
    |rfl
    |(split<;>first|exact absurd ⟨rfl,rfl⟩ f|exact absurd ⟨rfl,rfl⟩ (i _ _)|rfl)
 unfold Zy at h;split at h
 ·rename_i k a n b;have g:=j (a:=.int k a) (b:=.int n b) (by simp) (by simp);cases op<;>simp only at h
  case shl=>exact⟨_,g.bind λw=>by simp only[binOp,Op.shift];rw[if_neg (by have:=h.1;omega)];rfl,h.2⟩
  case shr=>exact⟨_,g.bind λw=>by simp only[binOp,Op.shift];rw[if_neg (by have:=h.1;omega)];rfl,h.2⟩
  all_goals
   cases hk:AP k n with
   |false=>rw[hk]at h;simp[PV.holds]at h
   |true=>
    rw[hk]at h;simp only[cond_true,PV.holds]at h;have e:=FP hk;subst e
    first
     |exact⟨_,g.bind λw=>by simp[binOp,Op.intArith,Op.intBits,Op.intCmp],h⟩
     |exact⟨_,g.bind λw=>by simp[binOp,Op.intDiv,h.1],h.2⟩
     |exact h.elim
 ·rename_i k a n b;have g:=j (a:=.float k a) (b:=.float n b) (by simp) (by simp);cases hk:Dh k n with
  |false=>rw[hk]at h;simp[PV.holds]at h
  |true=>
   rw[hk]at h;have e:=Di hk;subst e;cases op<;>simp only[cond_true,PV.holds]at h<;>
    first
     |(obtain⟨r,f,i⟩:=h;exact⟨_,g.bind λw=>by simp[binOp,Op.floatArith,f],i⟩)
     |exact⟨_,g.bind λw=>by simp[binOp,Op.floatCmp],h⟩
     |exact h.elim
 ·rename_i a b;have g:=j (a:=.string a) (b:=.string b) (by simp) (by simp);cases op<;>simp only[PV.holds]at h<;>
   first
    |exact⟨_,g.bind λw=>by simp[binOp,Op.stringOp],h⟩
    |exact⟨_,g.bind λw=>by simp only[binOp,Op.stringOp];rw[if_neg (by have:=h.1;omega)];rfl,h.2⟩
    |exact h.elim
 ·rename_i a b;have g:=j (a:=.bool a) (b:=.bool b) (by simp) (by simp);split at h
  ·have m:=ZA (o _ rfl);cases op<;>simp only[PV.holds]at h<;>
    first
     |exact⟨_,g.bind (by simp only[binOp,Gv];exact(adj m _ a b).bind .pure),h⟩
     |exact h.elim
  ·exact h.elim
 ·rename_i a b;cases hy:abO y with
  |true=>
   rw[hy]at h;obtain⟨r,f,i⟩:=h;exact⟨_,f,i⟩
  |false=>
   rw[hy]at h;cases b with
   |some _=>exact h.elim
   |none=>
    have g:=j (a:=.pointer a) (b:=.pointer none) (by simp) (by simp);simp only[cond_false]at h;split at h
    ·rename_i e;have m:=adi (o _ rfl);cases op<;>simp only[PV.holds]at h<;>
      first
       |exact⟨_,g.bind (by simp only[binOp,Gv];exact(aeA m _ a).bind .pure),h⟩
       |exact h.elim
    ·exact h.elim
 ·rename_i a l c s p;have g:=j (a:=.slice a l c) (b:=.slice none s p) (by simp) (by simp);split at h
  ·rename_i e;have m:=jF (o _ rfl);cases op<;>simp only[PV.holds]at h<;>
    first
     |exact⟨_,g.bind (by simp only[binOp,Gv];exact(ZB m _ a l c s p).bind .pure),h⟩
     |exact h.elim
  ·exact h.elim
 ·obtain⟨r,f,i⟩:=h;exact⟨_,f,i⟩
 ·split at h
  ·obtain⟨r,f,i⟩:=h;exact⟨_,f,i⟩
  ·obtain⟨r,f,i⟩:=h;exact⟨_,f,i⟩
  ·obtain⟨r,f,i⟩:=h;exact⟨_,f,i⟩
 ·exact h.elim
theorem Tn{t:TypeId}{d:Option nH}{op:BinOp}{a b:Value}{x y:Operand}{K:Value->Prop}(c:∀q,d=some q->jc (P.underlying t)=q)
  (h:(Zz P t x y d op a b).holds K):∃v,aH P (do eqGuard op t x y a b;binOp op t a b) v/\K v:=by
 unfold Zz at h;split at h
 ·obtain⟨r,e,f⟩:=h;exact⟨_,e,f⟩
 ·exact Tm c h
theorem MO(a:List Value)(off n:Nat):((a.drop off).take n).toArray=(a.toArray).extract off (off+n):=by apply yI;simp[List.extract_eq_take_drop]
variable {e:Operand->Value}
section
variable {C:AQ} {ev:Operand->Option Value}
theorem tO(b:C.Ok):∀{a:List Field} {ps:List (Nat×Nat)},placesOf C.T (a.map λf=>(f.offset,f.type))=some ps->
  aH C.P (a.mapM λf=>(do pure (f.offset,<-sizeOf f.type):Sem (Nat×Nat))) ps
 |[],ps,h=>by cases h;exact .pure
 |f::r,ps,h=>by
  simp only[List.map_cons,placesOf]at h;split at h
  ·rename_i j d;split at h
   ·rename_i e c;cases h;rw[List.mapM_cons];exact aH.bind ((eE b d).bind .pure) ((tO b c).bind .pure)
   ·cases h
  ·cases h
theorem FR(c:C.Ok){t:TypeId}{j:TI}(h:C.T.get t=some j)(d:∀b,j.cG≠.struct b)(f:∀n e,j.cG≠.array n e)(h3:j.cG≠.other)
  {a:Array Value} {off:Nat} {v:Value} (g:a[off]?=some v):aH C.P (part t a off) v:=by
 refine((lj c h).2.2 d f h3).bind ?_;rw[g];exact .pure
theorem MP(b:C.Ok){t:TypeId}{j:TI}(c:C.T.get t=some j)(h:(∃a,j.cG=.struct a)∨∃n e,j.cG=.array n e)
  {d:Array Value} {off:Nat}:aH C.P (part t d off) (.agg (d.extract off (off+j.size))):=by
 have f:aH C.P (isAgg t) true:=by
  rcases h with⟨a,h⟩|⟨n,e,h⟩
  ·exact(lj b c).1 a h
  ·exact(lj b c).2.1 n e h
 exact f.bind ((eE b c).bind .pure)
theorem Hz(J:C.Ok)(G:∀x v,ev x=some v->e x=v){o:Oper}{K:Value->Prop}(h:(AR C.P C.T o.op ev).holds K):
  ∃v,rL C.P (execOp e o) v/\K v:=by
 have M:∀t q,(C.T.get t).map (·.cG)=some q->jc (C.P.underlying t)=q:=λt q h=>by
  cases F:C.T.get t with
  |none=>rw[F]at h;cases h
  |some i=>rw[F]at h;cases h;exact J.cG F
 cases hop:o.op<;>rw[hop]at h<;>simp only[AR]at h<;>simp only[execOp,hop]
 case move x=>
  split at h
  ·rename_i v A;rw[G _ _ A];exact⟨v,λ_=>rfl,h⟩
  ·exact h.elim
 case assign x=>
  split at h
  ·rename_i v A;rw[G _ _ A];exact⟨v,λ_=>rfl,h⟩
  ·exact h.elim
 case pick c a b=>
  split at h
  ·rename_i t x y O h2 h3;rw[G _ _ O,G _ _ h2,G _ _ h3];cases t
   ·exact⟨y,λ_=>rfl,h⟩
   ·exact⟨x,λ_=>rfl,h⟩
  ·exact h.elim
 case nilCheck x=>
  split at h
  ·rename_i p hp;obtain⟨a,rfl,B⟩:=h;rw[G _ _ hp];exact⟨_,λ_=>rfl,B⟩
  ·exact h.elim
 case fieldAddr s x f=>
  split at h
  ·rename_i a ha;rw[G _ _ ha];split at h
   ·rename_i i F;split at h
    ·rename_i fs X;split at h
     ·rename_i off t ad;split at h
      ·rename_i j R;cases hz:wM j.size 0 with
       |true=>rw[hz]at h;exact h.elim
       |false=>
        rw[hz]at h;have E:=J.cG F;rw[X]at E;obtain⟨gs,hg,rfl⟩:=oR E;simp only[qP,vf]at ad;obtain⟨g,ax,ap⟩:=ad;cases ap;refine⟨_,aH.next ((aG hg).bind ?_),h⟩;have ab:gs[f]?=some g:=by simpa using ax
        simp only[ab];refine aH.bind (v:=a) .pure (aH.bind (v:=a.add g.offset) ?_ .pure);unfold fieldPlace;refine(eE J R).bind ?_;have:j.size≠0:=λe=>by rw[e]at hz;cases hz
        rw[if_neg this];exact .pure
      ·exact h.elim
     ·exact h.elim
    ·exact h.elim
   ·exact h.elim
  ·exact h.elim
 case indexAddr t x ix=>
  split at h
  ·rename_i k n hn;rw[G _ _ hn];split at h
   ·rename_i p len cap U;rw[G _ _ U];split at h
    ·rename_i i F;split at h
     ·rename_i el D;split at h
      ·rename_i j R;obtain⟨a,⟨rfl,h0,O⟩,B⟩:=h;have E:=J.cG F;rw[D]at E;have H:=jF E;refine⟨_,aH.next ?_,B⟩;unfold Instr.indexAt;refine aH.bind (v:=(k,n)) .pure ?_;refine(aG H).bind ?_;refine aH.bind (v:=(some a,len,el)) .pure ?_;intro w;have:=eE J R w;simp only[Sem.run_bind,aG H w,Result.andThen_ok];cases hl:decide (len<=1)<;>simp[h0,O,this]
      ·exact h.elim
     ·exact h.elim
    ·exact h.elim
   ·rename_i a U;rw[G _ _ U];split at h
    ·rename_i i F;split at h
     ·rename_i m el D;split at h
      ·rename_i j R;obtain⟨⟨h0,O⟩,B⟩:=h;have E:=J.cG F;rw[D]at E;have H:=rN E;refine⟨_,aH.next ?_,B⟩;unfold Instr.indexAt;refine aH.bind (v:=(k,n)) .pure ?_;refine(aG H).bind ?_;refine aH.bind (v:=(some a,m,el)) .pure ?_;intro w;have:=eE J R w;simp only[Sem.run_bind,aG H w,Result.andThen_ok];cases hl:decide (m<=1)<;>simp[h0,O,this]
      ·exact h.elim
     ·exact h.elim
    ·exact h.elim
   ·exact h.elim
  ·exact h.elim
 case index t x ix=>
  split at h
  ·rename_i k n hn;rw[G _ _ hn];split at h
   ·rename_i s U;rw[G _ _ U];split at h
    ·rename_i i F;split at h
     ·rename_i D;obtain⟨b,⟨h0,O⟩,B⟩:=h;have E:=J.cG F;rw[D]at E;have H:=tv E;refine⟨_,aH.next ?_,B⟩;unfold Instr.index;refine aH.bind (v:=(k,n)) .pure ?_;refine(aG H).bind ?_;have hb:s[n.toNat]?=some b:=by rw[Array.getElem?_eq_some_iff]at O;obtain⟨a6,hg⟩:=O;have a4:n.toNat<s.size:=a6;rw[getElem?_pos s n.toNat a4];exact congrArg some hg
      simp only[h0,if_true,hb];exact .pure
     ·exact h.elim
    ·exact h.elim
   ·rename_i cs U;rw[G _ _ U];split at h
    ·rename_i i F;split at h
     ·rename_i m el D;split at h
      ·rename_i j R;split at h
       ·rename_i s hs;have E:=J.cG F;rw[D]at E;have H:=rN E;have al:(∃y,(0<=n/\n<(m:Int)/\cs[n.toNat]?=some (s.enc y))/\K (s.enc y))->(∀fs,j.cG≠.struct fs)->(∀n e,j.cG≠.array n e)->j.cG≠.other->j.size=1->
          ∃v,rL C.P (do pure (.value (<-Instr.index t (.agg cs) (.int k n)))) v/\K v:=by
         rintro⟨y,⟨h0,O,h2⟩,B⟩ d1 d2 d3 a5;refine⟨_,aH.next ?_,B⟩;unfold Instr.index;refine aH.bind (v:=(k,n)) .pure ?_;refine(aG H).bind ?_;simp only[h0,O,and_self,if_true];refine(eE J R).bind ?_;rw[a5,Nat.mul_one];exact FR J R d1 d2 d3 h2
        split at h
        ·exact h.elim
        ·exact h.elim
        ·exact h.elim
        ·rename_i d1 d2 d3;cases hz:wM j.size 1 with
         |false=>rw[hz]at h;exact h.elim
         |true=>
          rw[hz]at h;exact al h d1 d2 d3 (zM hz)
       ·exact h.elim
      ·exact h.elim
     ·exact h.elim
    ·exact h.elim
   ·exact h.elim
  ·exact h.elim
 case field s x f=>
  split at h
  ·rename_i cs U;rw[G _ _ U];split at h
   ·rename_i i F;split at h
    ·rename_i fs X;split at h
     ·rename_i off t ad;split at h
      ·rename_i j R;have E:=J.cG F;rw[X]at E;obtain⟨gs,hg,rfl⟩:=oR E;simp only[qP,vf]at ad;obtain⟨g,ax,ap⟩:=ad;cases ap;have ab:gs[f]?=some g:=by simpa using ax
       have al:∀v,aH C.P (part g.type ⟨cs⟩ g.offset) v->K v->∃v,rL C.P (do pure (.value (<-Instr.field s (.agg ⟨cs⟩) f))) v/\K v:=by intro v A B;refine⟨v,aH.next ((aG hg).bind ?_),B⟩;simp only[ab];exact aH.bind (v:=(⟨cs⟩:Array Value)) .pure A
       split at h
       ·rename_i bq ay;refine al _ (MP J R (.inl ⟨_,ay⟩)) ?_;rw[<-MO];exact h
       ·rename_i n' e' ay;refine al _ (MP J R (.inr ⟨_,_,ay⟩)) ?_;rw[<-MO];exact h
       ·exact h.elim
       ·rename_i d1 d2 d3;split at h
        ·rename_i v A;exact al v (FR J R d1 d2 d3 (by simpa using A)) h
        ·exact h.elim
      ·exact h.elim
     ·exact h.elim
    ·exact h.elim
   ·exact h.elim
  ·exact h.elim
 case slice t x V hi0 mx=>
  split at h
  ·exact h.elim
  ·split at h
   ·rename_i l r hl hr;have ao:(V=none/\l=none)∨∃y k m,V=some y/\e y=.int k m/\l=some m:=by
     cases V with
     |none=>cases hl;exact .inl ⟨rfl,rfl⟩
     |some y=>
      simp only[Hy]at hl;split at hl
      ·rename_i k m hm;cases hl;exact .inr ⟨y,k,m,rfl,G _ _ hm,rfl⟩
      ·cases hl
    have a0:(hi0=none/\r=none)∨∃y k m,hi0=some y/\e y=.int k m/\r=some m:=by
     cases hi0 with
     |none=>cases hr;exact .inl ⟨rfl,rfl⟩
     |some y=>
      simp only[Hy]at hr;split at hr
      ·rename_i k m hm;cases hr;exact .inr ⟨y,k,m,rfl,G _ _ hm,rfl⟩
      ·cases hr
    have I:∀(bb:Bool) (len cap:Nat) (V F:Option Value) (a b:Nat),(V=none->a=0)->(∀v,V=some v->∃k m,v=.int k m/\0<=m/\a=m.toNat/\m<=(b:Int))->
      (F=none->b=len)->(∀v,F=some v->∃k m,v=.int k m/\0<=m/\b=m.toNat/\m<=(cap:Int))->
      aH C.P (wk bb len cap V F none) (a,b,cap):=by
     intro bb len cap V F a b O h2 h3 h4 w;cases F with
     |none=>
      have e1:=h3 rfl;subst e1;cases V with
      |none=>rw[O rfl];simp[wk]
      |some v=>
       obtain⟨k,m,rfl,x1,rfl,x2⟩:=h2 v rfl;simp[wk,vB,asIntOf,x1,x2]
     |some u=>
      obtain⟨k',W,rfl,y1,rfl,y2⟩:=h4 u rfl;cases V with
      |none=>rw[O rfl];simp[wk,vB,asIntOf,y1,y2]
      |some v=>
       obtain⟨k,m,rfl,x1,rfl,x2⟩:=h2 v rfl;have x3:¬max W 0<m:=by omega
       simp[wk,vB,asIntOf,x1,y1,y2,x3]
    split at h
    ·rename_i p len cap U;rw[G _ _ U];split at h
     ·rename_i i F;split at h
      ·rename_i el D;split at h
       ·rename_i j R;have E:=J.cG F;rw[D]at E;have H:=jF E;have fin:∀(a b:Nat) (v:Value),aH C.P (wk true len cap (V.map e) (hi0.map e) none) (a,b,cap)->
          v=.slice (if cap=a then p else p.map (·.add (a*j.size))) (b-a) (cap-a)->K v->
          ∃v,rL C.P (do pure (.value (<-w4 t (.slice p len cap) (V.map e) (hi0.map e) (Option.map e none)))) v/\K v:=by
         intro a b v hb A B;refine⟨v,aH.next ?_,B⟩;unfold w4;refine(aG H).bind ?_;simp only[xk,Option.map_none];refine(aG H).bind ?_;refine hb.bind ?_;subst A;exact(eE J R).bind .pure
        have ah:(if cap=0 then p else p.map (·.add (0*j.size)))=p:=by
         cases p<;>simp[Addr.add]
        rcases ao with⟨rfl,rfl⟩|⟨y,k,m,rfl,hy,rfl⟩<;>rcases a0 with⟨rfl,rfl⟩|⟨y',k',W,rfl,hy',rfl⟩
        ·exact fin 0 len _ (I _ _ _ _ _ _ _ (λ_=>rfl) (by simp) (λ_=>rfl) (by simp)) (by rw[ah];rfl) h
        ·obtain⟨⟨S,Z⟩,B⟩:=h;exact fin 0 W.toNat _ (I _ _ _ _ _ _ _ (λ_=>rfl) (by simp) (by simp) λv A=>by cases A;exact⟨k',W,hy',S,rfl,Z⟩) (by rw[ah];rfl) B
        ·obtain⟨⟨S,Z⟩,B⟩:=h;exact fin m.toNat len _ (I _ _ _ _ _ _ _ (by simp) (λv A=>by cases A;exact⟨k,m,hy,S,rfl,Z⟩) (λ_=>rfl) (by simp)) rfl B
        ·obtain⟨⟨S,Z,a3⟩,B⟩:=h;exact fin m.toNat W.toNat _ (I _ _ _ _ _ _ _ (by simp) (λv A=>by cases A;exact⟨k,m,hy,S,rfl,by omega⟩) (by simp) λv A=>by cases A;exact⟨k',W,hy',by omega,rfl,a3⟩) rfl B
       ·exact h.elim
      ·exact h.elim
     ·exact h.elim
    ·rename_i s U;rw[G _ _ U];split at h
     ·rename_i i F;split at h
      ·rename_i D;have E:=J.cG F;rw[D]at E;have H:=tv E;have fin:∀(a b:Nat) (v:Value),aH C.P (wk false s.size s.size (V.map e) (hi0.map e) none) (a,b,s.size)->
         v=.string (s.extract a b)->K v->
         ∃v,rL C.P (do pure (.value (<-w4 t (.string s) (V.map e) (hi0.map e) (Option.map e none)))) v/\K v:=by
        intro a b v hb A B;refine⟨v,aH.next ?_,B⟩;unfold w4;refine(aG H).bind ?_;simp only[xk,Option.map_none];refine(aG H).bind ?_;subst A;intro w;simp[hb w]
       rcases ao with⟨rfl,rfl⟩|⟨y,k,m,rfl,hy,rfl⟩<;>rcases a0 with⟨rfl,rfl⟩|⟨y',k',W,rfl,hy',rfl⟩
       ·exact fin 0 s.size _ (I _ _ _ _ _ _ _ (λ_=>rfl) (by simp) (λ_=>rfl) (by simp)) rfl h
       ·obtain⟨⟨S,Z⟩,B⟩:=h;exact fin 0 W.toNat _ (I _ _ _ _ _ _ _ (λ_=>rfl) (by simp) (by simp) λv A=>by cases A;exact⟨k',W,hy',S,rfl,Z⟩) rfl B
       ·obtain⟨⟨S,Z⟩,B⟩:=h;exact fin m.toNat s.size _ (I _ _ _ _ _ _ _ (by simp) (λv A=>by cases A;exact⟨k,m,hy,S,rfl,Z⟩) (λ_=>rfl) (by simp)) rfl B
       ·obtain⟨⟨S,Z,a3⟩,B⟩:=h;exact fin m.toNat W.toNat _ (I _ _ _ _ _ _ _ (by simp) (λv A=>by cases A;exact⟨k,m,hy,S,rfl,by omega⟩) (by simp) λv A=>by cases A;exact⟨k',W,hy',by omega,rfl,a3⟩) rfl B
      ·exact h.elim
     ·exact h.elim
    ·rename_i a U;rw[G _ _ U];split at h
     ·rename_i i F;split at h
      ·rename_i n el D;split at h
       ·rename_i j R;have E:=J.cG F;rw[D]at E;have H:=rN E;have fin:∀(a' b:Nat) (v:Value),aH C.P (wk false n n (V.map e) (hi0.map e) none) (a',b,n)->
          v=.slice (some (if n=a' then a else a.add (a'*j.size))) (b-a') (n-a')->K v->
          ∃v,rL C.P (do pure (.value (<-w4 t (.pointer (some a)) (V.map e) (hi0.map e) (Option.map e none)))) v/\K v:=by
         intro a' b v hb A B;refine⟨v,aH.next ?_,B⟩;unfold w4;refine(aG H).bind ?_;simp only[Option.map_none];refine aH.bind (v:=a) .pure ?_;refine hb.bind ?_;subst A;exact(eE J R).bind .pure
        have ah:(if n=0 then a else a.add (0*j.size))=a:=by simp[Addr.add]
        rcases ao with⟨rfl,rfl⟩|⟨y,k,m,rfl,hy,rfl⟩<;>rcases a0 with⟨rfl,rfl⟩|⟨y',k',W,rfl,hy',rfl⟩
        ·exact fin 0 n _ (I _ _ _ _ _ _ _ (λ_=>rfl) (by simp) (λ_=>rfl) (by simp)) (by rw[ah];rfl) h
        ·obtain⟨⟨S,Z⟩,B⟩:=h;exact fin 0 W.toNat _ (I _ _ _ _ _ _ _ (λ_=>rfl) (by simp) (by simp) λv A=>by cases A;exact⟨k',W,hy',S,rfl,Z⟩) (by rw[ah];rfl) B
        ·obtain⟨⟨S,Z⟩,B⟩:=h;exact fin m.toNat n _ (I _ _ _ _ _ _ _ (by simp) (λv A=>by cases A;exact⟨k,m,hy,S,rfl,Z⟩) (λ_=>rfl) (by simp)) rfl B
        ·obtain⟨⟨S,Z,a3⟩,B⟩:=h;exact fin m.toNat W.toNat _ (I _ _ _ _ _ _ _ (by simp) (λv A=>by cases A;exact⟨k,m,hy,S,rfl,by omega⟩) (by simp) λv A=>by cases A;exact⟨k',W,hy',by omega,rfl,a3⟩) rfl B
       ·exact h.elim
      ·exact h.elim
     ·exact h.elim
    ·exact h.elim
   ·exact h.elim
 case extract x n=>
  split at h
  ·rename_i vs U;rw[G _ _ U];split at h
   ·rename_i v A;refine⟨v,aH.next ?_,h⟩;have:(⟨vs⟩:Array Value)[n]?=some v:=by simpa using A
    simp only[Instr.extract,this];exact .pure
   ·exact h.elim
  ·exact h.elim
 case binOp op t x y u=>
  split at h
  ·rename_i a b ha hb;rw[G _ _ ha,G _ _ hb];obtain⟨v,A,B⟩:=Tn (P:=C.P) (x:=x) (y:=y) (M t) h;exact⟨v,A.next,B⟩
  ·exact h.elim
 case unOp op t x=>
  split at h
  ·rename_i v A;rw[G _ _ A];unfold unV at h;split at h
   ·split at h
    ·exact⟨_,aH.next .pure,h⟩
    ·exact h.elim
   ·split at h
    ·exact⟨_,aH.next .pure,h⟩
    ·exact⟨_,aH.next .pure,h⟩
    ·exact h.elim
   ·exact h.elim
  ·exact h.elim
 case convert s d x=>
  split at h
  ·rename_i v ks A a8;rw[G _ _ A];have hs:=Fh (M _ _ a8);unfold abP at h;split at h
   ·split at h
    ·rename_i n _ k B;have H:=Fh (M _ _ B);refine⟨_,aH.next ?_,h⟩;unfold convert;refine(aG hs).bind ((aG H).bind ?_);exact .pure
    ·exact h.elim
   ·exact h.elim
  ·exact h.elim
 case build t parts=>
  split at h
  ·rename_i vs a7;have hp:(parts.map λ(i,x)=>(i,e x)).toList=vs:=by have:=FQ G a7;simpa using this
   split at h
   ·rename_i i F;obtain⟨z,hz,bk⟩:=rx J F;have am:i.zero.toArray=z.cells:=by rw[<-bk]
    cases hbig:xg 24 i.size with
    |true=>
     rw[hbig]at h;obtain⟨v,A,B⟩:=h;have bd:(parts.map λ(i,x)=>(i,e x))=vs.toArray:=by rw[<-hp]
     refine⟨v,aH.next ?_,B⟩;show aH C.P (xt t (parts.map λ(i,x)=>(i,e x))) v;rw[bd];exact A
    |false=>
    rw[hbig]at h;simp only[cond_false]at h;split at h
    ·rename_i fs X;have E:=J.cG F;rw[X]at E;obtain⟨gs,hg,rfl⟩:=oR E;split at h
     ·rename_i ps a9;split at h
      ·rename_i cells N;refine⟨_,aH.next (hz.bind ((aG hg).bind ?_)),h⟩;have bl:aH C.P (gs.mapM λf=>(do pure (f.offset,<-sizeOf f.type):Sem (Nat×Nat))) ps.toArray:=by rw[vF];intro w;have:=tO J a9 w;rw[map_eq_pure_bind,Sem.run_bind,this];rfl
       refine bl.bind ?_;have ar:wH (λn=>ps.toArray[n]?) z.cells (parts.map λ(i,x)=>(i,e x)).toList=some cells:=by rw[hp,<-am];simpa using N
       rw[ar];exact .pure
      ·exact h.elim
     ·exact h.elim
    ·rename_i n el X;have E:=J.cG F;rw[X]at E;have H:=rN E;split at h
     ·rename_i j R;split at h
      ·rename_i cells N;refine⟨_,aH.next (hz.bind ((aG H).bind ((eE J R).bind ?_))),h⟩;have ar:wH (λi=>some (i*j.size,j.size)) z.cells (parts.map λ(i,x)=>(i,e x)).toList=some cells:=by rw[hp,<-am];exact N
       rw[ar];exact .pure
      ·exact h.elim
     ·exact h.elim
    ·exact h.elim
   ·exact h.elim
  ·exact h.elim
 case makeFunc fn first captured=>
  split at h
  ·rename_i a b ha hb;have O:first.map e=a.toArray:=by apply yI;simpa using Bw G ha
   have h2:captured.map e=b.toArray:=by apply yI;simpa using Bw G hb
   refine⟨_,aH.next ?_,h⟩;rw[O,h2];exact .pure
  ·exact h.elim
 case call c=>
  split at h
  ·rename_i b hb;have L:∀{v:Value},aH C.P (builtin b c.argTypes o.type (c.args.map λ| .const _=>true|_=>false) (c.args.map e)) (.value v)->
     rL C.P (do let d<-resolve e c o.type;invoke d.target d.args) v:=by
    intro v A w;have:=A w;unfold resolve;rw[hb];exact this
   have Q:∀{vs:List Value},pJ ev c.args.toList=some vs->c.args.map e=vs.toArray:=λA=>by
    apply yI;simpa using Bw G A
   have Y:∀{s:Sem Value} {v:Value},aH C.P s v->aH C.P (do pure (Next.value (<-s))) (.value v):=λhs=>hs.bind .pure;split at h
   case h_1=>
    split at h
    ·rename_i t ts x O h2;split at h
     ·rename_i v A;have ha:c.args.map e=#[v]:=by apply yI;rw[vY,h2];simp[G _ _ A]
      have ht:c.argTypes[0]?=some t:=by rw[<-vp,O];rfl
      unfold aey at h;split at h
      ·rename_i p n cap;split at h
       ·rename_i el D;have H:=jF (M _ _ D);refine⟨_,L ?_,h⟩;rw[ha];refine Y ?_;intro w;simp[xB,ht,underlying,H,goInt]
       ·exact h.elim
      ·rename_i s;split at h
       ·rename_i D;have H:=tv (M _ _ D);refine⟨_,L ?_,h⟩;rw[ha];refine Y ?_;intro w;simp[xB,ht,underlying,H,goInt]
       ·exact h.elim
      ·exact h.elim
     ·exact h.elim
    ·exact h.elim
   case h_2=>
    split at h
    ·rename_i t ts x O h2;split at h
     ·rename_i v A;have ha:c.args.map e=#[v]:=by apply yI;rw[vY,h2];simp[G _ _ A]
      have ht:c.argTypes[0]?=some t:=by rw[<-vp,O];rfl
      unfold aez at h;split at h
      ·rename_i p n cap;split at h
       ·rename_i el D;have H:=jF (M _ _ D);refine⟨_,L ?_,h⟩;rw[ha];refine Y ?_;intro w;simp[Builtin.cap_,ht,underlying,H,goInt]
       ·exact h.elim
      ·exact h.elim
     ·exact h.elim
    ·exact h.elim
   case h_3=>
    split at h
    ·rename_i k a k' b A;refine⟨_,L ?_,h⟩;rw[Q A];refine Y ?_;intro w;simp[Builtin.min_,Builtin.min2]
    ·exact h.elim
   case h_4=>
    split at h
    ·rename_i k a k' b A;refine⟨_,L ?_,h⟩;rw[Q A];refine Y ?_;intro w;simp[Builtin.max_,Builtin.max2]
    ·exact h.elim
   case h_5=>
    split at h
    ·rename_i k a b A;refine⟨_,L ?_,h⟩;rw[Q A];exact Y .pure
    ·exact h.elim
   case h_6=>
    split at h
    ·rename_i k a b A;refine⟨_,L ?_,h⟩;rw[Q A];exact Y .pure
    ·exact h.elim
   all_goals exact h.elim
  ·exact h.elim
 all_goals exact h.elim
end
def bn(h:Heap)(a:Addr):Nat->List Value->Prop
 |_,[]=>True
 |n,v::r=>cellOf h (a.add n)=some v/\bn h a (n+1) r
structure uW where
 a:Addr
 ty:Ty
 n:Nat
def uW.holds(r:uW)(h:Heap)(y:r.ty.den):Prop:=
 match r.ty,y with
 | .sc s,y=>cellOf h r.a=some (s.enc y)
 | .agg l,y=>bn h r.a 0 (nJ l y)
 | .arr s,y=>y.length=r.n/\bn h r.a 0 (y.map s.enc)
def tQ(T:kr)(op:Op)(ev:Operand->Option Value):Option uW:=
 match op with
 | .load t x=>match ev x with
  |some (.pointer (some a))=>match T.get t with
   |some i=>match i.cG with
    | .struct _=>match i.ty with
     | .agg l=>bif wM l.length i.size then some ⟨a,i.ty,i.size⟩else none
     |_=>none
    | .array _ _=>match i.ty with
     | .arr _=>some ⟨a,i.ty,i.size⟩
     |_=>none
    | .other=>none
    |_=>match i.ty with
     | .sc _=>some ⟨a,i.ty,1⟩
     |_=>none
   |none=>none
  |_=>none
 |_=>none
theorem FS:∀(l:List Sc) (x:Aq l),(nJ l x).length=l.length
 |[],_=>rfl
 |[_],_=>rfl
 |_::t::r,x=>by simp only[nJ,ze];rw[FS (t::r) x.2];rfl
theorem run_loadCells{P:Program}{w:World}{a:Addr}:∀(vs:List Value) (i:Nat) (b:Array Value),bn w.heap a i vs->
  (loadCellsFrom a i vs.length b).run P w=.ok (b++vs.toArray) w
 |[],i,b,_=>by simp[loadCellsFrom]
 |v::r,i,b,h=>by
  simp only[ze,loadCellsFrom,Sem.run_bind,run_load,JB,h.1,Result.andThen_ok];rw[run_loadCells r (i+1) (b.push v) h.2];simp
theorem Bx{C:AQ}(k:C.Ok){ev:Operand->Option Value}{e:Operand->Value}(G:∀x v,ev x=some v->e x=v){o:Oper}{r:uW}
  (b:tQ C.T o.op ev=some r) {y:r.ty.den} {w:World} (d:r.holds w.heap y):(execOp e o).run C.P w=.ok (.value (r.ty.enc y)) w:=by
 unfold tQ at b;split at b
 ·rename_i t x q;simp only[execOp,q];split at b
  ·rename_i a B;rw[G _ _ B];split at b
   ·rename_i i j;have h:(∀v,(loadVar t a).run C.P w=.ok v w->(do let s<-xp t (.pointer (some a));pure (Next.value s):Sem Next).run C.P w=.ok (.value v) w):=by intro v H;have:xp t (.pointer (some a))=loadVar t a:=rfl;rw[this,Sem.run_bind,H];rfl
    split at b
    ·rename_i A g;split at b
     ·rename_i l f;cases hb:wM l.length i.size with
      |false=>rw[hb]at b;cases b
      |true=>
       rw[hb]at b;simp only[cond_true,zW.injEq]at b;subst b;have p:=zM hb;have c:∀(ty:Ty) (y:ty.den),ty=.agg l->uW.holds ⟨a,ty,i.size⟩ w.heap y->(loadVar t a).run C.P w=.ok (ty.enc y) w:=by rintro ty y rfl d;unfold loadVar;rw[Sem.run_bind,(lj k j).1 A g w];simp only[Result.andThen_ok,if_true,Sem.run_bind,eE k j w];have m:=run_loadCells (P:=C.P) (w:=w) (a:=a) (nJ l y) 0 #[] d;rw[FS,p]at m;unfold loadCells;rw[m];simp
       exact h _ (c i.ty y f d)
     ·cases b
    ·rename_i n z g;split at b
     ·rename_i s f;cases b;have c:∀(ty:Ty) (y:ty.den),ty=.arr s->uW.holds ⟨a,ty,i.size⟩ w.heap y->(loadVar t a).run C.P w=.ok (ty.enc y) w:=by rintro ty y rfl ⟨f,d⟩;unfold loadVar;rw[Sem.run_bind,(lj k j).2.1 n z g w];simp only[Result.andThen_ok,if_true,Sem.run_bind,eE k j w];have m:=run_loadCells (P:=C.P) (w:=w) (a:=a) (y.map s.enc) 0 #[] d;rw[List.length_map,f]at m;unfold loadCells;rw[m];simp
      exact h _ (c i.ty y f d)
     ·cases b
    ·cases b
    ·rename_i D F E;split at b
     ·rename_i s f;cases b;have c:∀(ty:Ty) (y:ty.den),ty=.sc s->uW.holds ⟨a,ty,1⟩ w.heap y->(loadVar t a).run C.P w=.ok (ty.enc y) w:=by rintro ty y rfl d;have u:cellOf w.heap a=some (s.enc y):=d;unfold loadVar;rw[Sem.run_bind,(lj k j).2.2 D F E w];simp[JB,u]
      exact h _ (c i.ty y f d)
     ·cases b
   ·cases b
  ·cases b
 ·cases b
def Typed(t:Ty)(K:Value->Heap->Prop)(v:Value)(h:Heap):Prop:=∃x:t.den,v=t.enc x/\K (t.enc x) h
def HB(t:Rt)(K:Value->Heap->Prop)(v:Value)(h:Heap):Prop:=∃x:t.den,v=t.enc x/\K (t.enc x) h
def HC(K:Value->Heap->Prop)(v:Value)(h:Heap):Prop:=∃a:Addr,v=.pointer (some a)/\K (.pointer (some a)) h
def aeB(T:kr)(t:TypeId)(tup:List (TypeId×List Ty)):Option Rt:=
 match tup.find? (λp=>wM p.1 t)with
 |some p=>some (.many p.2)
 |none=>match T.get t with
  |some i=>some (.one i.ty)
  |none=>none
structure Ctx extends AQ where
 tup:List (TypeId×List Ty)
 fns:List Bool
structure Ctx.Ok (C:Ctx):Prop extends AQ.Ok C.toAQ where
 fns:(C.P.funcs.toList.map λf=>!(f.name== "runtime.NumGoroutine")&&f.body.isSome)=C.fns
def To(C:Ctx)(g:FuncId)(args:List Value)(t:TypeId)(K:Value->Heap->Prop)(h:Heap):Prop:=
 match C.fns[g]? with
 |some true=>match aeB C.T t C.tup with
  |some r=>an C.P g args.toArray h (HB r K)
  |none=>False
 |_=>False
def HD(C:Ctx)(o:Oper)(ev:Operand->Option Value)(K:Value->Heap->Prop)(h:Heap):Prop:=
 match o.op with
 | .store t a x=>match ev a,ev x with
  |some p,some v=>au C.P (qG t p v) h λ_ h'=>K undef h'
  |_,_=>False
 | .alloc t=>au C.P (yQ t true (.tuple #[])) h (HC K)
 | .box t x=>match ev x with
  |some v=>au C.P (vC t v) h (HC K)
  |none=>False
 | .makeSlice t l c=>match ev l,ev c with
  |some l,some c=>au C.P (zA t l c) h (Typed (.sc .slc) K)
  |_,_=>False
 | .buildSlice t n parts=>match Dj ev parts.toList with
  |some ps=>au C.P (zL t n ps.toArray) h (Typed (.sc .slc) K)
  |none=>False
 | .makeMap t none=>au C.P (xh t none) h (Typed (.sc .mp) K)
 | .lookup t x ix ok=>match ev x,ev ix,aeB C.T o.type C.tup with
  |some m,some k,some r=>au C.P (xC t m k ok) h (HB r K)
  |_,_,_=>False
 | .mapUpdate t m k x=>match ev m,ev k,ev x with
  |some m,some k,some v=>au C.P (yY t m k v) h λ_ h'=>K undef h'
  |_,_,_=>False
 | .insert t m k x=>match ev m,ev k,ev x with
  |some m,some k,some v=>au C.P (yY t m k v) h λ_ h'=>K undef h'
  |_,_,_=>False
 | .convert s d x=>match ev x,C.T.get o.type with
  |some v,some i=>au C.P (convert s d v) h (Typed i.ty K)
  |_,_=>False
 | .binOp op t x y _=>match ev x,ev y,C.T.get o.type with
  |some a,some b,some i=>au C.P (do eqGuard op t x y a b;binOp op t a b) h (Typed i.ty K)
  |some a,some b,none=>au C.P (do eqGuard op t x y a b;binOp op t a b) h (Typed (.sc .bool) K)
  |_,_,_=>False
 | .slice t x lo hi mx=>match optVal ev lo,optVal ev hi,optVal ev mx,ev x with
  |some l,some r,some m,some v=>au C.P (w4 t v l r m) h (Typed (.sc .slc) K)
  |_,_,_,_=>False
 | .call c=>match c.callee with
  | .builtin .append=>match pJ ev c.args.toList with
   |some vs=>au C.P (zx c.argTypes o.type vs.toArray) h (Typed (.sc .slc) K)
   |none=>False
  | .builtin .copy=>match pJ ev c.args.toList with
   |some vs=>au C.P (yg c.argTypes o.type vs.toArray) h (Typed (.sc (.int .i64)) K)
   |none=>False
  | .builtin .clear=>match pJ ev c.args.toList with
   |some vs=>au C.P (vO c.argTypes o.type vs.toArray) h K
   |none=>False
  | .builtin .len=>match pJ ev c.args.toList with
   |some vs=>au C.P (xB c.argTypes o.type vs.toArray) h (Typed (.sc (.int .i64)) K)
   |none=>False
  | .builtin .unsafeString=>match pJ ev c.args.toList with
   |some vs=>au C.P (Builtin.unsafeString_ c.argTypes o.type vs.toArray) h (Typed (.sc .str) K)
   |none=>False
  | .builtin .delete=>match pJ ev c.args.toList with
   |some vs=>au C.P (Builtin.delete_ c.argTypes o.type vs.toArray) h K
   |none=>False
  | .value f=>match ev f,pJ ev c.args.toList with
   |some (.func (.func g) ⟨first⟩ ⟨caps⟩),some vs=>To C g (first++vs++caps) o.type K h
   |_,_=>False
  |_=>False
 |_=>False
where
 optVal (ev:Operand->Option Value):Option Operand->Option (Option Value)
  |none=>some none
  |some x=>match ev x with
   |some v=>some (some v)
   |none=>none
variable {K:Value->Heap->Prop}
theorem go{s:Sem Value}(a:au P s h K):AO P (do pure (.value (<-s))) h K:=
 au.bind (a.mono λ_ _ b=>au.pure' b)
theorem Gw{s:Sem Unit}(a:au P s h λ_ h'=>K undef h'):AO P (do s;pure .skip) h K:=
 au.bind (a.mono λ_ _ b=>au.pure' b)
theorem Typed.out{t:Ty}{v:Value}{h:Heap}(x:Typed t K v h):K v h:=by obtain⟨y,rfl,a⟩:=x;exact a
theorem HB.out{t:Rt}{v:Value}{h:Heap}(x:HB t K v h):K v h:=by obtain⟨y,rfl,a⟩:=x;exact a
theorem HC.out{v:Value}{h:Heap}(x:HC K v h):K v h:=by obtain⟨y,rfl,a⟩:=x;exact a
theorem Qd{C:Ctx}(f:C.Ok){g:FuncId}{args:List Value}{t:TypeId}{K:Value->Heap->Prop}{h:Heap}(b:To C g args t K h):
  AO C.P (callFunc g args.toArray) h K:=by
 unfold To at b;split at b
 ·rename_i d;split at b
  ·rename_i r i;have a:=congrArg (·[g]?) f.fns;simp only[qP,d]at a;cases hf:C.P.funcs.toList[g]? with
   |none=>rw[hf]at a;cases a
   |some fn=>
    rw[hf]at a;simp only[qQ,zW.injEq,qy,Bool.not_eq_true']at a;have c:C.P.funcs[g]?=some fn:=by simpa using hf
    have e:fn.body.isNone=false:=by cases hbb:fn.body<;>simp[hbb]at a⊢
    unfold callFunc;refine au.bind (au.Zv ?_);simp only[c,a.1,e];exact au.pure' (b.mono λv h' x=>x.out)
  ·exact b.elim
 ·exact b.elim
theorem Tp{C:Ctx}(U:C.Ok){ev:Operand->Option Value}{e:Operand->Value}(A:∀x v,ev x=some v->e x=v){o:Oper}
  {K:Value->Heap->Prop} {h:Heap} (j:HD C o ev K h):AO C.P (execOp e o) h K:=by
 have G:∀{x:Option Operand} {r:Option Value},HD.optVal ev x=some r->x.map e=r:=by
  intro x r J;cases x with
  |none=>cases J;rfl
  |some y=>
   simp only[HD.optVal]at J;split at J
   ·rename_i v B;cases J;rw[qQ,A _ _ B]
   ·cases J
 unfold HD at j;split at j
 ·rename_i t a x q;simp only[execOp,q];split at j
  ·rename_i p v X B;rw[A _ _ X,A _ _ B];exact Gw j
  ·exact j.elim
 ·rename_i t q;simp only[execOp,q];exact go (j.mono λ_ _ x=>x.out)
 ·rename_i t x q;simp only[execOp,q];split at j
  ·rename_i v B;rw[A _ _ B];exact go (j.mono λ_ _ x=>x.out)
  ·exact j.elim
 ·rename_i t l c q;simp only[execOp,q];split at j
  ·rename_i v u B T;rw[A _ _ B,A _ _ T];exact go (j.mono λ_ _ x=>x.out)
  ·exact j.elim
 ·rename_i t n parts q;simp only[execOp,q];split at j
  ·rename_i ps Q;have:(parts.map λ(i,x)=>(i,e x))=ps.toArray:=by apply yI;have:=FQ A Q;simpa using this
   rw[this];exact go (j.mono λ_ _ x=>x.out)
  ·exact j.elim
 ·rename_i t q;simp only[execOp,q];exact go (j.mono λ_ _ x=>x.out)
 ·rename_i t x ix ok q;simp only[execOp,q];split at j
  ·rename_i m k r H E R;rw[A _ _ H,A _ _ E];exact go (j.mono λ_ _ x=>x.out)
  ·exact j.elim
 ·rename_i t m k x q;simp only[execOp,q];split at j
  ·rename_i Y W v H E B;rw[A _ _ H,A _ _ E,A _ _ B];exact Gw j
  ·exact j.elim
 ·rename_i t m k x q;simp only[execOp,q];split at j
  ·rename_i Y W v H E B;rw[A _ _ H,A _ _ E,A _ _ B];exact Gw j
  ·exact j.elim
 ·rename_i s d x q;simp only[execOp,q];split at j
  ·rename_i v i B L;rw[A _ _ B];exact go (j.mono λ_ _ x=>x.out)
  ·exact j.elim
 ·rename_i op t x y u q;simp only[execOp,q];split at j
  ·rename_i a b i N O L;rw[A _ _ N,A _ _ O];exact go (j.mono λ_ _ x=>x.out)
  ·rename_i a b N O L;rw[A _ _ N,A _ _ O];exact go (j.mono λ_ _ x=>x.out)
  ·exact j.elim
 ·rename_i t x Z L mx q;simp only[execOp,q];split at j
  ·rename_i l r m v V R H B;rw[G V,G R,G H,A _ _ B];exact go (j.mono λ_ _ x=>x.out)
  ·exact j.elim
 ·rename_i c q;simp only[execOp,q];have w:∀{vs:List Value},pJ ev c.args.toList=some vs->c.args.map e=vs.toArray:=λB=>by
   apply yI;simpa using Bw A B
  split at j
  ·rename_i D;split at j
   ·rename_i vs z;unfold resolve;rw[D,w z];exact go (j.mono λ_ _ x=>x.out)
   ·exact j.elim
  ·rename_i D;split at j
   ·rename_i vs z;unfold resolve;rw[D,w z];exact go (j.mono λ_ _ x=>x.out)
   ·exact j.elim
  ·rename_i D;split at j
   ·rename_i vs z;unfold resolve;rw[D,w z];exact go j
   ·exact j.elim
  ·rename_i D;split at j
   ·rename_i vs z;unfold resolve;rw[D,w z];exact go (j.mono λ_ _ x=>x.out)
   ·exact j.elim
  ·rename_i D;split at j
   ·rename_i vs z;unfold resolve;rw[D,w z];exact go (j.mono λ_ _ x=>x.out)
   ·exact j.elim
  ·rename_i D;split at j
   ·rename_i vs z;unfold resolve;rw[D,w z];exact go j
   ·exact j.elim
  ·rename_i f D;split at j
   ·rename_i g first F vs S z
    unfold resolve;rw[D,w z];simp only[A _ _ S];have:=Qd U j;have I:(⟨first⟩:Array Value)++vs.toArray++(⟨F⟩:Array Value)=(first++vs++F).toArray:=by simp
    have M:AO C.P (callFunc g ((⟨first⟩:Array Value)++vs.toArray++(⟨F⟩:Array Value))) h K:=by rw[I];exact this
    simp only[Deferred.ofValue];exact M
   ·exact j.elim
  ·exact j.elim
 ·exact j.elim
def put(n:Nat)(a:Option Tmp)(K:Env->Heap->Prop)(ρ:Env)(v:Value)(h:Heap):Prop:=
 match a with
 |some d=>bif xg d n then K (.val d v::ρ) h else False
 |none=>K ρ h
theorem tR{n:Nat}{b:Option Tmp}{K:Env->Heap->Prop}{ρ:Env}{v:Value}{h:Heap}(c:put n b K ρ v h){a:Act}(e:Fits n a ρ):
  ∃ρ',Fits n (a.put b v) ρ'/\Ext ρ ρ' a (a.put b v)/\K ρ' h:=by
 unfold put at c;cases b with
 |none=>exact⟨ρ,e,Ext.refl _ _,c⟩
 |some d=>
  simp only at c;cases hb:xg d n with
  |false=>rw[hb]at c;exact c.elim
  |true=>rw[hb]at c;exact⟨_,e.put hb v,Ext.put v v,c⟩
def ZC(C:Ctx)(n:Nat)(o:Oper)(K:Env->Heap->Prop)(ρ:Env)(h:Heap):Prop:=
 match AR C.P C.T o.op ρ.eval with
 | .no=>match tQ C.T o.op ρ.eval with
  |some r=>∃y:r.ty.den,r.holds h y/\put n o.dst K ρ (r.ty.enc y) h
  |none=>HD C o ρ.eval (put n o.dst K ρ) h
 |p=>p.holds λv=>put n o.dst K ρ v h
def HE(ops:Array Oper)(o:Oper)(ρ:Env)(a skip:Env->Prop):Prop:=
 match o.guard with
 |none=>a ρ
 |some (j,want)=>match(ops[j]?).bind (·.dst)with
  |some d=>match ρ.get d with
   |some (.bool b)=>Br b (bif want then a (.val d (.bool true)::ρ)else skip (.val d (.bool true)::ρ)) (bif want then skip (.val d (.bool false)::ρ)else a (.val d (.bool false)::ρ))
   |some (.tuple _)=>skip ρ
   |_=>False
  |none=>False
theorem Fits.known{n:Nat}{a:Act}{ρ:Env}(c:Fits n a ρ){d:Nat}{v:Value}(e:ρ.get d=some v):Fits n a (.val d v::ρ)/\Ext ρ (.val d v::ρ) a a:=by
 refine⟨⟨c.size,c.defers,λt x b=>?_⟩,⟨[.val d v],rfl,λ_ _=>rfl⟩⟩;simp only[Env.get]at b;cases hb:wM d t with
 |false=>rw[hb]at b;exact c.get t x b
 |true=>
  rw[hb]at b;have:=zM hb;subst this;rw[cond_true]at b;exact c.get _ x (e.trans b)
theorem FT{ops:Array Oper}{o:Oper}{ρ:Env}{g skip:Env->Prop}{n:Nat}{a:Act}(e:Fits n a ρ)(c:HE ops o ρ g skip):
  ∃ρ',Fits n a ρ'/\Ext ρ ρ' a a/\((Region.wanted o (yielded ops a.tmps)=true/\g ρ')∨(Region.wanted o (yielded ops a.tmps)=false/\skip ρ')):=by
 unfold HE at c;unfold Region.wanted;split at c
 ·rename_i m;rw[m];exact⟨ρ,e,Ext.refl _ _,.inl ⟨rfl,c⟩⟩
 ·rename_i j f m;rw[m];split at c
  ·rename_i d p;split at c
   ·rename_i b k;have l:yielded ops a.tmps j=some b:=by unfold yielded;rw[p];simp[e.get _ _ k]
    simp only[l];obtain⟨h,i⟩:=e.known k;cases b<;>cases f<;>simp only[Br,cond_true,cond_false]at c
    ·exact⟨_,h,i,.inl ⟨rfl,c⟩⟩
    ·exact⟨_,h,i,.inr ⟨rfl,c⟩⟩
    ·exact⟨_,h,i,.inr ⟨rfl,c⟩⟩
    ·exact⟨_,h,i,.inl ⟨rfl,c⟩⟩
   ·rename_i vs k;have l:yielded ops a.tmps j=none:=by unfold yielded;rw[p];simp[e.get _ _ k]
    simp only[l];exact⟨ρ,e,Ext.refl _ _,.inr ⟨by simp,c⟩⟩
   ·exact c.elim
  ·exact c.elim
theorem VZ{C:Ctx}(f:C.Ok){n:Nat}{o:Oper}{K:Env->Heap->Prop}{ρ:Env}{a:Act}{w:World}(j:Fits n a ρ)(d:ZC C n o K ρ w.heap)
  {Q:Exit->Act->World->Prop} {next:Act->World->Prop}
  (t:∀a' w' ρ',Fits n a' ρ'->Ext ρ ρ' a a'->dg w w'->K ρ' w'.heap->next a' w'):o.wp C.P a w next Q:=by
 have i:∀x v,ρ.eval x=some v->a.eval x=v:=λx v h=>j.eval h;have b:∀v w',dg w w'->put n o.dst K ρ v w'.heap->next (a.put o.dst v) w':=λv w' k p=>by
  obtain⟨ρ',l,m,h3⟩:=tR p j;exact t _ _ _ l m k h3
 have c:(AR C.P C.T o.op ρ.eval).holds (λv=>put n o.dst K ρ v w.heap)->o.wp C.P a w next Q:=λh=>by
  obtain⟨v,q,g⟩:=Hz f.toOk i h;unfold Oper.wp;rw[q w];exact b v w (dg.refl w) g
 unfold ZC at d;split at d
 ·split at d
  ·rename_i r e;obtain⟨y,s,g⟩:=d;unfold Oper.wp;rw[Bx f.toOk i e s];exact b _ w (dg.refl w) g
  ·exact agz (Tp f i d) b
 ·exact c d
def Fi(C:Ctx)(n:Nat)(ops:Array Oper)(o:Oper)(K:Env->Heap->Prop)(ρ:Env)(h:Heap):Prop:=
 HE ops o ρ (λρ=>ZC C n o K ρ h) (λρ=>put n o.dst K ρ undef h)
theorem HG{C:Ctx}(h:C.Ok){n:Nat}{ops:Array Oper}{o:Oper}{i:Nat}(g:ops[i]?=some o){K:Env->Heap->Prop}{ρ:Env}{a:Act}{w:World}
  (f:Fits n a ρ) (p:Fi C n ops o K ρ w.heap) {Q:Exit->Act->World->Prop} {next:Act->World->Prop}
  (e:∀a' w' ρ',Fits n a' ρ'->Ext ρ ρ' a a'->dg w w'->K ρ' w'.heap->next a' w'):wpOp C.P ops Q i next a w:=by
 obtain⟨ρ',c,d,h3⟩:=FT f p;unfold wpOp;simp only[g];rcases h3 with⟨hw,hr⟩|⟨hw,hr⟩
 ·simp only[hw,if_true];exact .inl (VZ h c hr λa' w' b l x2 x3 q=>e _ _ _ l (d.trans x2) x3 q)
 ·simp only[hw,zg,if_false];obtain⟨b,k,m,j⟩:=tR hr c;exact e _ _ _ k (d.trans m) (dg.refl w) j
def ZD(C:Ctx)(n:Nat)(ops:Array Oper)(K:Env->Heap->Prop):List Oper->Env->Heap->Prop
 |[],ρ,h=>K ρ h
 |o::r,ρ,h=>Fi C n ops o (ZD C n ops K r) ρ h
def Out(n:Nat)(Q:Exit->Env->Heap->Prop)(ρ:Env)(a:Act)(w:World):Exit->Act->World->Prop:=λe a' w'=>
 ∃ρ',Fits n a' ρ'/\Ext ρ ρ' a a'/\dg w w'/\Q e ρ' w'.heap
theorem KI{C:Ctx}(c:C.Ok){n:Nat}{ops:Array Oper}{K:Env->Heap->Prop}{Q:Exit->Act->World->Prop}{ρ0:Env}{a0:Act}{w0:World}
  (b:∀a w ρ,Fits n a ρ->Ext ρ0 ρ a0 a->dg w0 w->K ρ w.heap->Q .normal a w):
  ∀(r:List Oper) (i:Nat),(∀j,r[j]?=ops[i+j]?)->∀(ρ:Env) (a:Act) (w:World),Fits n a ρ->Ext ρ0 ρ a0 a->dg w0 w->ZD C n ops K r ρ w.heap->
   wpOps C.P ops Q (List.range' i r.length) a w
 |[],i,_,ρ,a,w,hf,hx,hl,hs=>b a w ρ hf hx hl hs
 |o::r,i,hr,ρ,a,w,hf,hx,hl,hs=>by
  have g:ops[i]?=some o:=by simpa using(hr 0).symm
  rw[ze,List.range'_succ,wpOps_cons];refine HG c g hf hs λa' w' ρ' d e h3 f=>?_;exact KI c b r (i+1) (λj=>by have:=hr (j+1);simpa[Nat.add_assoc,Nat.add_comm 1 j]using this) ρ' a' w' d (hx.trans e) (hl.trans h3) f
abbrev bR:=List (Addr×Value)
def bR.ok:bR->Heap->Prop
 |[],_=>True
 |p::r,h=>cellOf h p.1=some p.2/\bR.ok r h
def oe(a:Addr):Nat->List Value->bR->bR
 |_,[],L=>L
 |n,v::r,L=>(a.add n,v)::oe a (n+1) r L
theorem nO{a:Addr}{h:Heap}:∀{vs:List Value} {n:Nat} {L:bR},(oe a n vs L).ok h↔bn h a n vs/\L.ok h
 |[],_,L=>by simp[oe,bn]
 |v::r,n,L=>by simp only[oe,bR.ok,bn,nO (vs:=r),and_assoc]
def uW.held(r:uW)(y:r.ty.den)(L:bR):bR:=
 match r.ty,y with
 | .sc s,y=>(r.a,s.enc y)::L
 | .agg l,y=>oe r.a 0 (nJ l y) L
 | .arr s,y=>oe r.a 0 (y.map s.enc) L
theorem uW.adk{r:uW}{y:r.ty.den}{L:bR}{b:Heap}(c:r.holds b y){m:Heap}:(r.held y L).ok m↔r.holds m y/\L.ok m:=by
 obtain⟨a,ty,n⟩:=r;cases ty with
 |sc s=>exact Iff.rfl
 |agg l=>exact nO
 |arr s=>exact nO.trans ⟨λx=>⟨⟨c.1,x.1⟩,x.2⟩,λx=>⟨x.1.2,x.2⟩⟩
structure gw where
 op:Nat
 r:uW
 y:r.ty.den
def flat:List gw->bR
 |[]=>[]
 |p::r=>p.r.held p.y (flat r)
def gw.ok(p:gw)(w:World):Prop:=p.r.holds w.heap p.y
def waits(ops:Array Oper)(j i:Nat):Bool:=match ops[j]? with
 |some o=>o.after.any λe=>Region.binds .any e&&wM e.on i
 |none=>false
def keep(ops:Array Oper)(j:Nat):List gw->List gw
 |[]=>[]
 |p::r=>bif waits ops j p.op then keep ops j r else p::keep ops j r
theorem pO{ops:Array Oper}{j:Nat}:∀{L:List gw},∀p∈keep ops j L,p∈L
 |[],p,h=>by cases h
 |q::r,p,h=>by
  unfold keep at h;cases hw:waits ops j q.op with
  |true=>rw[hw]at h;exact qD _ (pO p h)
  |false=>
   rw[hw]at h;rcases qX.1 h with rfl|h
   ·exact qM
   ·exact qD _ (pO p h)
theorem By{ops:Array Oper}{j:Nat}:∀{L:List gw} {p:gw},p∈L->waits ops j p.op=false->p∈keep ops j L
 |q::r,p,h,hw=>by
  unfold keep;rcases qX.1 h with rfl|h
  ·rw[hw];exact qM
  ·cases hq:waits ops j q.op with
   |true=>exact By h hw
   |false=>exact qD _ (By h hw)
theorem Gx{ops:Array Oper}{j:Nat}{p:gw}:∀{M:List gw},p∈keep ops j M->waits ops j p.op=false
 |[],h=>by cases h
 |q::r,h=>by
  unfold keep at h;cases hq:waits ops j q.op with
  |true=>rw[hq]at h;exact Gx h
  |false=>
   rw[hq]at h;rcases qX.1 h with rfl|h
   ·exact hq
   ·exact Gx h
theorem Dk{ops:Array Oper}{j:Nat}{L b:List gw}(c:∀p∈b,p∈L):∀p∈keep ops j b,p∈keep ops j L:=
 λp a=>By (c p (pO p a)) (Gx a)
def mf(P:Program)(ops:Array Oper)(Q:Exit->Act->World->Prop):Nat->List gw->Array Bool->Act->World->Prop
 |0,_,listed,a,w=>Region.ready .any ops listed=[]/\Q .normal a w
 |fuel+1,L,listed,a,w=>
  (Region.ready .any ops listed=[]->Q .normal a w)/\
  ∀i∈Region.ready .any ops listed,wpOp P ops Q i (λa' w'=>(∀p∈keep ops i L,p.ok w')/\mf P ops Q fuel (keep ops i L) (listed.setIfInBounds i true) a' w') a w
theorem HI{P:Program}{ops:Array Oper}{Q:Exit->Act->World->Prop}:∀(b:Nat) (L:List gw) (c:Array Bool) (a:Act) (w:World),mf P ops Q b L c a w->wpAny P .any ops Q b c a w
 |0,_,_,_,_,h=>h
 |b+1,_,_,_,_,h=>⟨h.1,λi d=>wpOp_mono (λa' w' h'=>HI b _ _ a' w' h'.2) (h.2 i d)⟩
theorem Bz{P:Program}{ops:Array Oper}{Q:Exit->Act->World->Prop}:∀(b:Nat) {L d:List gw} (c:Array Bool) (a:Act) (w:World),(∀p∈d,p∈L)->mf P ops Q b L c a w->mf P ops Q b d c a w
 |0,_,_,_,_,_,_,h=>h
 |b+1,_,_,_,_,_,hs,h=>⟨h.1,λi f=>wpOp_mono (λa' w' h'=>⟨λp e=>h'.1 p (Dk hs p e),Bz b _ a' w' (Dk hs) h'.2⟩) (h.2 i f)⟩
theorem MQ{P:Program}{ops:Array Oper}{Q:Exit->Act->World->Prop}{i:Nat}{t:Oper}{v:Value}{T:World->Prop}{N:List gw}(Y:ops[i]?=some t)(x:∀(j:Nat) (o:Oper) cs b,ops[j]?=some o->o.op≠.select cs b)
  (hQ:∀c a w,Q (.panic c) (a.put t.dst v) w->Q (.panic c) a w) (hN:∀p∈N,p.op=i) (hT:∀w,(∀p∈N,p.ok w)->T w):
  ∀(f:Nat) (L:List gw) (d:Array Bool) (a:Act) (w:World),
   (∀j r,ops[j]?=some r->j≠i->d.getD j true=false->(∀e∈r.after,Region.binds .any e=true->e.on≠i)->t.apart ops r=true)->
   i∈Region.ready .any ops d->YieldsIf P ops T t v a->(∀p∈N,p.ok w)->(∀p∈L,p.ok w)->
   mf P ops Q f (N++L) (d.setIfInBounds i true) (a.put t.dst v) w->mf P ops Q (f+1) L d a w:=by
 intro f;have y:∀(f:Nat) (L:List gw) (d:Array Bool) (a:Act) (w:World),YieldsIf P ops T t v a->(∀p∈N,p.ok w)->(∀p∈L,p.ok w)->
   mf P ops Q f (N++L) (d.setIfInBounds i true) (a.put t.dst v) w->
   wpOp P ops Q i (λa' w'=>(∀p∈keep ops i L,p.ok w')/\mf P ops Q f (keep ops i L) (d.setIfInBounds i true) a' w') a w:=λf L d a w G n I H=>
  G.wpOp Y (hT w n) ⟨λp g=>I p (pO p g),Bz f _ _ _ (λp g=>wb _ (pO p g)) H⟩
 induction f with
 |zero=>
  intro L d a w _ E G n I H;refine⟨λh=>(by rw[h]at E;cases E),λj S=>?_⟩;by_cases l:j=i
  ·subst l;exact y 0 L d a w G n I H
  ·have:=ready_mono S l;rw[H.1]at this;cases this
 |succ f ih=>
  intro L d a w q E G n I H;refine⟨λh=>(by rw[h]at E;cases E),λj S=>?_⟩;by_cases l:j=i
  ·subst l;exact y (f+1) L d a w G n I H
  ·have D:=H.2 j (ready_mono S l);obtain⟨z,r,u,J⟩:=mem_ready.1 S;have A:∀e∈r.after,Region.binds .any e=true->e.on≠i:=λe he M W=>by
    have D:=J e he M;have Z:=(mem_ready.1 E).1;rw[W]at D;rcases Nat.lt_or_ge i d.size with h'|h'
    ·simp[h']at Z D;rw[Z]at D;cases D
    ·simp[Array.getElem?_eq_none h']at D
   have O:(r.after.any λe=>Region.binds .any e&&wM e.on i)=false:=by
    cases hc:r.after.any λe=>Region.binds .any e&&wM e.on i with
    |false=>rfl
    |true=>
     obtain⟨k,X,M⟩:=Array.any_eq_true.1 hc;simp only[qy]at M;exact absurd (zM M.2) (A _ (Array.getElem_mem X) M.1)
   have F:waits ops j i=false:=by unfold waits;rw[u];exact O
   have B:∀p,p∈N->p∈keep ops j (N++L):=λp g=>By (List.mem_append_left _ g) (by rw[hN p g];exact F);have m:∀p,p∈keep ops j L->p∈keep ops j (N++L):=Dk λp g=>wb _ g;have h2:=wpOp_putIf u (q j r u l z A) (λcs b=>x i t cs b Y) (λcs b=>x j r cs b u) hQ G D;have s:∀k ok,ops[k]?=some ok->k≠i->(d.setIfInBounds j true).getD k true=false->
     (∀e∈ok.after,Region.binds .any e=true->e.on≠i)->t.apart ops ok=true:=λk ok X U K V=>by
    refine q k ok X U ?_ V;by_cases R:j=k
    ·subst R;exact z
    ·rw[getD_set_ne true R]at K;exact K
   refine wpOp_mono (λa' w' h3=>⟨λp g=>h3.2.1 p (m p g),ih (keep ops j L) (d.setIfInBounds j true) a' w' s (ready_mono E (Ne.symm l)) h3.1 (λp g=>h3.2.1 p (B p g)) (λp g=>h3.2.1 p (m p g)) ?_⟩) h2;rw[Array.setIfInBounds_comm _ _ l];refine Bz _ _ _ _ (λp g=>?_) h3.2.2;rcases List.mem_append.1 g with g|g
   ·exact B p g
   ·exact m p g
theorem Au{P:Program}{ops:Array Oper}{Q:Exit->Act->World->Prop}{i:Nat}{e:Oper}{v:Value}{T:World->Prop}{N:List gw}{d:Nat}{L:List gw}{b:Array Bool}{a:Act}{w:World}(g:ops[i]?=some e)
  (r:Region.noSelect ops=true) (j:Region.free .any ops b i=true) (q:(Region.ready .any ops b).contains i=true)
  (k:∀c a w,Q (.panic c) (a.put e.dst v) w->Q (.panic c) a w) (o:∀p∈N,p.op=i) (l:∀w,(∀p∈N,p.ok w)->T w) (m:YieldsIf P ops T e v a) (f:∀p∈N,p.ok w) (n:∀p∈L,p.ok w)
  (h:mf P ops Q d (N++L) (b.setIfInBounds i true) (a.put e.dst v) w):mf P ops Q (d+1) L b a w:=
 MQ g (Region.noSelect_spec r) k o l d L b a w (Region.free_spec g j) (by simpa using q) m f n h
theorem JD:∀{L:List gw} {w0:World},(∀p∈L,p.ok w0)->∀{m:Heap},(flat L).ok m->∀p∈L,p.r.holds m p.y
 |[],_,_,_,_,p,a=>by cases a
 |q::r,w0,h0,m,h,p,a=>by
  have h:=(uW.adk (h0 q qM)).1 h;rcases qX.1 a with rfl|a
  ·exact h.1
  ·exact JD (λp a=>h0 p (qD _ a)) h.2 p a
def abQ(T:kr)(t:TypeId):Bool:=match T.get t with
 |some i=>match i.ty with
  | .sc .slc=>true
  |_=>false
 |none=>false
def abR(T:kr):Op->Bool
 | .convert s d _=>!(abQ T s||abQ T d)
 | .move _| .assign _| .pick .. | .nilCheck _| .fieldAddr .. | .indexAddr .. | .index .. | .field .. | .extract .. | .binOp .. | .unOp .. | .build .. | .makeFunc .. | .load .. =>true
 | .slice _ _ _ _ none=>true
 | .call c=>match c.callee with
  | .builtin .len| .builtin .cap| .builtin .min| .builtin .max| .builtin .real| .builtin .imag=>true
  |_=>false
 |_=>false
def og(T:kr)(ops:Array Oper)(a:Array Bool):List Nat->Option Nat
 |[]=>none
 |i::r=>match ops[i]? with
  |some o=>bif abR T o.op&&Region.free .any ops a i then some i else og T ops a r
  |none=>og T ops a r
def Tq(C:Ctx)(n:Nat)(ops:Array Oper)(i:Nat)(o:Oper)(L:List gw)(K:List gw->Env->Heap->Prop)(ρ:Env)(h:Heap):Prop:=
 HE ops o ρ (λρ=>match AR C.P C.T o.op ρ.eval with
  | .no=>match tQ C.T o.op ρ.eval with
   |some r=>∃y:r.ty.den,r.holds h y/\put n o.dst (K (⟨i,r,y⟩::L)) ρ (r.ty.enc y) h
   |none=>False
  |p=>p.holds λv=>put n o.dst (K L) ρ v h) (λρ=>put n o.dst (K L) ρ undef h)
def MR(C:Ctx)(n:Nat)(ops:Array Oper)(K:Nat->Env->Heap->Prop)(ρ:Env)(h:Heap):List Nat->Prop
 |[]=>True
 |[i]=>match ops[i]? with
  |some o=>Fi C n ops o (K i) ρ h
  |none=>False
 |i::j::r=>(match ops[i]? with
  |some o=>Fi C n ops o (K i) ρ h
  |none=>False)/\MR C n ops K ρ h (j::r)
def tU(C:Ctx)(n:Nat)(ops:Array Oper)(K:Env->Heap->Prop):Nat->Array Bool->List gw->Env->Heap->Prop
 |0,listed,_,ρ,h=>bif (Region.ready .any ops listed).isEmpty then K ρ h else False
 |k+1,listed,L,ρ,h=>match og C.T ops listed (Region.ready .any ops listed)with
  |some i=>match ops[i]? with
   |some o=>Tq C n ops i o L (tU C n ops K k (listed.setIfInBounds i true)) ρ h
   |none=>False
  |none=>match Region.ready .any ops listed with
   |[]=>K ρ h
   |i::r=>MR C n ops (λi ρ h=>(flat (keep ops i L)).ok h/\tU C n ops K k (listed.setIfInBounds i true) (keep ops i L) ρ h) ρ h (i::r)
theorem sq{T:kr}{ops:Array Oper}{a:Array Bool}:∀{rs:List Nat} {i:Nat},og T ops a rs=some i->i∈rs/\Region.free .any ops a i=true
 |[],_,h=>by cases h
 |j::r,i,h=>by
  simp only[og]at h;split at h
  ·rename_i o b;cases hb:(abR T o.op&&Region.free .any ops a j)with
   |true=>
    rw[hb]at h;cases h;simp only[qy]at hb;exact⟨qM,hb.2⟩
   |false=>
    rw[hb]at h;have:=sq h;exact⟨qD _ this.1,this.2⟩
  ·have:=sq h;exact⟨qD _ this.1,this.2⟩
theorem KJ{C:Ctx}{n:Nat}{ops:Array Oper}{K:Nat->Env->Heap->Prop}{ρ:Env}{h:Heap}:∀{l:List Nat},MR C n ops K ρ h l->∀i∈l,∃o,ops[i]?=some o/\Fi C n ops o (K i) ρ h
 |[],_,i,hi=>by cases hi
 |[j],ha,i,hi=>by
  simp only[qu]at hi;subst hi;simp only[MR]at ha;split at ha
  ·rename_i o a;exact⟨o,a,ha⟩
  ·exact ha.elim
 |j::k::r,ha,i,hi=>by
  obtain⟨b,c⟩:=ha;rcases qX.1 hi with rfl|hi
  ·split at b
   ·rename_i o a;exact⟨o,a,b⟩
   ·exact b.elim
  ·exact KJ c i hi
variable {n:Nat} {ops:Array Oper} {Q:Exit->Act->World->Prop} {ρ0:Env} {a0:Act} {w0:World}
section
variable {C:Ctx} {K:Env->Heap->Prop}
theorem KK(H:C.Ok)(M:Region.noSelect ops=true)
  (O:∀a w ρ,Fits n a ρ->Ext ρ0 ρ a0 a->dg w0 w->K ρ w.heap->Q .normal a w) (z:∀c a w,¬Q (.panic c) a w):
  ∀(k:Nat) (b:Array Bool) (L:List gw) (ρ:Env) (a:Act) (w:World),Fits n a ρ->Ext ρ0 ρ a0 a->dg w0 w->(∀p∈L,p.ok w)->
   tU C n ops K k b L ρ w.heap->mf C.P ops Q k L b a w
 |0,b,L,ρ,a,w,hf,hx,hl,hL,h=>by
  simp only[tU]at h;cases hb:(Region.ready .any ops b).isEmpty with
  |false=>rw[hb]at h;exact h.elim
  |true=>rw[hb]at h;exact⟨by simpa using hb,O _ _ _ hf hx hl h⟩
 |k+1,b,L,ρ,a,w,hf,hx,hl,hL,h=>by
  have I:=KK H M O z k;simp only[tU]at h;split at h
  ·rename_i i G;obtain⟨A,f⟩:=sq G;have e:(Region.ready .any ops b).contains i=true:=by simpa using A
   split at h
   ·rename_i o D;unfold Tq at h;obtain⟨ρ',J,S,h3⟩:=FT hf h;have s:∀c a w (v:Value),Q (.panic c) (Act.put a o.dst v) w->Q (.panic c) a w:=λc a w v hq=>absurd hq (z c _ w);have Y:∀x v,Env.eval ρ' x=some v->a.eval x=v:=λx v h=>J.eval h;rcases h3 with⟨t,g⟩|⟨t,g⟩
    ·have q:(AR C.P C.T o.op (Env.eval ρ')).holds (λv=>put n o.dst (tU C n ops K k (b.setIfInBounds i true) L) ρ' v w.heap)->
       mf C.P ops Q (k+1) L b a w:=λd=>by
      obtain⟨v,hv,U⟩:=Hz H.toOk Y d;obtain⟨l,E,F,B⟩:=tR U J;exact Au (N:=[]) (T:=λ_=>True) D M f e (λc a w=>s c a w v) (λp d=>by cases d) (λ_ _=>trivial) (.inl ⟨t,λw _=>hv w⟩) (λp d=>by cases d) hL
       (I _ L l _ w E (hx.trans (S.trans F)) hl hL B)
     split at g
     ·split at g
      ·rename_i r u;obtain⟨y,Z,U⟩:=g;obtain⟨l,E,F,B⟩:=tR U J;have R:∀p∈[(⟨i,r,y⟩:gw)],p.ok w:=λp d=>by rw[qu]at d;subst d;exact Z
       refine Au (N:=[⟨i,r,y⟩]) (T:=λw=>r.holds w.heap y) D M f e (λc a w=>s c a w _) (λp d=>by rw[qu]at d;subst d;rfl)
        (λw h=>h ⟨i,r,y⟩ (qu.2 rfl)) (.inl ⟨t,λw t=>Bx H.toOk Y u t⟩) R hL ?_
       refine I _ (⟨i,r,y⟩::L) l _ w E (hx.trans (S.trans F)) hl (λp d=>?_) B;rcases qX.1 d with rfl|d
       ·exact Z
       ·exact hL p d
      ·exact g.elim
     ·exact q g
    ·obtain⟨l,E,F,B⟩:=tR g J;exact Au (N:=[]) (T:=λ_=>True) D M f e (λc a w=>s c a w undef) (λp d=>by cases d) (λ_ _=>trivial) (.inr ⟨t,rfl⟩) (λp d=>by cases d) hL
      (I _ L l _ w E (hx.trans (S.trans F)) hl hL B)
   ·exact h.elim
  ·split at h
   ·rename_i g;exact⟨λ_=>O _ _ _ hf hx hl h,λi G=>by rw[g]at G;cases G⟩
   ·rename_i i r g;refine⟨λh0=>absurd (g▸h0) (by simp),λj X=>?_⟩;rw[g]at X;obtain⟨o,D,V⟩:=KJ h j X;have m:∀p∈keep ops j L,p.ok w:=λp d=>hL p (pO p d);exact HG H D hf V λa' w' ρ' x1 x2 x3 W=>⟨JD m W.1,I _ (keep ops j L) ρ' a' w' x1 (hx.trans x2) (hl.trans x3) (JD m W.1) W.2⟩
end
def sched(T:kr)(ops:Array Oper):Nat->Array Bool->Option (List (Nat×Bool))
 |0,listed=>bif (Region.ready .any ops listed).isEmpty then some []else none
 |k+1,listed=>match og T ops listed (Region.ready .any ops listed)with
  |some i=>(sched T ops k (listed.setIfInBounds i true)).map ((i,true)::·)
  |none=>match Region.ready .any ops listed with
   |[]=>some []
   |[i]=>(sched T ops k (listed.setIfInBounds i true)).map ((i,false)::·)
   |_::_::_=>none
def rO(C:Ctx)(n:Nat)(ops:Array Oper)(K:Env->Heap->Prop):List (Nat×Bool)->List gw->Env->Heap->Prop
 |[],_,ρ,h=>K ρ h
 |(i,true)::r,L,ρ,h=>match ops[i]? with
  |some o=>Tq C n ops i o L (rO C n ops K r) ρ h
  |none=>False
 |(i,false)::r,L,ρ,h=>match ops[i]? with
  |some o=>Fi C n ops o (λρ h=>(flat (keep ops i L)).ok h/\rO C n ops K r (keep ops i L) ρ h) ρ h
  |none=>False
theorem KL{C:Ctx}{n:Nat}{ops:Array Oper}{K:Env->Heap->Prop}:∀(k:Nat) (a:Array Bool) (l:List (Nat×Bool)),sched C.T ops k a=some l->
  tU C n ops K k a=rO C n ops K l
 |0,a,l,hs=>by
  simp only[sched]at hs;cases hb:(Region.ready .any ops a).isEmpty with
  |false=>rw[hb]at hs;cases hs
  |true=>
   rw[hb]at hs;cases hs;funext L ρ h;simp only[tU,hb,rO,cond_true]
 |k+1,a,l,hs=>by
  have d:=λi=>KL (C:=C) (n:=n) (ops:=ops) (K:=K) k (a.setIfInBounds i true);funext L ρ h;unfold sched at hs;unfold tU;cases hi:og C.T ops a (Region.ready .any ops a)with
  |some i=>
   rw[hi]at hs;obtain⟨c,b,rfl⟩:=vf.1 hs;simp only[rO,d i c b]
  |none=>
   rw[hi]at hs;generalize e:Region.ready .any ops a=rd at hs
   match rd,hs with
   |[],hs=>cases hs;simp only[rO]
   |[i],hs=>
    obtain⟨c,b,rfl⟩:=vf.1 hs;simp only[MR,rO,d i c b]
def JE(C:Ctx)(n:Nat)(ops:Array Oper)(a:Bool)(K:Env->Heap->Prop)(ρ:Env)(h:Heap):Prop:=
 match a with
 |false=>ZD C n ops K ops.toList ρ h
 |true=>bif Region.noSelect ops then(match sched C.T ops ops.size (vK ops.size false)with
  |some l=>rO C n ops K l [] ρ h
  |none=>tU C n ops K ops.size (vK ops.size false) [] ρ h)else False
theorem MS{C:Ctx}(d:C.Ok){n:Nat}{id:Nat}{ops:Array Oper}{b:Bool}{Q:Exit->Env->Heap->Prop}{ρ:Env}{a:Act}{w:World}(i:Fits n a ρ)
  (h:JE C n ops b (Q .normal) ρ w.heap):(Code.region id ops b).wp C.P (λe a' w'=>(∀c,e≠.panic c)/\Out n Q ρ a w e a' w') a w:=by
 cases b with
 |false=>
  refine wp_region ?_;have:=KI d (Q:=λe a' w'=>(∀c,e≠.panic c)/\Out n Q ρ a w e a' w') (K:=Q .normal) (ρ0:=ρ) (a0:=a) (w0:=w) (λa' w' ρ' f x2 x3 g=>⟨λc e=>(by cases e),ρ',f,x2,x3,g⟩)
   ops.toList 0 (λj=>by simp) ρ a w i (Ext.refl _ _) (dg.refl _) h
  rw[List.range_eq_range'];simpa using this
 |true=>
  simp only[JE]at h;cases hb:Region.noSelect ops with
  |false=>rw[hb]at h;exact h.elim
  |true=>
   rw[hb]at h;have h:tU C n ops (Q .normal) ops.size (vK ops.size false) [] ρ w.heap:=by
    simp only[cond_true]at h;split at h
    ·rename_i l k;rw[KL _ _ _ k];exact h
    ·exact h
   refine wp_region_any d.mixed (HI _ [] _ _ _ ?_);exact KK d hb (Q:=λe a' w'=>(∀c,e≠.panic c)/\Out n Q ρ a w e a' w') (ρ0:=ρ) (a0:=a) (w0:=w) (λa' w' ρ' f x2 x3 g=>⟨λc e=>(by cases e),ρ',f,x2,x3,g⟩)
    (λc a w o=>o.1 c rfl) _ _ [] ρ a {w with drawn:=w.drawn+1} i (Ext.refl _ _) ⟨rfl,rfl,rfl,Nat.le_succ _⟩ (λp m=>by cases m) h
def uX{σ:Type}(rest:σ->Heap->Prop)(B:(σ->Heap->Prop)->Prop):Prop:=∃R:σ->Heap->Prop,(∀s h,R s h->rest s h)/\B R
def gK{σ:Type}(B:σ->(σ->Heap->Prop)->Heap->Prop)(s:σ)(h:Heap):Prop:=
 ∃(τ:Type) (V:τ->σ) (I:τ->Heap->Prop) (μ:τ->Nat) (t0:τ),s=V t0/\I t0 h/\∀t h,I t h->B (V t) (λb h'=>∃a,b=V a/\I a h'/\μ a<μ t) h
theorem Wa{P:Program}{c:Code}{Q:Exit->Act->World->Prop}{a:Act}{w:World}{σ:Type}(R:σ->Act->World->Prop)(μ:σ->World->Nat)(t:σ)(y:R t a w)
  (i:∀s a w,R s a w->c.wp P (Exit.then (λa' w'=>∃m,R m a' w'/\μ m w'<μ s w) Q) a w):(Code.loop c).wp P Q a w:=by
 intro b k cs;have p:∀n s a w,μ s w=n->R s a w->
   ∃e a' w',Q e a' w'/\Arrives P (lone (b.at a (.code c::.inLoop c::k)) cs w) b k cs e a' w':=by
  intro n
  induction n using Nat.strongRecOn with
  |_ n ih=>
   intro s a w B u;obtain⟨e,j,g,f,d⟩:=i s a w u b (.inLoop c::k) cs;cases e with
   |normal=>
    obtain⟨m,r,o⟩:=f;obtain⟨A,z,v,q,h⟩:=ih (μ m g) (B▸o) m j g rfl r;exact⟨A,z,v,q,.of_steps (Steps.trans d (.one step_inLoop)) h⟩
   |exit id=>exact⟨_,j,g,f,.pass (x:=.inLoop c) rfl (λ_ _=>.inl (by simp)) d⟩
   |goto l=>exact⟨_,j,g,f,.pass (x:=.inLoop c) rfl (λ_ _=>.inl (by simp)) d⟩
   |ret=>exact⟨_,j,g,f,.pass (x:=.inLoop c) rfl (λ_ _=>.inl (by simp)) d⟩
   |panic ch=>exact⟨_,j,g,f,.pass (x:=.inLoop c) rfl (λ_ _=>.inl (by simp)) d⟩
   |outgrown=>exact⟨_,j,g,f,.pass (x:=.inLoop c) rfl (λ_ _=>.inl (by simp)) d⟩
 obtain⟨e,a',w',f,d⟩:=p _ t a w rfl y;exact⟨e,a',w',f,.of_steps (.one step_loop) d⟩
inductive cN where
 |n
 |two (a b:cN)
 |inn (a:cN)
 |loop (σ:dG) (κ:dt) (a:cN)
 |join (σ:dG) (κ:dt) (a:cN)
 |scope (l:Nat) (σ:dG) (κ:dt) (pre rest:List cN) (fwd:List (Nat×List cN))
 |fwd (a:cN) (fwd:List (Nat×List cN))
def cN.fst:cN->cN
 | .two a _=>a
 |_=>.n
def cN.snd:cN->cN
 | .two _ b=>b
 |_=>.n
def cN.sub:cN->cN
 | .inn a=>a
 |_=>.n
abbrev QT:=Exit->Env->Heap->Prop
def HJ(σ:dG)(κ:dt)(ρ:Env)(K:σ.den->Heap->Prop)(Q:QT):QT
 | .normal,ρ',h=>bif within σ κ ρ' (ρ'.length-ρ.length)then(match σ.read ρ' with|some s=>K s h|none=>False)else False
 |e,ρ',h=>Q e ρ' h
def Fj(next:Env->Heap->Prop)(Q:QT):QT
 | .normal,ρ,h=>next ρ h
 |e,ρ,h=>Q e ρ h
def Wb(id:Nat)(Q:QT):QT
 | .exit i,ρ,h=>bif wM i id then Q .normal ρ h else Q (.exit i) ρ h
 |e,ρ,h=>Q e ρ h
abbrev Rec:=Code->cN->QT->Env->Heap->Prop
def uY(rec:Rec):List Code->List cN->QT->Env->Heap->Prop
 |[],_,Q,ρ,h=>Q .normal ρ h
 |c::cs,[],Q,ρ,h=>rec c .n (Fj (uY rec cs [] Q) Q) ρ h
 |c::cs,x::xs,Q,ρ,h=>rec c x (Fj (uY rec cs xs Q) Q) ρ h
def chain:Code->Nat->Option (List Code×List Code)
 | .seq a b,l=>match chain a l with
  |some (p,r)=>some (p,r++[b])
  |none=>match chain b l with
   |some (p,r)=>some (a::p,r)
   |none=>none
 | .label l',l=>bif wM l' l then some ([],[])else none
 |_,_=>none
def abS(a:List (Nat×List cN))(l:Nat):Option (List cN):=
 match a with
 |[]=>none
 |p::r=>bif wM p.1 l then some p.2 else abS r l
def Fk(rec:Rec)(c:Code)(a:List (Nat×List cN))(Q:QT):Nat->QT
 |0=>λ_ _ _=>False
 |g+1=>λe ρ h=>match e with
  | .goto l=>match abS a l with
   |some xs=>match chain c l with
    |some (_,r)=>uY rec r xs (Fk rec c a Q g) ρ h
    |none=>False
   |none=>Q (.goto l) ρ h
  |e=>Q e ρ h
def Tr(l:Nat)(σ:dG)(κ:dt)(ρ:Env)(K:σ.den->Heap->Prop)(Q:QT):QT
 | .goto l',ρ',h=>bif wM l' l then(bif within σ κ ρ' (ρ'.length-ρ.length)then(match σ.read ρ' with|some s=>K s h|none=>False)else False)else Q (.goto l') ρ' h
 |e,ρ',h=>Q e ρ' h
def MT(c:Code)(Q:QT):QT
 | .goto l,ρ,h=>match findLabel c l with
  |none=>Q (.goto l) ρ h
  |some _=>False
 |e,ρ,h=>Q e ρ h
def MU(C:Ctx)(n:Nat)(rec:Rec)(c:Code)(d:cN)(Q:QT)(ρ:Env)(h:Heap):Prop:=
 match d with
 | .join σ κ a=>uX (λs h=>Q .normal (σ.vals s (κ.over ρ)) h) (λK=>rec c a (HJ σ κ ρ K Q) ρ h)
 |d=>match c with
  | .skip=>Q .normal ρ h
  | .label _=>Q .normal ρ h
  | .region _ ops draw=>JE C n ops draw (Q .normal) ρ h
  | .seq a b=>rec a d.fst (Fj (rec b d.snd Q) Q) ρ h
  | .cond x a b=>match ρ.eval x with
   |some (.bool t)=>Br t (rec a d.fst Q ρ h) (rec b d.snd Q ρ h)
   |_=>False
  | .block id c=>rec c d.sub (Wb id Q) ρ h
  | .exit id=>Q (.exit id) ρ h
  | .goto l=>Q (.goto l) ρ h
  | .ret=>Q .ret ρ h
  | .loop c=>match d with
   | .loop σ κ a=>match σ.read ρ with
    |some s0=>gK (λs K h=>rec c a (HJ σ κ (σ.vals s (κ.over ρ)) K Q) (σ.vals s (κ.over ρ)) h) s0 h
    |none=>False
   |_=>False
  | .scope c=>match d with
   | .scope l σ κ pre rest fwd=>match chain c l with
    |some (p,r)=>uY rec p pre (Fj (λρ' h'=>match σ.read ρ' with
     |some s0=>gK (λs K h=>uY rec r rest (Fk rec c fwd (Tr l σ κ (σ.vals s (κ.over ρ')) K (MT c Q)) 4) (σ.vals s (κ.over ρ')) h) s0 h'
     |none=>False) (MT c Q)) ρ h
    |none=>False
   | .fwd a fwd=>rec c a (Fk rec c fwd (MT c Q) 4) ρ h
   |_=>False
  |_=>False
def vc(C:Ctx)(n:Nat):Nat->Rec
 |0=>λ_ _ _ _ _=>False
 |f+1=>MU C n (vc C n f)
def Fl(C:Ctx)(n:Nat)(rec:Rec):Prop:=∀(c:Code) (b:cN) (Q:QT) (ρ:Env) (a:Act) (w:World),Fits n a ρ->rec c b Q ρ w.heap->c.wp C.P (Out n Q ρ a w) a w
variable {ρ ρ':Env} {a a':Act} {w w':World}
section
variable {C:Ctx} {Q:QT}
theorem Out.base{e:Exit}{c:Act}{b:World}(f:Ext ρ ρ' a a')(k:dg w w')(h:Out n Q ρ' a' w' e c b):Out n Q ρ a w e c b:=by obtain⟨d,i,j,h3,g⟩:=h;exact⟨d,i,f.trans j,k.trans h3,g⟩
theorem Out.then{next:Env->Heap->Prop}{N:Act->World->Prop}{f:Exit->Act->World->Prop}{e:Exit}{c:Act}{b:World}(h:Out n (Fj next Q) ρ a w e c b)
  (l:∀ρ',Fits n c ρ'->Ext ρ ρ' a c->dg w b->next ρ' b.heap->N c b) (k:Out n Q ρ a w e c b->e≠.normal->f e c b):Exit.then N f e c b:=by
 obtain⟨d,i,j,h3,g⟩:=h;cases e<;>first|exact l d i j h3 g|exact k ⟨d,i,j,h3,g⟩ (by simp)
def nP(P:Program):List Code->(Exit->Act->World->Prop)->Act->World->Prop
 |[],Q,a,w=>Q .normal a w
 |c::cs,Q,a,w=>c.wp P (Exit.then (nP P cs Q) Q) a w
theorem kL{P:Program}{Q d:Exit->Act->World->Prop}(b:∀e a w,Q e a w->d e a w):∀(l:List Code) (a:Act) (w:World),nP P l Q a w->nP P l d a w
 |[],_,_,h=>b _ _ _ h
 |c::cs,a,w,h=>wp_mono h λe a w h=>by
  cases e<;>first|exact kL b cs a w h|exact b _ _ _ h
theorem oS{rec:Rec}(d:Fl C n rec):∀(l:List Code) (xs:List cN) (Q:QT) (ρ:Env) (a:Act) (w:World),Fits n a ρ->uY rec l xs Q ρ w.heap->nP C.P l (Out n Q ρ a w) a w
 |[],_,Q,ρ,a,w,hf,h=>⟨ρ,hf,Ext.refl _ _,dg.refl _,h⟩
 |c::cs,[],Q,ρ,a,w,hf,h=>by
  refine wp_mono (d c .n _ ρ a w hf h) λe a' w' b=>b.then (λρ' f x2 x3 g=>?_) λb _=>b;exact kL (λe a w h=>h.base x2 x3) cs a' w' (oS d cs [] Q ρ' a' w' f g)
 |c::cs,x::xs,Q,ρ,a,w,hf,h=>by
  refine wp_mono (d c x _ ρ a w hf h) λe a' w' b=>b.then (λρ' f x2 x3 g=>?_) λb _=>b;exact kL (λe a w h=>h.base x2 x3) cs a' w' (oS d cs xs Q ρ' a' w' f g)
end
theorem Av{P:Program}{b:Code}{Q:Exit->Act->World->Prop}:∀(l:List Code) (a:Act) (w:World),nP P (l++[b]) Q a w->nP P l (Exit.then (b.wp P Q) Q) a w
 |[],a,w,h=>by
  refine wp_mono h λe a w h=>?_;cases e<;>exact h
 |c::cs,a,w,h=>wp_mono h λe a w h=>by
  cases e<;>first|exact Av cs a w h|exact h
theorem ry:∀{c:Code} {l:Nat} {p r:List Code},chain c l=some (p,r)->∃k,findLabel c l=some k/\
  (∀{P:Program} {Q:Exit->Act->World->Prop} {a:Act} {w:World},nP P r Q a w->k.wp P Q a w)/\
  (∀{P:Program} {Q:Exit->Act->World->Prop} {a:Act} {w:World},nP P p (Exit.then (nP P r Q) Q) a w->c.wp P Q a w)
 | .seq x y,l,p,r,h=>by
  simp only[chain]at h;split at h
  ·rename_i q m d;cases h;obtain⟨k,i,j,h3⟩:=ry d;refine⟨.seq k y,by simp[findLabel,i],λ{P Q a w} h=>wp_seq (j (Av m a w h)),λ{P Q a w} h=>wp_seq (h3 ?_)⟩;refine kL (λe a w g=>?_) p a w h;cases e<;>first|exact Av m a w g|exact g
  ·rename_i d;split at h
   ·rename_i q m n;cases h;obtain⟨k,i,j,h3⟩:=ry n;have s:findLabel x l=none:=by
     clear i j h3 n
     induction x with
     |seq a b iha ihb=>
      simp only[chain]at d;split at d
      ·cases d
      ·rename_i o;split at d
       ·cases d
       ·rename_i f;simp[findLabel,iha o,ihb f]
     |label l'=>
      simp only[chain]at d;cases f:wM l' l with
      |true=>rw[f]at d;cases d
      |false=>
       have:¬l'=l:=λe=>by subst e;simp at f
       simp[findLabel,this]
     |_=>rfl
    refine⟨k,by simp[findLabel,s,i],j,λ{P Q a w} h=>wp_seq (wp_mono h λe a w g=>?_)⟩;cases e<;>first|exact h3 g|exact g
   ·cases h
 | .label l',l,p,r,h=>by
  simp only[chain]at h;cases f:wM l' l with
  |false=>rw[f]at h;cases h
  |true=>
   rw[f]at h;cases h;have:=zM f;subst this;exact⟨.skip,by simp[findLabel],λh=>wp_skip h,λh=>wp_label h⟩
 | .skip,_,_,_,h=>by cases h
 | .region ..,_,_,_,h=>by cases h
 | .cond ..,_,_,_,h=>by cases h
 | .block ..,_,_,_,h=>by cases h
 | .loop _,_,_,_,h=>by cases h
 | .rangeFunc ..,_,_,_,h=>by cases h
 | .exit _,_,_,_,h=>by cases h
 | .scope _,_,_,_,h=>by cases h
 | .goto _,_,_,_,h=>by cases h
 | .ret,_,_,_,h=>by cases h
 | .refuse _,_,_,_,h=>by cases h
variable {c:Code} {b:Frame} {k:List Item} {cs:List Frame}
def Reach(P:Program)(c:Code)(Q:Exit->Act->World->Prop)(b:Frame)(k:List Item)(d:List Frame)(a:Act)(w:World)(r:Code):Prop:=
 ∃e a' w',Q e a' w'/\Arrives P (lone (b.at a (.code r::.inScope c::k)) d w) b k d e a' w'
def Good(P:Program)(c:Code)(Q:Exit->Act->World->Prop)(b:Frame)(k:List Item)(d:List Frame):Exit->Act->World->Prop
 | .goto l,a,w=>match findLabel c l with
  |some r=>Reach P c Q b k d a w r
  |none=>Q (.goto l) a w
 |e,a,w=>Q e a w
theorem MV{m:Machine}{e:Exit}{a:Act}{w:World}(f:Good P c Q b k cs e a w)(d:Arrives P m b (.inScope c::k) cs e a w):
  ∃e a' w',Q e a' w'/\Arrives P m b k cs e a' w':=by
 cases e with
 |normal=>exact⟨.normal,a,w,f,Steps.trans d (.one step_inScope)⟩
 |exit id=>exact⟨.exit id,a,w,f,λj i=>d j (by simp[exitTo,i])⟩
 |goto l=>
  simp only[Good]at f;cases hf:findLabel c l with
  |none=>
   rw[hf]at f;exact⟨.goto l,a,w,f,λj i=>d j (by simp[gotoIn,hf,i])⟩
  |some r=>
   rw[hf]at f;obtain⟨p,o,n,h,g⟩:=f;exact⟨p,o,n,h,.of_steps (d _ (by simp[gotoIn,hf])) g⟩
 |ret=>exact⟨_,a,w,f,d⟩
 |panic ch=>exact⟨_,a,w,f,d⟩
 |outgrown=>exact⟨_,a,w,f,d⟩
theorem MW{r:Code}{a:Act}{w:World}(h:r.wp P (Good P c Q b k cs) a w):Reach P c Q b k cs a w r:=by obtain⟨e,a',w',f,d⟩:=h b (.inScope c::k) cs;exact MV f d
theorem CL{a:Act}{w:World}(h:∀b k cs,c.wp P (Good P c Q b k cs) a w):(Code.scope c).wp P Q a w:=by intro b k cs;obtain⟨e,m,l,f,d⟩:=h b k cs b (.inScope c::k) cs;obtain⟨i,a',w',g,j⟩:=MV f d;exact⟨i,a',w',g,.of_steps (.one step_scope) j⟩
variable {rec:Rec}
section
variable {C:Ctx}
theorem BA(t:Fl C n rec){c:Code}{o:List (Nat×List cN)}{u:QT}{s:Exit->Act->World->Prop}{b:Frame}{k:List Item}{q:List Frame}{ρ:Env}{a0:Act}{w0:World}
  (j:∀e f d i,Fits n d f->Ext ρ f a0 d->dg w0 i->u e f i.heap->Good C.P c s b k q e d i):
  ∀(g:Nat) (e:Exit) (f:Env) (d:Act) (i:World),Fits n d f->Ext ρ f a0 d->dg w0 i->Fk rec c o u g e f i.heap->Good C.P c s b k q e d i
 |0,_,_,_,_,_,_,_,h=>h.elim
 |g+1,e,f,d,i,hf,hx,hl,h=>by
  cases e with
  |goto l=>
   simp only[Fk]at h;split at h
   ·split at h
    ·rename_i p r m;obtain⟨F,A,B,_⟩:=ry m;simp only[Good,A];refine MW (B ?_);refine kL (λe a w z=>?_) _ _ _ (oS t _ _ _ f d i hf h);obtain⟨y,D,E,x,v⟩:=z;exact BA t j g e y a w D (hx.trans E) (hl.trans x) v
    ·exact h.elim
   ·exact j _ _ _ _ hf hx hl h
  |normal=>exact j _ _ _ _ hf hx hl h
  |exit id=>exact j _ _ _ _ hf hx hl h
  |ret=>exact j _ _ _ _ hf hx hl h
  |panic ch=>exact j _ _ _ _ hf hx hl h
  |outgrown=>exact j _ _ _ _ hf hx hl h
theorem oC{c:Code}{Q:QT}{b:Frame}{k:List Item}{m:List Frame}{ρ:Env}{a0:Act}{w0:World}{e:Exit}{a:Env}{j:Act}{i:World}
  (d:Fits n j a) (f:Ext ρ a a0 j) (g:dg w0 i) (h:MT c Q e a i.heap):Good C.P c (Out n Q ρ a0 w0) b k m e j i:=by
 cases e with
 |goto l=>
  simp only[MT]at h;simp only[Good];split at h
  ·rename_i o;simp only[o];exact⟨a,d,f,g,h⟩
  ·exact h.elim
 |normal=>exact⟨a,d,f,g,h⟩
 |exit id=>exact⟨a,d,f,g,h⟩
 |ret=>exact⟨a,d,f,g,h⟩
 |panic ch=>exact⟨a,d,f,g,h⟩
 |outgrown=>exact⟨a,d,f,g,h⟩
theorem KM{a:Act}{σ:dG}{κ:dt}{ρ:Env}{s:σ.den}(b:Fits n a ρ)(c:σ.read ρ=some s):Fits n a (σ.vals s (κ.over ρ))/\Ext ρ (σ.vals s (κ.over ρ)) a a:=
 b.pN b (λ_ _ _=>rfl) c
theorem Qe(J:Fl C n rec){c:Code}{l:Nat}{σ:dG}{κ:dt}{pre rest:List cN}{E:List (Nat×List cN)}{p r:List Code}(Y:chain c l=some (p,r)){Q:QT}{ρ:Env}{a:Act}{w:World}(X:Fits n a ρ)
  (h:uY rec p pre (Fj (λρ' h'=>match σ.read ρ' with
     |some O=>gK (λs K h=>uY rec r rest (Fk rec c E (Tr l σ κ (σ.vals s (κ.over ρ')) K (MT c Q)) 4) (σ.vals s (κ.over ρ')) h) O h'
     |none=>False) (MT c Q)) ρ w.heap):(Code.scope c).wp C.P (Out n Q ρ a w) a w:=by
 refine CL λb k cs=>?_;obtain⟨kk,h1,h2,h3⟩:=ry Y;refine h3 (kL (λe a' w' y=>?_) _ _ _ (oS J _ _ _ ρ a w X h));refine y.then (λρ' T x2 x3 z=>?_) (λy _=>?_)
 ·split at z
  ·rename_i O M;obtain⟨τ,V,I,μ,t0,e0,hI,i⟩:=z;subst e0;have g:=KM (κ:=κ) T M;have x:∀(m:Nat) (t:τ) (v:Act) (o:World),μ t=m->I t o.heap->Fits n v (σ.vals (V t) (κ.over ρ'))->Ext ρ' (σ.vals (V t) (κ.over ρ')) a' v->dg w' o->
     nP C.P r (Good C.P c (Out n Q ρ a w) b k cs) v o:=by
    intro m
    induction m using Nat.strongRecOn with
    |_ m ih=>
     intro t v o W G D f d;refine kL (λe a2 w2 y=>?_) _ _ _ (oS J _ _ _ _ v o D (i t o.heap G));obtain⟨Z,L,F,H,A⟩:=y;refine BA J (ρ:=σ.vals (V t) (κ.over ρ')) (a0:=v) (w0:=o) (λe R a3 w3 q u z3 z4=>?_) 4 e Z a2 w2 L F H A;cases e with
     |goto l'=>
      simp only[Tr]at z4;cases hb:wM l' l with
      |false=>
       rw[hb]at z4;exact oC q (x2.trans (f.trans u)) (x3.trans (d.trans z3)) z4
      |true=>
       rw[hb]at z4;have:=zM hb;subst this;simp only[Good,h1];cases hw:within σ κ R (R.length-(σ.vals (V t) (κ.over ρ')).length)with
       |false=>rw[hw]at z4;exact z4.elim
       |true=>
        rw[hw]at z4;simp only[cond_true]at z4;split at z4
        ·rename_i s' B;have j:∀t,σ.has t=false->(κ.over []).fb t=false->a3.tmps[t]?=a'.tmps[t]?:=λt S N=>by
          rw[u.within hw t S N,f.pN t S N]
         obtain⟨u1,u2⟩:=T.pN (κ:=κ) q j B;obtain⟨t',e1,i1,U⟩:=z4;subst e1;exact MW (h2 (ih _ (by rw[<-W];exact U) t' a3 w3 rfl i1 u1 u2 (d.trans z3)))
        ·exact z4.elim
     |normal=>exact oC q (x2.trans (f.trans u)) (x3.trans (d.trans z3)) z4
     |exit id=>exact oC q (x2.trans (f.trans u)) (x3.trans (d.trans z3)) z4
     |ret=>exact oC q (x2.trans (f.trans u)) (x3.trans (d.trans z3)) z4
     |panic ch=>exact oC q (x2.trans (f.trans u)) (x3.trans (d.trans z3)) z4
     |outgrown=>exact oC q (x2.trans (f.trans u)) (x3.trans (d.trans z3)) z4
   exact x _ t0 a' w' rfl hI g.1 g.2 (dg.refl _)
  ·exact z.elim
 ·obtain⟨ρ1,L,F,H,A⟩:=y;exact oC L F H A
theorem adl(O:C.Ok)(o:Fl C n rec):Fl C n (MU C n rec):=by
 intro c Y Q ρ a w g h;have q:∀{σ:dG} {κ:dt} {K:σ.den->Heap->Prop} {e:Exit} {a':Act} {w':World},Out n (HJ σ κ ρ K Q) ρ a w e a' w'->(∀s h,K s h->Q .normal (σ.vals s (κ.over ρ)) h)->Out n Q ρ a w e a' w':=by
  intro σ κ K e a' w' j hk;obtain⟨ρ',f,x2,x3,d⟩:=j;cases e with
  |normal=>
   simp only[HJ]at d;cases hw:within σ κ ρ' (ρ'.length-ρ.length)with
   |false=>rw[hw]at d;exact d.elim
   |true=>
    rw[hw]at d;simp only[cond_true]at d;split at d
    ·rename_i s hs;obtain⟨G,J⟩:=g.pN (κ:=κ) f (x2.within hw) hs;exact⟨_,G,J,x3,hk _ _ d⟩
    ·exact d.elim
  |exit id=>exact⟨ρ',f,x2,x3,d⟩
  |goto l=>exact⟨ρ',f,x2,x3,d⟩
  |ret=>exact⟨ρ',f,x2,x3,d⟩
  |panic ch=>exact⟨ρ',f,x2,x3,d⟩
  |outgrown=>exact⟨ρ',f,x2,x3,d⟩
 unfold MU at h;split at h
 ·rename_i σ κ x;obtain⟨K,hK,X⟩:=h;exact wp_mono (o c x _ ρ a w g X) λe a' w' j=>q j hK
 ·split at h
  ·exact wp_skip ⟨ρ,g,Ext.refl _ _,dg.refl _,h⟩
  ·exact wp_label ⟨ρ,g,Ext.refl _ _,dg.refl _,h⟩
  ·exact wp_mono (MS O g h) λe a' w' j=>j.2
  ·rename_i x y;refine wp_seq (wp_mono (o x _ _ ρ a w g h) λe a' w' j=>j.then (λρ' f x2 x3 d=>?_) λj _=>j);exact wp_mono (o y _ _ ρ' a' w' f d) λe Z N j=>j.base x2 x3
  ·rename_i x y z;split at h
   ·rename_i t R;refine wp_cond_split (g.eval R) (λe=>?_) (λe=>?_)
    ·subst e;exact o y _ _ ρ a w g h
    ·subst e;exact o z _ _ ρ a w g h
   ·exact h.elim
  ·rename_i id x;refine wp_block (wp_mono (o x _ _ ρ a w g h) λe a' w' j=>?_);obtain⟨ρ',f,x2,x3,d⟩:=j;cases e with
   |exit i=>
    simp only[Exit.inBlock];simp only[Wb]at d;cases hb:wM i id with
    |true=>
     rw[hb]at d;rw[if_pos (zM hb)];exact⟨ρ',f,x2,x3,d⟩
    |false=>
     rw[hb]at d;rw[if_neg λe=>by subst e;simp at hb];exact⟨ρ',f,x2,x3,d⟩
   |normal=>exact⟨ρ',f,x2,x3,d⟩
   |goto l=>exact⟨ρ',f,x2,x3,d⟩
   |ret=>exact⟨ρ',f,x2,x3,d⟩
   |panic ch=>exact⟨ρ',f,x2,x3,d⟩
   |outgrown=>exact⟨ρ',f,x2,x3,d⟩
  ·exact wp_exit ⟨ρ,g,Ext.refl _ _,dg.refl _,h⟩
  ·exact wp_goto ⟨ρ,g,Ext.refl _ _,dg.refl _,h⟩
  ·exact wp_ret ⟨ρ,g,Ext.refl _ _,dg.refl _,h⟩
  ·rename_i x;split at h
   ·rename_i σ κ y _;split at h
    ·rename_i s0 H;obtain⟨τ,V,I,μ,t0,e0,P,u⟩:=h;subst e0;have m:=KM (κ:=κ) g H;refine Wa (σ:=τ) (λt B D=>Fits n B (σ.vals (V t) (κ.over ρ))/\Ext ρ (σ.vals (V t) (κ.over ρ)) a B/\dg w D/\I t D.heap) (λt _=>μ t) t0 ⟨m.1,m.2,dg.refl _,P⟩ ?_;rintro t B D ⟨E,v,z3,z4⟩;refine wp_mono (o x y _ _ B D E (u t _ z4)) λe a2 w2 j=>?_;obtain⟨ρ',f,x2,x3,d⟩:=j;cases e with
     |normal=>
      simp only[HJ]at d;cases hw:within σ κ ρ' (ρ'.length-(σ.vals (V t) (κ.over ρ)).length)with
      |false=>rw[hw]at d;exact d.elim
      |true=>
       rw[hw]at d;simp only[cond_true]at d;split at d
       ·rename_i s' F;have A:∀t,σ.has t=false->(κ.over []).fb t=false->a2.tmps[t]?=a.tmps[t]?:=λt M L=>by
         rw[x2.within hw t M L,v.pN t M L]
        obtain⟨G,J⟩:=g.pN (κ:=κ) f A F;obtain⟨t',U,W,S⟩:=d;subst U;exact⟨t',⟨G,J,z3.trans x3,W⟩,S⟩
       ·exact d.elim
     |exit id=>exact⟨ρ',f,v.trans x2,z3.trans x3,d⟩
     |goto l=>exact⟨ρ',f,v.trans x2,z3.trans x3,d⟩
     |ret=>exact⟨ρ',f,v.trans x2,z3.trans x3,d⟩
     |panic ch=>exact⟨ρ',f,v.trans x2,z3.trans x3,d⟩
     |outgrown=>exact⟨ρ',f,v.trans x2,z3.trans x3,d⟩
    ·exact h.elim
   ·exact h.elim
  ·rename_i x;split at h
   ·split at h
    ·rename_i p r T;exact Qe o T g h
    ·exact h.elim
   ·refine CL λb k cs=>wp_mono (o x _ _ ρ a w g h) λe a' w' j=>?_;obtain⟨ρ',f,x2,x3,d⟩:=j;exact BA o (ρ:=ρ) (a0:=a) (w0:=w) (λe ρ3 a3 w3 E v z3 z4=>oC E v z3 z4) 4 e ρ' a' w' f x2 x3 d
   ·exact h.elim
  ·exact h.elim
theorem MX(a:C.Ok):∀f,Fl C n (vc C n f)
 |0=>λ_ _ _ _ _ _ _ h=>h.elim
 |f+1=>adl a (MX a f)
end
def Dl(C:Ctx)(ρ:Env):List ResultVar->(List Value->Prop)->Heap->Prop
 |[],K,_=>K []
 | .tmp t::r,K,h=>match ρ.get t with
  |some v=>Dl C ρ r (λvs=>K (v::vs)) h
  |none=>False
 | .cell a t::r,K,h=>match tQ C.T (.load t (.tmp a)) ρ.eval with
  |some q=>∃y:q.ty.den,q.holds h y/\Dl C ρ r (λvs=>K (q.ty.enc y::vs)) h
  |none=>False
def Dm:List Value->Value
 |[v]=>v
 |vs=>.tuple vs.toArray
def ahj(C:Ctx)(rs:List ResultVar)(R:Value->Heap->Prop):QT
 | .normal,ρ,h=>Dl C ρ rs (λvs=>R (Dm vs) h) h
 | .ret,ρ,h=>Dl C ρ rs (λvs=>R (Dm vs) h) h
 |_,_,_=>False
def Dn:Nat->List Value->Env
 |_,[]=>[]
 |n,v::r=>.val n v::Dn (n+1) r
def Wc(C:Ctx)(b:Func)(a:Nat)(d:cN)(args:List Value)(R:Value->Heap->Prop)(h:Heap):Prop:=
 match b.body with
 |some c=>vc C b.ntmps a c d (ahj C b.results.toList R) (Dn 0 args) h
 |none=>False
theorem HK:∀{args:List Value} {n t:Nat} {v:Value},(Dn n args).get t=some v->n<=t/\args[t-n]?=some v
 |[],_,_,_,h=>by cases h
 |u::r,n,t,v,h=>by
  simp only[Dn,Env.get]at h;cases hb:wM n t with
  |true=>
   rw[hb]at h;have:=zM hb;subst this;simpa using h
  |false=>
   rw[hb]at h;obtain⟨c,a⟩:=HK (args:=r) h;refine⟨by omega,?_⟩;obtain⟨k,b⟩:∃k,t-n=k+1:=⟨t-(n+1),by omega⟩
   rw[b,List.getElem?_cons_succ];have:t-(n+1)=k:=by omega
   rw[<-this];exact a
theorem ZE{C:AQ}(g:C.Ok){ev:Operand->Option Value}{e:Operand->Value}(f:∀x v,ev x=some v->e x=v){t:TypeId}{x:Operand}{q:uW}
  (d:tQ C.T (.load t x) ev=some q) {y:q.ty.den} {w:World} (h:q.holds w.heap y):(xp t (e x)).run C.P w=.ok (q.ty.enc y) w:=by
 have c:(do pure (Next.value (<-xp t (e x))):Sem Next).run C.P w=.ok (.value (q.ty.enc y)) w:=Bx g f (o:=⟨none,.load t x,0, "",#[],none⟩) d h;rw[Sem.run_bind]at c;cases hr:(xp t (e x)).run C.P w with
 |halt a b=>rw[hr]at c;cases c
 |ok v w'=>
  rw[hr]at c;simp only[Result.andThen_ok]at c;cases c;rfl
theorem Do{C:Ctx}(i:C.Ok){n:Nat}{a:Act}{ρ:Env}(d:Fits n a ρ):∀{rs:List ResultVar} {K:List Value->Prop} {w:World},Dl C ρ rs K w.heap->
  ∃vs,(rs.mapM (λ| .tmp t=>pure (a.tmps.getD t undef)| .cell x t=>(do loadVar t (<-asAddr (a.tmps.getD x undef)):Sem Value)):Sem (List Value)).run C.P w=.ok vs w/\K vs
 |[],K,w,h=>⟨[],rfl,h⟩
 | .tmp t::r,K,w,h=>by
  simp only[Dl]at h;split at h
  ·rename_i v p;obtain⟨vs,k,l⟩:=Do i d h;refine⟨v::vs,?_,l⟩;have g:a.tmps.getD t undef=v:=by simp[Array.getD_eq_getD_getElem?,d.get t v p]
   rw[List.mapM_cons,Sem.run_bind,Sem.run_pure,Result.andThen_ok,Sem.run_bind,k,g];rfl
  ·exact h.elim
 | .cell x t::r,K,w,h=>by
  simp only[Dl]at h;split at h
  ·rename_i q f;obtain⟨y,s,h⟩:=h;obtain⟨vs,k,l⟩:=Do i d h;refine⟨q.ty.enc y::vs,?_,l⟩;have m:=ZE i.toOk (e:=a.eval) (λx v h=>d.eval h) f s;have o:∃c,a.eval (.tmp x)=.pointer (some c):=by
    unfold tQ at f;simp only at f;split at f
    ·rename_i c b;exact⟨c,d.eval b⟩
    ·cases f
   obtain⟨c,b⟩:=o;have g:a.tmps.getD x undef=.pointer (some c):=b;rw[b]at m;rw[List.mapM_cons,Sem.run_bind];simp only[g];have j:(do loadVar t (<-asAddr (.pointer (some c))):Sem Value).run C.P w=.ok (q.ty.enc y) w:=m;rw[j,Result.andThen_ok,Sem.run_bind,k];rfl
  ·exact h.elim
theorem Si{C:Ctx}(l:C.Ok){f:FuncId}{b:Func}(p:C.P.funcs[f]?=some b){a:Nat}{i:cN}{args:List Value}(z:args.length<=b.ntmps){R:Value->Heap->Prop}{h:Heap}
  (j:Wc C b a i args R h):an C.P f args.toArray h R:=by
 rintro w rfl;unfold Wc at j;split at j
 ·rename_i c s;refine calls_of_wp p s ?_;have d:Fits b.ntmps {tmps:=args.toArray++vK (b.ntmps-args.toArray.size) undef,defers:=[]} (Dn 0 args):=by refine⟨by simp;omega,rfl,λt v q=>?_⟩;obtain⟨_,g⟩:=HK q;rw[Nat.sub_zero]at g;have k:t<args.length:=(qk.1 g).1;simp only[Array.getElem?_append,List.size_toArray,k,if_true,List.getElem?_toArray];exact g
  refine wp_mono (MX l a c i _ _ _ w d j) λe a' w' u=>?_;obtain⟨ρ',n,x2,x3,o⟩:=u;have fin:Dl C ρ' b.results.toList (λvs=>R (Dm vs) w'.heap) w'.heap->a'.defers=[]/\∃v,(results b a'.tmps).run C.P w'=.ok v w'/\(∃m,Ending.returned v=.returned m/\dg w w'/\R m w'.heap):=λy=>by
   obtain⟨vs,x,g⟩:=Do l n y;refine⟨n.defers,Dm vs,?_,Dm vs,rfl,x3,g⟩;unfold results;rw[vF,map_eq_pure_bind,bind_assoc,Sem.run_bind];refine(congrArg (λr=>Result.andThen r _) x).trans ?_;simp only[Result.andThen_ok,pure_bind,Sem.run_pure];cases vs with
   |nil=>rfl
   |cons v r=>cases r<;>rfl
  cases e<;>first|exact fin o|exact o.elim
 ·exact j.elim
theorem aeC{C:Ctx}(g:C.Ok){f:FuncId}{a:Func}(c:C.P.funcs[f]?=some a)(b:cN){args:List Value}{R:Value->Heap->Prop}{h:Heap}{Q:Prop}(d:Q)
  (i:xo args.length a.ntmps=true:=by kernel_rfl) (e:Wc C a 300 b args R h=Q:=by kernel_rfl):an C.P f args.toArray h R:=Si g c (zG i) (cast e.symm d)
def bz(P:Program)(s:Sem Value)(r:Rt)(h:Heap)(K:r.den->Heap->Prop):Prop:=au P s h λv h'=>∃x:r.den,v=r.enc x/\K x h'
def oT(P:Program)(s:Sem Value)(h:Heap)(K:Addr->Heap->Prop):Prop:=au P s h λv h'=>∃a:Addr,v=.pointer (some a)/\K a h'
def oU(P:Program)(f:FuncId)(args:Array Value)(r:Rt)(h:Heap)(K:r.den->Heap->Prop):Prop:=an P f args h λv h'=>∃x:r.den,v=r.enc x/\K x h'
def tV(C:Ctx)(g:FuncId)(args:List Value)(r:Rt)(h:Heap)(K:r.den->Heap->Prop):Prop:=
 match C.fns[g]? with
 |some true=>oU C.P g args.toArray r h K
 |_=>False
theorem dT{C:Ctx}{g:FuncId}{args:List Value}{r:Rt}{h:Heap}{K:r.den->Heap->Prop}(a:C.fns[g]?=some true)(b:oU C.P g args.toArray r h K):tV C g args r h K:=by unfold tV;rw[a];exact b
namespace Rk
open Go
inductive Er where
 |val (t:Nat) (v:Value)
 |tf (t:Nat) (b:Nat)
abbrev Ev:=List Er
def aeD:Nat->Value
 |0=>.bool false
 |_+1=>.bool true
def Ts:Bool->Value->Ev->Nat->Value
 |true,x,_,_=>x
 |false,_,[],_=>.tuple #[]
 |false,_,.val s x::r,t=>Ts (s==t) x r t
 |false,_,.tf s n::r,t=>Ts (s==t) (aeD n) r t
abbrev Gy(ρ:Ev)(t:Nat):Value:=Ts false (.tuple #[]) ρ t
inductive Gd where
 |k (n:Nat)
 |v (v:Value)
def Mz:Bool->Gd->Ev->Nat->Gd
 |true,x,_,_=>x
 |false,_,[],_=>.k 0
 |false,_,.val s x::r,t=>Mz (s==t) (.v x) r t
 |false,_,.tf s n::r,t=>Mz (s==t) (.k n) r t
abbrev aeE(ρ:Ev)(t:Nat):Gd:=Mz false (.k 0) ρ t
def fc(ρ:Ev):Operand->Value
 | .tmp t=>Gy ρ t
 | .const v=>v
 | .global g=>.pointer (some ⟨g,0,none⟩)
 | .func f=>.func (.func f) #[] #[]
def HL(ρ:Ev):List Operand->List Value
 |[]=>[]
 |x::r=>fc ρ x::HL ρ r
def MB(ρ:Ev):List (Nat×Operand)->List (Nat×Value)
 |[]=>[]
 |(n,x)::r=>(n,fc ρ x)::MB ρ r
def HM(ρ:Ev):Option Operand->Option Value
 |none=>none
 |some x=>some (fc ρ x)
def Tt:Bool->Bool
 |true=>false
 |false=>true
def aeF:Bool->Bool->Bool
 |true,b=>b
 |false,_=>false
def ZF:Bool->Bool->Bool
 |true,_=>true
 |false,b=>b
def Gz:Bool->Bool->Bool
 |true,b=>Tt b
 |false,_=>false
def np{α:Type}(d:α):List α->Nat->α
 |[],_=>d
 |a::_,0=>a
 |_::r,n+1=>np d r n
def MY{α:Type}:Nat->List α->List α
 |0,l=>l
 |_+1,[]=>[]
 |n+1,_::r=>MY n r
def MZ{α:Type}:Nat->List α->List α
 |0,_=>[]
 |_+1,[]=>[]
 |n+1,a::r=>a::MZ n r
def rz{α:Type}:List α->List α->List α
 |[],m=>m
 |a::r,m=>a::rz r m
def ZG{α:Type}:List α->Nat
 |[]=>0
 |_::r=>ZG r+1
def Tu:TI:=⟨.other,.sc .any,0,0,[]⟩
def aeG(l:List TI)(t:Nat):TI:=np Tu l t
def Tv:nH->Nat->Nat×TypeId
 | .struct fs,f=>np (0,0) fs f
 | .int _,_| .bool,_| .str,_| .flt,_| .cpx,_| .mp,_| .fn,_| .other,_| .slice _,_| .array ..,_| .ptr _,_=>(0,0)
def HN:nH->TypeId
 | .slice e=>e
 | .array _ e=>e
 | .int _| .bool| .str| .flt| .cpx| .mp| .fn| .other| .struct _| .ptr _=>0
inductive Rz:Type 1 where
 |val (v:Value)
 |cond (c:Prop) (v:Value)
 |ex (X:Type) (c:X->Prop) (v:X->Value)
 |br (b:Bool) (x y:Value)
 |ld (a:Addr) (t:Ty) (n:Nat)
 |ru (α:Type) (s:Sem α)
 |ra (s:Sem Value)
 |rr (s:Sem Value) (t:Rt)
 |ca (f:FuncId) (l:List Value) (t:Rt)
 |dy (f:FuncId) (l:List Value) (t:Rt)
 |bad
def aeH:Value->Value->Value->Rz
 | .bool b,x,y=>.br b x y
 |_,_,_=>.bad
def aeI:Value->Rz
 | .pointer p=>.ex Addr (λa=>p=some a) (λa=>.pointer (some a))
 |_=>.bad
def aeJ:Value->Nat->Rz
 | .pointer (some a),n=>.val (.pointer (some (a.add n)))
 |_,_=>.bad
def aeK:Value->Value->nH->Nat->Rz
 | .slice p len _,.int _ n,.slice _,z=>.ex Addr (λa=>p=some a/\0<=n/\n<(len:Int)) (λa=>.pointer (some (a.add (n.toNat*z))))
 | .pointer (some a),.int _ n,.array m _,z=>.cond (0<=n/\n<(m:Int)) (.pointer (some (a.add (n.toNat*z))))
 |_,_,_,_=>.bad
def abT:Ty->Nat->List Value->Int->Array Value->Rz
 | .sc s,m,_,n,cs=>.ex s.den (λy=>0<=n/\n<(m:Int)/\cs[n.toNat]?=some (s.enc y)) (λy=>s.enc y)
 |_,_,_,_,_=>.bad
def aeL:Value->Value->nH->Ty->Rz
 | .string s,.int _ n,.str,_=>.ex UInt8 (λb=>0<=n/\s.data[n.toNat]?=some b) (λb=>.int .u8 b.toNat)
 | .agg cs,.int _ n,.array m _,t=>abT t m [] n cs
 |_,_,_,_=>.bad
def abU:nH->List Value->Nat->Nat->Value
 | .struct _,cs,o,z=>.agg (MZ z (MY o cs)).toArray
 | .array ..,cs,o,z=>.agg (MZ z (MY o cs)).toArray
 | .int _,cs,o,_| .bool,cs,o,_| .str,cs,o,_| .flt,cs,o,_| .cpx,cs,o,_| .mp,cs,o,_| .fn,cs,o,_| .other,cs,o,_| .slice _,cs,o,_| .ptr _,cs,o,_=>np (.tuple #[]) cs o
def aeM:Value->Nat->TI->Rz
 | .agg cs,o,i=>.val (abU i.cG cs.toList o i.size)
 |_,_,_=>.bad
def aeN:Value->Nat->Rz
 | .tuple vs,n=>.val (np (.tuple #[]) vs.toList n)
 |_,_=>.bad
def aeO:Value->nH->Nat->Option Value->Option Value->Rz
 | .slice p n c,.slice _,_,none,none=>.val (.slice p n c)
 | .slice p _ c,.slice _,_,none,some (.int _ r)=>.cond (0<=r/\r<=(c:Int)) (.slice p r.toNat c)
 | .slice p n c,.slice _,z,some (.int _ l),none=>.cond (0<=l/\l<=(n:Int)) (.slice (if c=l.toNat then p else p.map (·.add (l.toNat*z))) (n-l.toNat) (c-l.toNat))
 | .slice p _ c,.slice _,z,some (.int _ l),some (.int _ r)=>.cond (0<=l/\l<=r/\r<=(c:Int)) (.slice (if c=l.toNat then p else p.map (·.add (l.toNat*z))) (r.toNat-l.toNat) (c-l.toNat))
 | .string s,.str,_,none,none=>.val (.string (s.extract 0 s.size))
 | .string s,.str,_,none,some (.int _ r)=>.cond (0<=r/\r<=(s.size:Int)) (.string (s.extract 0 r.toNat))
 | .string s,.str,_,some (.int _ l),none=>.cond (0<=l/\l<=(s.size:Int)) (.string (s.extract l.toNat s.size))
 | .string s,.str,_,some (.int _ l),some (.int _ r)=>.cond (0<=l/\l<=r/\r<=(s.size:Int)) (.string (s.extract l.toNat r.toNat))
 | .pointer (some a),.array n _,_,none,none=>.val (.slice (some a) n n)
 | .pointer (some a),.array n _,_,none,some (.int _ r)=>.cond (0<=r/\r<=(n:Int)) (.slice (some a) r.toNat n)
 | .pointer (some a),.array n _,z,some (.int _ l),none=>.cond (0<=l/\l<=(n:Int)) (.slice (some (if n=l.toNat then a else a.add (l.toNat*z))) (n-l.toNat) (n-l.toNat))
 | .pointer (some a),.array n _,z,some (.int _ l),some (.int _ r)=>.cond (0<=l/\l<=r/\r<=(n:Int)) (.slice (some (if n=l.toNat then a else a.add (l.toNat*z))) (r.toNat-l.toNat) (n-l.toNat))
 |_,_,_,_,_=>.bad
def aeP(k:IntKind)(a b:Int):BinOp->Rz
 | .add=>.val (.int k (k.wrap (a+b)))
 | .sub=>.val (.int k (k.wrap (a-b)))
 | .mul=>.val (.int k (k.wrap (a*b)))
 | .quo=>.cond (b≠0) (.int k (k.wrap (a.tdiv b)))
 | .rem=>.cond (b≠0) (.int k (a.tmod b))
 | .and=>.val (.int k (k.wrap (qO k.bits a&&&qO k.bits b).toNat))
 | .or=>.val (.int k (k.wrap (qO k.bits a|||qO k.bits b).toNat))
 | .xor=>.val (.int k (k.wrap (qO k.bits a^^^qO k.bits b).toNat))
 | .andNot=>.val (.int k (k.wrap (qO k.bits a&&&~~~qO k.bits b).toNat))
 | .shl=>.cond (0<=b) (.int k (k.wrap (a*2^min b.toNat k.bits)))
 | .shr=>.cond (0<=b) (.int k (a.fdiv (2^min b.toNat k.bits)))
 | .eql=>.val (.bool (a==b))
 | .neq=>.val (.bool (a !=b))
 | .lss=>.val (.bool (decide (a<b)))
 | .leq=>.val (.bool (decide (a<=b)))
 | .gtr=>.val (.bool (decide (a>b)))
 | .geq=>.val (.bool (decide (a>=b)))
def aeQ(a b:ByteArray):BinOp->Rz
 | .eql=>.val (.bool (a.toList==b.toList))
 | .neq=>.val (.bool (!(a.toList==b.toList)))
 | .lss=>.val (.bool (Op.bytesLess a.toList b.toList))
 | .leq=>.val (.bool (Op.bytesLess a.toList b.toList||a.toList==b.toList))
 | .gtr=>.val (.bool (!(Op.bytesLess a.toList b.toList||a.toList==b.toList)))
 | .geq=>.val (.bool (!(Op.bytesLess a.toList b.toList)))
 | .add=>.cond (((a.size+b.size:Nat):Int)<=xL.max) (.string (a++b))
 |_=>.bad
def aeR(a b:Bool):BinOp->Rz
 | .eql=>.val (.bool (a==b))
 | .neq=>.val (.bool (!(a==b)))
 |_=>.bad
def aeS(k:FloatKind)(a b:Nat):BinOp->Rz
 | .add=>.ex Nat (λr=>k.format.add a b=some r) (λr=>.float k r)
 | .sub=>.ex Nat (λr=>k.format.sub a b=some r) (λr=>.float k r)
 | .mul=>.ex Nat (λr=>k.format.mul a b=some r) (λr=>.float k r)
 | .quo=>.ex Nat (λr=>k.format.div a b=some r) (λr=>.float k r)
 | .eql=>.val (.bool (k.format.order a b==some .eq))
 | .neq=>.val (.bool (k.format.order a b !=some .eq))
 | .lss=>.val (.bool (k.format.order a b==some .lt))
 | .gtr=>.val (.bool (k.format.order a b==some .gt))
 |_=>.bad
def Na{α:Type}(p:Option α):BinOp->Rz
 | .eql=>.val (.bool p.isNone)
 | .neq=>.val (.bool (!p.isNone))
 |_=>.bad
def aeT(P:Program)(k:FloatKind)(op:BinOp)(t:TypeId)(x y:Operand)(a b:Value):BinOp->Rz
 | .eql=>.ex Bool (λr=>ku P op t x y a b (.bool r)) (λr=>.bool r)
 | .neq=>.ex Bool (λr=>ku P op t x y a b (.bool r)) (λr=>.bool r)
 |_=>.ex (Nat×Nat) (λr=>ku P op t x y a b (.complex k r.1 r.2)) (λr=>.complex k r.1 r.2)
def Tw(P:Program)(op:BinOp)(t:TypeId)(x y:Operand)(a b:Value):Rz:=.ex Bool (λr=>ku P op t x y a b (.bool r)) (λr=>.bool r)
def aeU(P:Program)(op:BinOp)(t:TypeId)(x:Operand)(p q:Option Addr):Operand->Rz
 | .tmp n=>Tw P op t x (.tmp n) (.pointer p) (.pointer q)
 | .const _=>Na p op
 | .global _=>Na p op
 | .func _=>Na p op
def abV(P:Program)(op:BinOp)(t:TypeId)(x y:Operand):Value->Value->Rz
 | .int k a,.int _ b=>aeP k a b op
 | .float k a,.float _ b=>aeS k a b op
 | .string a,.string b=>aeQ a b op
 | .bool a,.bool b=>aeR a b op
 | .pointer a,.pointer b=>aeU P op t x a b y
 | .slice a _ _,.slice .. =>Na a op
 | .agg a,.agg b=>Tw P op t x y (.agg a) (.agg b)
 | .complex k a b,.complex k' c e=>aeT P k op t x y (.complex k a b) (.complex k' c e) op
 |a,.nilIface=>Tw P op t x y a .nilIface
 |_,_=>.bad
def aeV:UnOp->Value->Rz
 | .not,.bool b=>.val (.bool !b)
 | .neg,.int k n=>.val (.int k (k.wrap (0-n)))
 | .xor,.int k n=>.val (.int k (k.wrap (qO k.bits (if k.signed then-1 else k.max)^^^qO k.bits n).toNat))
 |_,_=>.bad
def aeW(s d:TypeId)(v:Value)(a:Ty):nH->nH->Value->Rz
 | .int _,.int k,.int _ n=>.val (.int k (k.wrap n))
 |_,_,_=>.rr (convert s d v) (.one a)
def Sj:Value->List Value
 | .agg cs=>cs.toList
 | .bool b=>[.bool b]
 | .int k n=>[.int k n]
 | .float k n=>[.float k n]
 | .complex k a b=>[.complex k a b]
 | .string s=>[.string s]
 | .pointer a=>[.pointer a]
 | .slice a l c=>[.slice a l c]
 | .map r=>[.map r]
 | .chan r=>[.chan r]
 | .func f a c=>[.func f a c]
 | .nilFunc=>[.nilFunc]
 | .iface t v=>[.iface t v]
 | .nilIface=>[.nilIface]
 | .tuple vs=>[.tuple vs]
def abW(l:List Value)(o:Nat)(c:List Value):List Value:=rz (MZ o l) (rz c (MY (o+ZG c) l))
def Wd:nH->Nat->Nat->Nat
 | .struct fs,_,n=>(np (0,0) fs n).1
 | .array _ _,z,n=>n*z
 | .int _,_,_| .bool,_,_| .str,_,_| .flt,_,_| .cpx,_,_| .mp,_,_| .fn,_,_| .other,_,_| .slice _,_,_| .ptr _,_,_=>0
def Tx(d:nH)(z:Nat):List Value->List (Nat×Value)->List Value
 |l,[]=>l
 |l,(n,v)::r=>Tx d z (abW l (Wd d z n) (Sj v)) r
def aeX:Nat->Bool
 |0=>false
 |_+1=>true
def abX(P:Program)(t:TypeId)(i:TI)(z:Nat)(vs:List (Nat×Value)):Bool->Rz
 |true=>.ex Value (λv=>aH P (xt t vs.toArray) v) (λv=>v)
 |false=>.val (.agg (Tx i.cG z i.zero vs).toArray)
def Tz:Value->TI->Rz
 | .pointer (some a),i=>.ld a i.ty i.size
 |_,_=>.bad
def We(a:Array TypeId)(ty:TypeId):Value->Rz
 | .slice _ n _=>.val (.int .i64 n)
 | .string s=>.val (.int .i64 s.size)
 | .map r=>.rr (xB a ty #[.map r]) (.one (.sc (.int .i64)))
 |_=>.bad
def Wf:Value->Rz
 | .slice _ _ n=>.val (.int .i64 n)
 |_=>.bad
def ZH:Bool->List Value->Rz
 |true,[.int k a,.int _ b]=>.val (.int k (if b>a then b else a))
 |false,[.int k a,.int _ b]=>.val (.int k (if b<a then b else a))
 |_,_=>.bad
def TA:Bool->List Value->Rz
 |true,[.complex k a _]=>.val (.float k a)
 |false,[.complex k _ b]=>.val (.float k b)
 |_,_=>.bad
def ZI(T:Nat->TI)(t:TypeId):Bool->List Ty->List (TypeId×List Ty)->Rt
 |true,l,_=>.many l
 |false,_,[]=>.one (T t).ty
 |false,_,(k,l)::r=>ZI T t (k==t) l r
abbrev TB(T:Nat->TI)(t:TypeId)(l:List (TypeId×List Ty)):Rt:=ZI T t false [] l
def abY:Value->List Value->Rt->Rz
 | .func (.func g) a c,l,t=>.dy g (a.toList++l++c.toList) t
 |_,_,_=>.bad
def abZ(a:Array TypeId)(ty:TypeId)(vs:List Value):Builtin->Rz
 | .append=>.rr (zx a ty vs.toArray) (.one (.sc .slc))
 | .copy=>.rr (yg a ty vs.toArray) (.one (.sc (.int .i64)))
 | .clear=>.ru Value (vO a ty vs.toArray)
 | .delete=>.ru Value (Builtin.delete_ a ty vs.toArray)
 | .unsafeString=>.rr (Builtin.unsafeString_ a ty vs.toArray) (.one (.sc .str))
 | .len=>We a ty (np (.tuple #[]) vs 0)
 | .cap=>Wf (np (.tuple #[]) vs 0)
 | .min=>ZH false vs
 | .max=>ZH true vs
 | .real=>TA true vs
 | .imag=>TA false vs
 |_=>.bad
def aca(T:Nat->TI)(tup:List (TypeId×List Ty))(ρ:Ev)(ty:TypeId)(vs:List Value)(a:Array TypeId):Callee->Rz
 | .value (.func f)=>.ca f vs (TB T ty tup)
 | .value (.tmp t)=>abY (Gy ρ t) vs (TB T ty tup)
 | .builtin b=>abZ a ty vs b
 |_=>.bad
def acb(P:Program)(T:Nat->TI)(tup:List (TypeId×List Ty))(ty:TypeId)(ρ:Ev):Op->Rz
 | .move x=>.val (fc ρ x)
 | .assign x=>.val (fc ρ x)
 | .pick c a b=>aeH (fc ρ c) (fc ρ a) (fc ρ b)
 | .nilCheck x=>aeI (fc ρ x)
 | .fieldAddr s x f=>aeJ (fc ρ x) (Tv (T s).cG f).1
 | .indexAddr t x i=>aeK (fc ρ x) (fc ρ i) (T t).cG (T (HN (T t).cG)).size
 | .index t x i=>aeL (fc ρ x) (fc ρ i) (T t).cG (T (HN (T t).cG)).ty
 | .field s x f=>aeM (fc ρ x) (Tv (T s).cG f).1 (T (Tv (T s).cG f).2)
 | .slice t x Gz hi none=>aeO (fc ρ x) (T t).cG (T (HN (T t).cG)).size (HM ρ Gz) (HM ρ hi)
 | .slice t x Gz hi (some m)=>.rr (w4 t (fc ρ x) (HM ρ Gz) (HM ρ hi) (some (fc ρ m))) (.one (.sc .slc))
 | .extract x n=>aeN (fc ρ x) n
 | .binOp op t x y _=>abV P op t x y (fc ρ x) (fc ρ y)
 | .unOp op _ x=>aeV op (fc ρ x)
 | .convert s d x=>aeW s d (fc ρ x) (T ty).ty (T s).cG (T d).cG (fc ρ x)
 | .build t ps=>abX P t (T t) (T (HN (T t).cG)).size (MB ρ ps.toList) (aeX ((T t).size-24))
 | .makeFunc f a c=>.val (.func f (HL ρ a.toList).toArray (HL ρ c.toList).toArray)
 | .load t x=>Tz (fc ρ x) (T t)
 | .store t a x=>.ru Unit (qG t (fc ρ a) (fc ρ x))
 | .alloc t=>.ra (yQ t true (.tuple #[]))
 | .box t x=>.ra (vC t (fc ρ x))
 | .makeSlice t l c=>.rr (zA t (fc ρ l) (fc ρ c)) (.one (.sc .slc))
 | .buildSlice t n ps=>.rr (zL t n (MB ρ ps.toList).toArray) (.one (.sc .slc))
 | .makeMap t none=>.rr (xh t none) (.one (.sc .mp))
 | .lookup t x i ok=>.rr (xC t (fc ρ x) (fc ρ i) ok) (TB T ty tup)
 | .mapUpdate t m k x=>.ru Unit (yY t (fc ρ m) (fc ρ k) (fc ρ x))
 | .insert t m k x=>.ru Unit (yY t (fc ρ m) (fc ρ k) (fc ρ x))
 | .call ⟨c,as,tys⟩=>aca T tup ρ ty (HL ρ as.toList) tys c
 |_=>.bad
inductive Kt:Type 1 where
 |top (rs:List ResultVar)
 |seq (c:Code) (a:cN) (k:Kt)
 |ff (id:Nat) (k:Kt)
 |jn (σ:dG) (K:σ.den->Heap->Prop) (k:Kt)
 |back (l:Nat) (σ:dG) (K:σ.den->Heap->Prop) (k:Kt)
 |lst (cs:List Code) (as:List cN) (k:Kt)
 |jmp (c:Code) (fwd:List (Nat×List cN)) (k:Kt)
 |hd (l:Nat) (σ:dG) (r:List Code) (as:List cN) (fwd:List (Nat×List cN)) (c:Code) (k:Kt)
def Nb:cN->cN
 | .two a _=>a
 | .n| .inn _| .loop .. | .join .. | .scope .. | .fwd .. =>.n
def Nc:cN->cN
 | .two _ b=>b
 | .n| .inn _| .loop .. | .join .. | .scope .. | .fwd .. =>.n
def Wg:cN->cN
 | .inn a=>a
 | .n| .two .. | .loop .. | .join .. | .scope .. | .fwd .. =>.n
def acd(a b:Code):Option (List Code×List Code)->Option (List Code×List Code)->Option (List Code×List Code)
 |some (p,r),_=>some (p,rz r [b])
 |none,some (p,r)=>some (a::p,r)
 |none,none=>none
def ace:Bool->Option (List Code×List Code)
 |true=>some ([],[])
 |false=>none
def HO:Code->Nat->Option (List Code×List Code)
 | .seq a b,l=>acd a b (HO a l) (HO b l)
 | .label k,l=>ace (k==l)
 | .skip,_| .region ..,_| .cond ..,_| .block ..,_| .loop _,_| .rangeFunc ..,_| .exit _,_| .scope _,_| .goto _,_| .ret,_| .refuse _,_=>none
def TC:Bool->List cN->List (Nat×List cN)->Nat->Option (List cN)
 |true,x,_,_=>some x
 |false,_,[],_=>none
 |false,_,(k,x)::r,l=>TC (k==l) x r l
abbrev acf(w:List (Nat×List cN))(l:Nat):Option (List cN):=TC false [] w l
def HQ:(s:Sc)->Value->Option s.den
 | .int _,.int _ n=>some n
 | .bool,.bool x=>some x
 | .str,.string x=>some x
 | .ptr,.pointer a=>some a
 | .slc,.slice a l c=>some ⟨a,l,c⟩
 | .flt _,.float _ n=>some n
 | .cpx _,.complex _ a b=>some (a,b)
 | .mp,.map r=>some r
 | .fn,.func (.func g) f c=>some (g,f,c)
 | .any,v=>some v
 | .adr,.pointer (some a)=>some a
 |_,_=>none
def ZJ{α β:Type}:Option α->Option β->Option (α×β)
 |some a,some b=>some (a,b)
 |some _,none=>none
 |none,_=>none
def JF:(l:List Sc)->List Value->Option (Aq l)
 |[],_=>some ()
 |[s],[v]=>HQ s v
 |s::t::r,v::vs=>ZJ (HQ s v) (JF (t::r) vs)
 |_::_,_=>none
def Nd:(t:Ty)->Value->Option t.den
 | .sc s,v=>HQ s v
 | .agg l,.agg cs=>JF l cs.toList
 |_,_=>none
def JG:(σ:dG)->Ev->Option σ.den
 |[],_=>some ()
 |[(t,y)],ρ=>Nd y (Gy ρ t)
 |(t,y)::x::r,ρ=>ZJ (Nd y (Gy ρ t)) (JG (x::r) ρ)
def HR:(σ:dG)->σ.den->Ev->Ev
 |[],_,ρ=>ρ
 |[(t,y)],x,ρ=>.val t (y.enc x)::ρ
 |(t,y)::z::r,x,ρ=>.val t (y.enc x.1)::HR (z::r) x.2 ρ
def ZK{α:Type}(K:α->Heap->Prop)(h:Heap):Option α->Prop
 |some s=>K s h
 |none=>False
def JH{σ:Type}(B:σ->(σ->Heap->Prop)->Heap->Prop)(h:Heap):Option σ->Prop
 |some s=>gK B s h
 |none=>False
inductive Hd where
 |l (c:bR)
 |a (a:Addr) (vs:List Value)
abbrev Hi:=List (Nat×Hd)
def HS:List Oper->Nat->List (Nat×Oper)
 |[],_=>[]
 |o::r,n=>(n,o)::HS r (n+1)
def HT(l:List (Nat×Oper)):List Nat->List (Nat×Oper)
 |[]=>[]
 |n::r=>np (0,⟨none,.ready 0,0, "",#[],none⟩) l n::HT l r
inductive Sd where
 |l (ns:List Nat)
 |y (ns:List Nat) (a b:Sd)
def ZL(id:Nat):Bool->Sd->List (Nat×Sd)->Option Sd
 |true,x,_=>some x
 |false,_,[]=>none
 |false,_,(k,x)::r=>ZL id (k==id) x r
def ZM:Nat×Oper->Nat
 |(_,⟨some d,_,_,_,_,_⟩)=>d
 |(_,⟨none,_,_,_,_,_⟩)=>0
def acg:Ground->Bool
 | .data| .chain| .guard| .phase=>true
 | .textOnly _| .gcOnly _=>false
def ZN:List Edge->Nat->Bool
 |[],_=>false
 |⟨n,g⟩::r,i=>ZF (aeF (acg g) (n==i)) (ZN r i)
def TD:Bool->Nat×Hd->Hi->Hi
 |true,_,r=>r
 |false,p,r=>p::r
def Nf(e:List Edge):Hi->Hi
 |[]=>[]
 |p::r=>TD (ZN e p.1) p (Nf e r)
def MC:Hi->bR
 |[]=>[]
 |(_,.l c)::r=>rz c (MC r)
 |(_,.a x vs)::r=>oe x 0 vs (MC r)
def GA(e:List Edge)(L:Hi)(h:Heap):Bool->Prop->Prop
 |true,X=>bR.ok (MC (Nf e L)) h/\X
 |false,X=>X
def ach(e:List Edge)(L:Hi):Bool->Hi
 |true=>Nf e L
 |false=>L
def JI(e:List Edge)(L:Hi):Bool->Hi
 |true=>Nf e L
 |false=>[]
def oh:Option Tmp->Value->Ev->Ev
 |some d,v,ρ=>.val d v::ρ
 |none,_,ρ=>ρ
def TE(dr:Bool)(n:Nat)(c:Hd)(L:Hi):Hi:=TD (Tt dr) (n,c) L
def ZO(a:Addr):Nat->List Value->bR
 |_,[]=>[]
 |n,v::r=>(a.add n,v)::ZO a (n+1) r
def TF:Ty->Bool
 | .sc .slc=>true
 |_=>false
def TG(T:Nat->TI):Op->Bool
 | .convert s d _=>Tt (ZF (TF (T s).ty) (TF (T d).ty))
 | .move _| .assign _| .pick .. | .nilCheck _| .fieldAddr .. | .indexAddr .. | .index .. | .field .. | .extract .. | .binOp .. | .unOp .. | .build .. | .makeFunc .. | .load .. =>true
 | .slice _ _ _ _ none=>true
 | .call ⟨.builtin .len,_,_⟩| .call ⟨.builtin .cap,_,_⟩| .call ⟨.builtin .min,_,_⟩| .call ⟨.builtin .max,_,_⟩| .call ⟨.builtin .real,_,_⟩| .call ⟨.builtin .imag,_,_⟩=>true
 |_=>false
inductive Al where
 |n
 |y (a b:Sd)
structure Rg where
 all:List (Nat×Oper)
 dr:Bool
 al:Al
inductive St:Type 1 where
 |ex (c:Code) (a:cN) (k:Kt) (ρ:Ev)
 |e2 (c:Code) (a:cN) (k:Kt) (ρ:Ev)
 |cd (v:Value) (c d:Code) (a:cN) (k:Kt) (ρ:Ev)
 |ap (e:Exit) (k:Kt) (ρ:Ev)
 |bA (b:Bool) (x y:St)
 |fin (σ:dG) (K:σ.den->Heap->Prop) (ρ:Ev)
 |jp (o:Option (List cN)) (q:Option (List Code×List Code)) (l:Nat) (c:Code) (fwd:List (Nat×List cN)) (k:Kt) (ρ:Ev)
 |sc (q:Option (List Code×List Code)) (l:Nat) (σ:dG) (pre rest:List cN) (fwd:List (Nat×List cN)) (c:Code) (k:Kt) (ρ:Ev)
 |rg (os:List (Nat×Oper)) (r:Rg) (L:Hi) (k:Kt) (ρ:Ev)
 |so (o:Option Sd) (all:List (Nat×Oper)) (k:Kt) (ρ:Ev)
 |st (s:Sd) (all:List (Nat×Oper)) (dr:Bool) (L:Hi) (k:Kt) (ρ:Ev)
 |gd (g:Gd) (w:Bool) (d n:Nat) (o:Oper) (os:List (Nat×Oper)) (r:Rg) (L:Hi) (k:Kt) (ρ:Ev)
 |on (n:Nat) (o:Oper) (os:List (Nat×Oper)) (r:Rg) (L:Hi) (k:Kt) (ρ:Ev)
 |sk (n:Nat) (o:Oper) (os:List (Nat×Oper)) (r:Rg) (L:Hi) (k:Kt) (ρ:Ev)
 |rs (z:Rz) (n:Nat) (d:Option Tmp) (e:List Edge) (os:List (Nat×Oper)) (r:Rg) (L:Hi) (k:Kt) (ρ:Ev)
 |re (rs:List ResultVar) (acc:List Value) (ρ:Ev)
 |rl (z:Rz) (rs:List ResultVar) (acc:List Value) (ρ:Ev)
def bi(C:Ctx)(T:Nat->TI)(S:List (Nat×Sd))(R:Value->Heap->Prop):Nat->St->Heap->Prop
 |0,_,_=>False
 |f+1,.ex c (.join σ _ a) k ρ,h=>uX (λs h=>bi C T S R f (.ap .normal k (HR σ s ρ)) h) (λK=>bi C T S R f (.e2 c a (.jn σ K k) ρ) h)
 |f+1,.ex c .n k ρ,h=>bi C T S R f (.e2 c .n k ρ) h
 |f+1,.ex c (.two a b) k ρ,h=>bi C T S R f (.e2 c (.two a b) k ρ) h
 |f+1,.ex c (.inn a) k ρ,h=>bi C T S R f (.e2 c (.inn a) k ρ) h
 |f+1,.ex c (.loop σ κ a) k ρ,h=>bi C T S R f (.e2 c (.loop σ κ a) k ρ) h
 |f+1,.ex c (.scope l σ κ p r w) k ρ,h=>bi C T S R f (.e2 c (.scope l σ κ p r w) k ρ) h
 |f+1,.ex c (.fwd a w) k ρ,h=>bi C T S R f (.e2 c (.fwd a w) k ρ) h
 |f+1,.e2 .skip _ k ρ,h=>bi C T S R f (.ap .normal k ρ) h
 |f+1,.e2 (.label _) _ k ρ,h=>bi C T S R f (.ap .normal k ρ) h
 |f+1,.e2 (.region id ops true) _ k ρ,h=>bi C T S R f (.so (ZL id false (.l []) S) (HS ops.toList 0) k ρ) h
 |f+1,.e2 (.region _ ops false) _ k ρ,h=>bi C T S R f (.rg (HS ops.toList 0) ⟨HS ops.toList 0,false,.n⟩ [] k ρ) h
 |f+1,.e2 (.seq x y) a k ρ,h=>bi C T S R f (.ex x (Nb a) (.seq y (Nc a) k) ρ) h
 |f+1,.e2 (.cond x c d) a k ρ,h=>bi C T S R f (.cd (fc ρ x) c d a k ρ) h
 |f+1,.e2 (.block id c) a k ρ,h=>bi C T S R f (.ex c (Wg a) (.ff id k) ρ) h
 |f+1,.e2 (.exit id) _ k ρ,h=>bi C T S R f (.ap (.exit id) k ρ) h
 |f+1,.e2 (.goto l) _ k ρ,h=>bi C T S R f (.ap (.goto l) k ρ) h
 |f+1,.e2 .ret _ k ρ,h=>bi C T S R f (.ap .ret k ρ) h
 |f+1,.e2 (.loop c) (.loop σ _ a) k ρ,h=>JH (λs K h=>bi C T S R f (.ex c a (.jn σ K k) (HR σ s ρ)) h) h (JG σ ρ)
 |f+1,.e2 (.scope c) (.scope l σ _ pre rest fwd) k ρ,h=>bi C T S R f (.sc (HO c l) l σ pre rest fwd c k ρ) h
 |f+1,.e2 (.scope c) (.fwd a fwd) k ρ,h=>bi C T S R f (.ex c a (.jmp c fwd k) ρ) h
 |f+1,.cd (.bool t) c d a k ρ,h=>Br t (bi C T S R f (.ex c (Nb a) k ρ) h) (bi C T S R f (.ex d (Nc a) k ρ) h)
 |f+1,.sc (some (p,r)) l σ pre rest fwd c k ρ,h=>bi C T S R f (.ap .normal (.lst p pre (.hd l σ r rest fwd c k)) ρ) h
 |f+1,.bA true x _,h=>bi C T S R f x h
 |f+1,.bA false _ y,h=>bi C T S R f y h
 |f+1,.fin σ K ρ,h=>ZK K h (JG σ ρ)
 |f+1,.jp (some xs) (some (_,r)) _ c fwd k ρ,h=>bi C T S R f (.ap .normal (.lst r xs (.jmp c fwd k)) ρ) h
 |f+1,.jp none _ l _ _ k ρ,h=>bi C T S R f (.ap (.goto l) k ρ) h
 |f+1,.ap .normal (.top rs) ρ,h=>bi C T S R f (.re rs [] ρ) h
 |f+1,.ap .ret (.top rs) ρ,h=>bi C T S R f (.re rs [] ρ) h
 |f+1,.ap .normal (.seq c a k) ρ,h=>bi C T S R f (.ex c a k ρ) h
 |f+1,.ap (.exit i) (.seq _ _ k) ρ,h=>bi C T S R f (.ap (.exit i) k ρ) h
 |f+1,.ap (.goto i) (.seq _ _ k) ρ,h=>bi C T S R f (.ap (.goto i) k ρ) h
 |f+1,.ap .ret (.seq _ _ k) ρ,h=>bi C T S R f (.ap .ret k ρ) h
 |f+1,.ap .normal (.ff _ k) ρ,h=>bi C T S R f (.ap .normal k ρ) h
 |f+1,.ap (.exit i) (.ff id k) ρ,h=>bi C T S R f (.bA (i==id) (.ap .normal k ρ) (.ap (.exit i) k ρ)) h
 |f+1,.ap (.goto i) (.ff _ k) ρ,h=>bi C T S R f (.ap (.goto i) k ρ) h
 |f+1,.ap .ret (.ff _ k) ρ,h=>bi C T S R f (.ap .ret k ρ) h
 |f+1,.ap .normal (.jn σ K _) ρ,h=>ZK K h (JG σ ρ)
 |f+1,.ap (.exit i) (.jn _ _ k) ρ,h=>bi C T S R f (.ap (.exit i) k ρ) h
 |f+1,.ap (.goto i) (.jn _ _ k) ρ,h=>bi C T S R f (.ap (.goto i) k ρ) h
 |f+1,.ap .ret (.jn _ _ k) ρ,h=>bi C T S R f (.ap .ret k ρ) h
 |f+1,.ap .normal (.back _ _ _ k) ρ,h=>bi C T S R f (.ap .normal k ρ) h
 |f+1,.ap (.exit i) (.back _ _ _ k) ρ,h=>bi C T S R f (.ap (.exit i) k ρ) h
 |f+1,.ap (.goto i) (.back l σ K k) ρ,h=>bi C T S R f (.bA (i==l) (.fin σ K ρ) (.ap (.goto i) k ρ)) h
 |f+1,.ap .ret (.back _ _ _ k) ρ,h=>bi C T S R f (.ap .ret k ρ) h
 |f+1,.ap .normal (.lst [] _ k) ρ,h=>bi C T S R f (.ap .normal k ρ) h
 |f+1,.ap .normal (.lst (c::cs) [] k) ρ,h=>bi C T S R f (.ex c .n (.lst cs [] k) ρ) h
 |f+1,.ap .normal (.lst (c::cs) (x::xs) k) ρ,h=>bi C T S R f (.ex c x (.lst cs xs k) ρ) h
 |f+1,.ap (.exit i) (.lst _ _ k) ρ,h=>bi C T S R f (.ap (.exit i) k ρ) h
 |f+1,.ap (.goto i) (.lst _ _ k) ρ,h=>bi C T S R f (.ap (.goto i) k ρ) h
 |f+1,.ap .ret (.lst _ _ k) ρ,h=>bi C T S R f (.ap .ret k ρ) h
 |f+1,.ap .normal (.jmp _ _ k) ρ,h=>bi C T S R f (.ap .normal k ρ) h
 |f+1,.ap (.exit i) (.jmp _ _ k) ρ,h=>bi C T S R f (.ap (.exit i) k ρ) h
 |f+1,.ap (.goto l) (.jmp c fwd k) ρ,h=>bi C T S R f (.jp (acf fwd l) (HO c l) l c fwd k ρ) h
 |f+1,.ap .ret (.jmp _ _ k) ρ,h=>bi C T S R f (.ap .ret k ρ) h
 |f+1,.ap .normal (.hd l σ r as fwd c k) ρ,h=>JH (λs K h=>bi C T S R f (.ap .normal (.lst r as (.jmp c fwd (.back l σ K k))) (HR σ s ρ)) h) h (JG σ ρ)
 |f+1,.ap (.exit i) (.hd _ _ _ _ _ _ k) ρ,h=>bi C T S R f (.ap (.exit i) k ρ) h
 |f+1,.ap (.goto i) (.hd _ _ _ _ _ _ k) ρ,h=>bi C T S R f (.ap (.goto i) k ρ) h
 |f+1,.ap .ret (.hd _ _ _ _ _ _ k) ρ,h=>bi C T S R f (.ap .ret k ρ) h
 |f+1,.so none all k ρ,h=>bi C T S R f (.rg all ⟨all,true,.n⟩ [] k ρ) h
 |f+1,.so (some s) all k ρ,h=>bi C T S R f (.st s all true [] k ρ) h
 |f+1,.st (.l ns) all dr L k ρ,h=>bi C T S R f (.rg (HT all ns) ⟨all,dr,.n⟩ L k ρ) h
 |f+1,.st (.y ns a b) all dr L k ρ,h=>bi C T S R f (.rg (HT all ns) ⟨all,dr,.y a b⟩ L k ρ) h
 |f+1,.rg [] ⟨_,_,.n⟩ _ k ρ,h=>bi C T S R f (.ap .normal k ρ) h
 |f+1,.rg [] ⟨all,dr,.y a b⟩ L k ρ,h=>bi C T S R f (.st a all dr L k ρ) h/\bi C T S R f (.st b all dr L k ρ) h
 |f+1,.rg ((n,⟨d,o,t,p,e,none⟩)::os) r L k ρ,h=>bi C T S R f (.on n ⟨d,o,t,p,e,none⟩ os r L k ρ) h
 |f+1,.rg ((n,⟨d,o,t,p,e,some (j,w)⟩)::os) r L k ρ,h=>bi C T S R f (.gd (aeE ρ (ZM (np (0,⟨none,.ready 0,0, "",#[],none⟩) r.all j))) w (ZM (np (0,⟨none,.ready 0,0, "",#[],none⟩) r.all j)) n ⟨d,o,t,p,e,some (j,w)⟩ os r L k ρ) h
 |f+1,.gd (.k 0) true _ n o os r L k ρ,h=>bi C T S R f (.sk n o os r L k ρ) h
 |f+1,.gd (.k 0) false _ n o os r L k ρ,h=>bi C T S R f (.on n o os r L k ρ) h
 |f+1,.gd (.k (_+1)) true _ n o os r L k ρ,h=>bi C T S R f (.on n o os r L k ρ) h
 |f+1,.gd (.k (_+1)) false _ n o os r L k ρ,h=>bi C T S R f (.sk n o os r L k ρ) h
 |f+1,.gd (.v (.tuple _)) _ _ n o os r L k ρ,h=>bi C T S R f (.sk n o os r L k ρ) h
 |f+1,.gd (.v (.bool b)) true d n o os r L k ρ,h=>Br b (bi C T S R f (.on n o os r L k (.tf d 1::ρ)) h) (bi C T S R f (.sk n o os r L k (.tf d 0::ρ)) h)
 |f+1,.gd (.v (.bool b)) false d n o os r L k ρ,h=>Br b (bi C T S R f (.sk n o os r L k (.tf d 1::ρ)) h) (bi C T S R f (.on n o os r L k (.tf d 0::ρ)) h)
 |f+1,.on n ⟨d,o,t,_,e,_⟩ os r L k ρ,h=>bi C T S R f (.rs (acb C.P T C.tup t ρ o) n d e.toList os r L k ρ) h
 |f+1,.sk _ ⟨d,o,_,_,e,_⟩ os r L k ρ,h=>GA e.toList L h (Gz r.dr (TG T o)) (bi C T S R f (.rg os r (ach e.toList L (Gz r.dr (TG T o))) k (oh d undef ρ)) h)
 |f+1,.rs (.val v) _ d _ os r L k ρ,h=>bi C T S R f (.rg os r L k (oh d v ρ)) h
 |f+1,.rs (.cond c v) _ d _ os r L k ρ,h=>c/\bi C T S R f (.rg os r L k (oh d v ρ)) h
 |f+1,.rs (.ex X c v) _ d _ os r L k ρ,h=>∃x:X,c x/\bi C T S R f (.rg os r L k (oh d (v x) ρ)) h
 |f+1,.rs (.br b x y) _ d _ os r L k ρ,h=>Br b (bi C T S R f (.rg os r L k (oh d x ρ)) h) (bi C T S R f (.rg os r L k (oh d y ρ)) h)
 |f+1,.rs (.ld a (.sc s) _) n d _ os r L k ρ,h=>∃x:s.den,cellOf h a=some (s.enc x)/\bi C T S R f (.rg os r (TE r.dr n (.l [(a,s.enc x)]) L) k (oh d (s.enc x) ρ)) h
 |f+1,.rs (.ld a (.agg l) _) n d _ os r L k ρ,h=>∃x:Aq l,bn h a 0 (nJ l x)/\bi C T S R f (.rg os r (TE r.dr n (.l (ZO a 0 (nJ l x))) L) k (oh d (.agg (nJ l x).toArray) ρ)) h
 |f+1,.rs (.ld a (.arr s) m) n d _ os r L k ρ,h=>∃x:List s.den,(x.length=m/\bn h a 0 (x.map s.enc))/\bi C T S R f (.rg os r (TE r.dr n (.a a (x.map s.enc)) L) k (oh d (.agg (x.map s.enc).toArray) ρ)) h
 |f+1,.rs (.ru _ s) _ d e os r L k ρ,h=>au C.P s h λ_ h'=>GA e L h' r.dr (bi C T S R f (.rg os r (JI e L r.dr) k (oh d undef ρ)) h')
 |f+1,.rs (.ra s) _ d e os r L k ρ,h=>oT C.P s h λa h'=>GA e L h' r.dr (bi C T S R f (.rg os r (JI e L r.dr) k (oh d (.pointer (some a)) ρ)) h')
 |f+1,.rs (.rr s t) _ d e os r L k ρ,h=>bz C.P s t h λx h'=>GA e L h' r.dr (bi C T S R f (.rg os r (JI e L r.dr) k (oh d (t.enc x) ρ)) h')
 |f+1,.rs (.ca g l t) _ d e os r L k ρ,h=>oU C.P g l.toArray t h λx h'=>GA e L h' r.dr (bi C T S R f (.rg os r (JI e L r.dr) k (oh d (t.enc x) ρ)) h')
 |f+1,.rs (.dy g l t) _ d e os r L k ρ,h=>tV C g l t h λx h'=>GA e L h' r.dr (bi C T S R f (.rg os r (JI e L r.dr) k (oh d (t.enc x) ρ)) h')
 |f+1,.re [] [] _,h=>R (.tuple #[]) h
 |f+1,.re [] [v] _,h=>R v h
 |f+1,.re [] (v::w::r) _,h=>R (.tuple (v::w::r).toArray) h
 |f+1,.re (.tmp t::r) acc ρ,h=>bi C T S R f (.re r (rz acc [Gy ρ t]) ρ) h
 |f+1,.re (.cell a t::r) acc ρ,h=>bi C T S R f (.rl (Tz (Gy ρ a) (T t)) r acc ρ) h
 |f+1,.rl (.ld a (.sc s) _) r acc ρ,h=>∃x:s.den,cellOf h a=some (s.enc x)/\bi C T S R f (.re r (rz acc [s.enc x]) ρ) h
 |f+1,.rl (.ld a (.agg l) _) r acc ρ,h=>∃x:Aq l,bn h a 0 (nJ l x)/\bi C T S R f (.re r (rz acc [.agg (nJ l x).toArray]) ρ) h
 |f+1,.rl (.ld a (.arr s) m) r acc ρ,h=>∃x:List s.den,(x.length=m/\bn h a 0 (x.map s.enc))/\bi C T S R f (.re r (rz acc [.agg (x.map s.enc).toArray]) ρ) h
 |_+1,_,_=>False
def TH:Nat->List Value->Ev
 |_,[]=>[]
 |n,v::r=>.val n v::TH (n+1) r
theorem agA{α:Type}(l:List α):(l.toArray).toList=l:=rfl
theorem agB(a:Addr):a.add 0=a:=rfl
theorem agC(s:Sl):Sl.mk s.ptr s.len s.cap=s:=rfl
theorem aeY(A B:Prop):Br true A B=A:=rfl
theorem aeZ(A B:Prop):Br false A B=B:=rfl
end Rk
abbrev bP:=List (List UInt8)
abbrev aL:=List UInt8
abbrev ct:=List (List Int)
abbrev aB:=List Int
abbrev cj:=Option Go.Addr
abbrev aT:=List Go.Value
abbrev Aw:=Go.Value->Qw.Heap->Prop
abbrev JJ:=Go.FuncId×Array Go.Value×Array Go.Value
abbrev cN.tn(a:Qw.cN):Qw.cN:=.two .n a
universe u
theorem g9{c:Prop}{h:Decidable c}(hc:c){α:Sort u}{t e:α}:ite c t e=t:=if_pos hc
theorem hU{c:Prop}{h:Decidable c}(hnc:¬c){α:Sort u}{t e:α}:ite c t e=e:=if_neg hnc
theorem hY{p:Prop}[inst:Decidable p]:p->decide p=true:=decide_eq_true
theorem hZ{p:Prop}[inst:Decidable p]:¬p->decide p=false:=decide_eq_false
theorem ii{p:Prop}[inst:Decidable p]:decide p=true->p:=of_decide_eq_true
theorem i4{α:Sort u}{a:α}:a=a:=rfl
theorem i5{p:Prop}(h:p:=by omega):p:=h
theorem i6{p:Prop}(h:p:=by decide):p:=h
theorem i7{p:Prop}(h:p:=by dsimp only;omega):p:=h
theorem i9{p:Prop}(h:p:=by simp;omega):p:=h
theorem jj{p:Prop}(h:p:=by simp):p:=h
theorem j0{p:Prop}(h:p:=by dsimp only;rw[ai _];rfl):p:=h
theorem j1{p:Prop}(h:p:=by rw[ai _];rfl):p:=h
theorem j3{p:Prop}(h:p:=by cases e):p:=h
theorem j4{p:Prop}(h:p:=by kernel_rfl):p:=h
theorem j5{p:Prop}(h:p:=by decide+kernel):p:=h
theorem j6{p:Prop}(h:p:=by rw[ai _];omega):p:=h
theorem j7{p:Prop}(h:p:=by(try dsimp only at c);split at c<;>split at c<;>(try split at c)<;>(try split at c)<;>omega):p:=h
theorem j8{p:Prop}(h:p:=by rw[addr_add];exact hb.cell i4):p:=h
theorem j9{p:Prop}(h:p:=by simpa using h):p:=h
theorem kt{p:Prop}(h:p:=by simp[Value.cells]):p:=h
theorem k7{p:Prop}(h:p:=by simpa using a):p:=h
theorem k8{p:Prop}(h:p:=by simpa using b):p:=h
theorem k9{p:Prop}(h:p:=by cases h):p:=h
theorem lb{p:Prop}(h:p:=by rfl):p:=h
theorem lc{p:Prop}(h:p:=by simp at d;omega):p:=h
theorem ln{p:Prop}(h:p:=by simp[aI]):p:=h
theorem lx{p:Prop}(h:p:=by rw[bZ];omega):p:=h
theorem lz{p:Prop}(h:p:=by simpa using e):p:=h
theorem l0{p:Prop}(h:p:=by simpa using H):p:=h
theorem l4{p:Prop}(h:p:=by simpa using g):p:=h
theorem l5{p:Prop}(h:p:=by dsimp only;simp;omega):p:=h
theorem l6{p:Prop}(h:p:=by dsimp only;congr 1;omega):p:=h
theorem l7{p:Prop}(h:p:=by simp[bW];omega):p:=h
theorem l9{p:Prop}(h:p:=by rw[zb];omega):p:=h
theorem mn{p:Prop}(h:p:=by simp at h):p:=h
theorem mM{p:Prop}(h:p:=by rw[e1];decide):p:=h
theorem m0{p:Prop}(h:p:=by simpa using m):p:=h
theorem m4{p:Prop}(h:p:=by simpa using c):p:=h
theorem m5{p:Prop}(h:p:=by simp[cA];omega):p:=h
theorem m6{p:Prop}(h:p:=by simp[a]):p:=h
theorem m7{p:Prop}(h:p:=by simp[c]):p:=h
theorem m8{p:Prop}(h:p:=by simpa using d):p:=h
theorem m9{p:Prop}(h:p:=by rw[qq];omega):p:=h
theorem nb{p:Prop}(h:p:=by simpa using q):p:=h
theorem nq{p:Prop}(h:p:=by simp[dL];omega):p:=h
theorem n0{p:Prop}(h:p:=by simp[dJ];omega):p:=h
theorem n3{p:Prop}(h:p:=by unfold iW;rw[o.refl];rfl):p:=h
theorem n4{p:Prop}(h:p:=by rw[qd,qc (by omega)];rfl):p:=h
theorem n5{p:Prop}(h:p:=by rw[<-z];exact u.cell0 i4):p:=h
theorem n7{p:Prop}(h:p:=by simp[gr]):p:=h
theorem n8{p:Prop}(h:p:=by simp[gP]):p:=h
theorem n9{p:Prop}(h:p:=by simp[g]):p:=h
theorem oa{p:Prop}(h:p:=by simpa using e2):p:=h
theorem oi{p:Prop}(h:p:=by rw[se d];omega):p:=h
theorem oj{p:Prop}(h:p:=by rw[L];exact A):p:=h
theorem oo{p:Prop}(h:p:=by rw[qg (ql _)]):p:=h
theorem o0{p:Prop}(h:p:=by simp[b]):p:=h
theorem o4{p:Prop}(h:p:=by unfold fy;simp;omega):p:=h
theorem o5{p:Prop}(h:p:=by rw[m]):p:=h
theorem o6{p:Prop}(h:p:=by simp only at e;omega):p:=h
theorem o7{p:Prop}(h:p:=by assumption):p:=h
theorem o8{p:Prop}(h:p:=by rw[e];rfl):p:=h
theorem o9{p:Prop}(h:p:=by rw[hZ b];rfl):p:=h
theorem pa{p:Prop}(h:p:=by rw[wrap_u64];omega):p:=h
theorem pb{p:Prop}(h:p:=by simpa using f):p:=h
theorem pt{p:Prop}(h:p:=by simp[cA]):p:=h
theorem p0{p:Prop}(h:p:=by simp[f]):p:=h
theorem p5{p:Prop}(h:p:=by rw[qR];omega):p:=h
theorem p6{p:Prop}(h:p:=by simp[d]):p:=h
theorem p7{p:Prop}(h:p:=by rw[w];rfl):p:=h
theorem p8{p:Prop}(h:p:=by simp[e]):p:=h
theorem p9{p:Prop}(h:p:=by simp[iF];omega):p:=h
theorem qa{p:Prop}(h:p:=by simp[fF];omega):p:=h
theorem qb{p:Prop}(h:p:=by rw[qC];exact F):p:=h
theorem qs{p:Prop}(h:p:=by rw[p];simp):p:=h
theorem q0{p:Prop}(h:p:=by simpa using y):p:=h
theorem q6{p:Prop}(h:p:=by rw[r]):p:=h
theorem rb{p:Prop}(h:p:=by rw[ok.la];omega):p:=h
theorem sb{p:Prop}(h:p:=by simpa using w):p:=h
theorem sp{p:Prop}(h:p:=by rw[lN];omega):p:=h
theorem sz{p:Prop}(h:p:=by rw[ik];omega):p:=h
theorem sL{p:Prop}(h:p:=by rw[K];decide):p:=h
theorem tg{p:Prop}(h:p:=by simpa using j):p:=h
theorem tp{p:Prop}(h:p:=by rw[F]):p:=h
theorem tr{p:Prop}(h:p:=by simp[h]):p:=h
abbrev ql:=@Nat.le_refl
abbrev qy:=@Bool.and_eq_true
abbrev zg:=@Bool.false_eq_true
abbrev zZ:=@Bool.or_eq_true
abbrev zu:=@List.cons_append
abbrev qk:=@List.getElem?_eq_some_iff
abbrev qP:=@List.getElem?_map
abbrev ze:=@List.length_cons
abbrev wb:=@List.mem_append_right
abbrev qX:=@List.mem_cons
abbrev qD:=@List.mem_cons_of_mem
abbrev qM:=@List.mem_cons_self
abbrev qu:=@List.mem_singleton
abbrev qQ:=@Option.map_some
abbrev w5:=@Nat.add_assoc
abbrev zn:=@Nat.add_sub_cancel_left
abbrev w9:=@Nat.add_zero
abbrev qT:=@Nat.le_trans
abbrev qZ:=@Nat.lt_of_lt_of_le
abbrev zd:=@Nat.lt_succ_iff_lt_or_eq
abbrev yh:=@Nat.lt_trichotomy
abbrev wE:=@Nat.min_eq_left
abbrev vZ:=@Nat.min_le_right
abbrev y7:=@Nat.mod_lt
abbrev wy:=@Nat.mul_le_mul
abbrev zD:=@Nat.mul_le_mul_right
abbrev qW:=@Nat.sub_self
abbrev zP:=@Nat.succ_mul
abbrev wm:=@Nat.zero_add
abbrev yU:=@Array.ext_getElem?
abbrev wJ:=@Array.getElem?_modify
abbrev qJ:=@List.all_eq_true
abbrev qn:=@List.append_assoc
abbrev qE:=@List.append_nil
abbrev zI:=@List.drop_drop
abbrev qK:=@List.drop_eq_getElem_cons
abbrev zc:=@List.drop_of_length_le
abbrev q9:=@List.eq_nil_of_length_eq_zero
abbrev yp:=@List.exists_mem_of_ne_nil
abbrev we:=@List.ext_getElem
abbrev zq:=@List.ext_getElem?
abbrev zl:=@List.filter_append
abbrev zo:=@List.filter_cons
abbrev wT:=@List.filter_eq_nil_iff
abbrev wu:=@List.find?_eq_none
abbrev qY:=@List.flatMap_append
abbrev za:=@List.flatMap_cons
abbrev z6:=@List.foldl_append
abbrev zy:=@List.foldl_cons
abbrev wQ:=@List.foldl_nil
abbrev qd:=@List.getD_eq_getElem?_getD
abbrev qm:=@List.getElem?_append_left
abbrev qh:=@List.getElem?_append_right
abbrev qp:=@List.getElem?_cons_succ
abbrev wP:=@List.getElem?_drop
abbrev qc:=@List.getElem?_eq_getElem
abbrev qI:=@List.getElem?_eq_none
abbrev qU:=@List.getElem?_set
abbrev zF:=@List.getElem?_set_ne
abbrev zk:=@List.getElem?_set_self
abbrev zU:=@List.getElem?_toArray
abbrev zH:=@List.getElem?_zipWith
abbrev wz:=@List.getElem_drop
abbrev qf:=@List.getElem_mem
abbrev qB:=@List.getElem_of_mem
abbrev qw:=@List.length_append
abbrev zb:=@List.length_drop
abbrev qq:=@List.length_map
abbrev wv:=@List.length_mergeSort
abbrev zt:=@List.length_range
abbrev zC:=@List.length_set
abbrev qR:=@List.length_take
abbrev qz:=@List.mem_append
abbrev qF:=@List.mem_filter
abbrev zE:=@List.mem_flatMap
abbrev qo:=@List.mem_map
abbrev zr:=@List.mem_of_mem_take
abbrev qA:=@List.mem_range
abbrev wV:=@List.mergeSort_perm
abbrev zV:=@List.nil_append
abbrev yd:=@List.pairwise_append
abbrev zK:=@List.pairwise_cons
abbrev zj:=@List.pairwise_iff_getElem
abbrev y5:=@List.range_eq_range'
abbrev zB:=@List.range_succ
abbrev yy:=@List.set_set
abbrev wW:=@List.size_toArray
abbrev qC:=@List.take_append_drop
abbrev qN:=@List.take_length
abbrev qg:=@List.take_of_length_le
abbrev zJ:=@List.take_succ_eq_append_getElem
abbrev yM:=@List.zipWith_append
abbrev wZ:=@Bool.not_false
abbrev zX:=@Bool.true_and
abbrev wD:=@Int.emod_lt_of_pos
abbrev ym:=@Int.emod_nonneg
abbrev yi:=@Int.fdiv_eq_ediv_of_nonneg
abbrev vL:=@Int.tmod_lt_of_pos
abbrev qj:=@Int.toNat_natCast
abbrev yJ:=@UInt8.toNat_inj
abbrev z7:=@UInt8.xor_zero
abbrev wF:=@UInt8.zero_xor
abbrev yc:=@BitVec.ofInt_natCast
abbrev wo:=@List.any_eq_false
abbrev wg:=@List.any_eq_true
abbrev wx:=@List.filter_eq_self
abbrev wq:=@List.findIdx_lt_length
abbrev w8:=@List.getElem_append_left
abbrev qS:=@List.length_filter_le
abbrev qL:=@List.map_append
abbrev zO:=@List.map_cons
abbrev wL:=@List.map_map
abbrev zR:=@List.mem_append_left
abbrev ya:=@List.mem_replicate
abbrev yn:=@List.nodup_cons
abbrev wK:=@Bool.not_eq_true'
abbrev yf:=@Bool.not_true
abbrev vz:=@UInt8.xor_comm
abbrev yz:=@Option.isSome_iff_exists
abbrev w7:=@Int.mul_le_mul
abbrev vT:=@Int.mul_nonneg
abbrev wG:=@Int.natCast_mul
abbrev vo:=@Int.ofNat_inj
abbrev yW:=@Int.tmod_eq_emod_of_nonneg
abbrev yZ:=@List.all_append
abbrev yE:=@List.all_eq_false
abbrev y0:=@List.any_append
abbrev vl:=@List.filter_nil
abbrev zS:=@List.flatMap_nil
abbrev zm:=@List.getElem?_range
abbrev zT:=@List.getElem?_replicate
abbrev yk:=@List.getElem_take
abbrev yS:=@List.getElem_zip
abbrev yo:=@List.length_nil
abbrev yV:=@List.map_mergeSort
abbrev wC:=@List.mem_mergeSort
abbrev zY:=@List.mem_of_getElem?
abbrev yl:=@List.replicate_succ
abbrev qV:=@List.set_append_right
abbrev zw:=@List.set_cons_succ
abbrev zp:=@List.set_cons_zero
abbrev wN:=@Nat.mul_one
abbrev zi:=@Nat.zero_le
abbrev vn:=@Bool.false_or
abbrev vd:=@Prod.ext
abbrev z8:=@Int.natCast_nonneg
abbrev yP:=@Int.ofNat_le
abbrev wh:=@List.getElem_map
abbrev vk:=@List.map_nil
abbrev yj:=@List.pairwise_map
abbrev yw:=@List.not_mem_nil
abbrev y9:=@List.replicate_zero
abbrev yC:=@Int.le_refl
abbrev yu:=@List.drop_length
end Go.Qw
