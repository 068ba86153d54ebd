/- Lemmas for the proof of the law; no condition. -/
import Derived.Calls
import Derived.Orders
import Derived.Scope
import Derived.KernelRfl
import Derived.Laws.Sem
import Derived.OrdersHeld
set_option linter.unusedVariables false
set_option linter.unusedSimpArgs false
open Nat renaming beq -> wG, ble -> xl, blt -> vT, eq_of_beq_eq_true -> zM, le_of_ble_eq_true -> zL, le_refl -> qm
open Bool renaming and_eq_true -> qB, false_eq_true -> zj, or_eq_false_iff -> yt, or_eq_true -> wo, or_false -> xh
open List renaming cons_append -> zy, getElem?_eq_some_iff -> qn, getElem?_map -> qT, length_cons -> zn, mem_append_right -> wV, mem_cons -> zb, mem_cons_of_mem -> qG, mem_cons_self -> qN, mem_singleton -> qC
open BitVec renaming ofInt -> qD
open Go.IntKind renaming i64 -> xx
open Go.Instr renaming build -> vU, fill -> wB, loadAt -> vZ, slice -> xo, sliceAt -> yo, sliceBound -> vQ, sliceBounds -> wD
open Option renaming map_eq_some_iff -> vb, map_some -> qZ, some -> zR
open Array renaming ext' -> yD, mapM_eq_mapM_toList -> vp, replicate -> vA, toList_map -> vR
namespace Go.Vc
open Go
abbrev Heap:=Array Obj
def cellOf(h:Heap)(a:Addr):Option Value:=
 match h[a.block]? with
 |some (.cells c _ _)=>if a.spot.isSome then none else c[a.off]?
 |_=>none
def Yr(h:Heap)(a:Addr):Bool:=
 match h[a.block]? with
 |some (.cells _ _ (lo,hi))=>lo<=a.off&&a.off<hi
 |_=>false
def Ys(h:Heap)(a:Addr)(v:Value):Heap:=
 h.modify a.block λ
  | .cells c elem frozen=>.cells (if a.spot.isSome then c else c.setIfInBounds a.off v) elem frozen
  |o=>o
def shapeOf(h:Heap)(r:Nat):Option (TypeId×Nat):=match h[r]? with|some (.cells c elem _)=>some (elem,c.size)|_=>none
theorem adQ(w:World)(r:Nat):w.shape? r=shapeOf w.heap r:=rfl
theorem OJ(w:World)(a:Addr):w.cell? a=cellOf w.heap a:=rfl
theorem agN(w:World)(a:Addr):w.frozen? a=Yr w.heap a:=rfl
theorem agO(w:World)(a:Addr)(v:Value):(w.setCell a v).heap=Ys w.heap a v:=rfl
structure dE (w w':World):Prop where
 os:w'.os=w.os
 tape:w'.tape=w.tape
 output:w'.output=w.output
 drawn:w.drawn<=w'.drawn
theorem dE.refl(w:World):dE w w:=⟨rfl,rfl,rfl,qm _⟩
theorem dE.trans{a b c:World}(h:dE a b)(k:dE b c):dE a c:=⟨k.os.trans h.os,k.tape.trans h.tape,k.output.trans h.output,Nat.le_trans h.drawn k.drawn⟩
def ac(P:Program)(f:FuncId)(args:Array Value)(h:Heap)(R:Value->Heap->Prop):Prop:=
 ∀w,w.heap=h->Calls P f args w λe w'=>∃v,e=.returned v/\dE w w'/\R v w'.heap
theorem ac.mono{P:Program}{f:FuncId}{args:Array Value}{h:Heap}{R a:Value->Heap->Prop}(b:ac P f args h R)
  (g:∀v h',R v h'->a v h'):ac P f args h a:=λw c=>
 (b w c).mono λ_ _ ⟨v,e,d,r⟩=>⟨v,e,d,g _ _ r⟩
def ag{α:Type}(P:Program)(s:Sem α)(h:Heap)(K:α->Heap->Prop):Prop:=
 ∀w,w.heap=h->∃v w',s.run P w=.ok v w'/\dE w w'/\K v w'.heap
section
variable {α β:Type} {P:Program} {h:Heap}
theorem ag.pure'{K:α->Heap->Prop}{a:α}(b:K a h):ag P (Pure.pure a) h K:=λw c=>⟨a,w,rfl,dE.refl w,by rw[c];exact b⟩
theorem ag.bind{s:Sem α}{f:α->Sem β}{K:β->Heap->Prop}(e:ag P s h λv h'=>ag P (f v) h' K):ag P (s>>=f) h K:=by intro w j;obtain⟨v,w',l,k,i⟩:=e w j;obtain⟨g,b,c,d,a⟩:=i w' rfl;exact⟨g,b,by rw[Sem.run_bind,l];exact c,k.trans d,a⟩
theorem ag.mono{s:Sem α}{K d:α->Heap->Prop}(e:ag P s h K)(f:∀v h',K v h'->d v h'):ag P s h d:=λw g=>
 let⟨v,w',a,b,c⟩:=e w g;⟨v,w',a,b,f _ _ c⟩
theorem ag.adR{K:Program->Heap->Prop}(a:K P h):ag P program h K:=λw b=>⟨P,w,rfl,dE.refl w,by rw[b];exact a⟩
theorem ag.ahZ{a:Addr}{v v0:Value}{m:Mode}{K:Unit->Heap->Prop}(c:v.oneCell'=true)(e:cellOf h a=some v0)(d:Yr h a=false)(f:K () (Ys h a v)):
  ag P (store a v m) h K:=λw b=>
 ⟨(),w.setCell a v,by rw[run_store _ _ _ _ _ c,OJ,b,e];simp[agN,b,d],⟨rfl,rfl,rfl,qm _⟩,by rw[agO,b];exact f⟩
theorem ag.sN{o:Obj}{K:Nat->Heap->Prop}(a:K h.size (h.push o)):ag P (newObj o) h K:=λw b=>
 ⟨w.heap.size,_,run_newObj P w o,⟨rfl,rfl,rfl,qm _⟩,by simp only[b];exact a⟩
theorem ag.KU{n:Nat}{K:Unit->Heap->Prop}(a:K () h):ag P (askRoom n) h K:=λw b=>⟨(),w,run_askRoom P w n,dE.refl w,by rw[b];exact a⟩
theorem ag.OK{q:Question}{K:Nat->Heap->Prop}(a:(q.forced=true->K 0 h)/\(q.forced=false->∀n,K (q.cut n) h)):ag P (choose q) h K:=by
 intro w b;cases hq:q.forced with
 |true=>exact⟨0,w,by rw[run_choose,hq];rfl,dE.refl w,by rw[b];exact a.1 hq⟩
 |false=>exact⟨q.cut (w.tape w.drawn q),{w with drawn:=w.drawn+1},by rw[run_choose,hq];rfl,⟨rfl,rfl,rfl,Nat.le_succ _⟩,by show K _ w.heap;rw[b];exact a.2 hq _⟩
theorem ag.aia{r:Nat}{K:Option (TypeId×Nat)->Heap->Prop}(b:K (shapeOf h r) h):ag P (shape r) h K:=λw a=>
 ⟨_,w,run_shape P w r,dE.refl w,by rw[a,adQ,a];exact b⟩
end
def Dg(P:Program)(s:Sem Next)(h:Heap)(K:Value->Heap->Prop):Prop:=
 ag P s h λa h'=>match a with
  | .value v=>K v h'
  | .skip=>K undef h'
  | .enter f args=>ac P f args h' K
  |_=>False
theorem ajG{P:Program}{o:Oper}{a:Act}{w:World}{K:Value->Heap->Prop}{Q:Exit->Act->World->Prop}
  (i:Dg P (execOp a.eval o) w.heap K) {next:Act->World->Prop}
  (c:∀v w',dE w w'->K v w'.heap->next (a.put o.dst v) w'):o.wp P a w next Q:=by
 obtain⟨j,w',k,d,b⟩:=i w rfl;unfold Oper.wp;rw[k];cases j<;>simp only at b<;>simp only[Oper.upon]
 case value v=>exact c _ _ d b
 case skip=>exact c _ _ d b
 case enter f args=>
  refine(b w' rfl).mono ?_;rintro e h ⟨v,rfl,g,r⟩;exact c _ _ (d.trans g) r
structure Sl where
 ptr:Option Addr
 len:Nat
 cap:Nat
 deriving Inhabited
inductive Sc where
 |int (k:IntKind)|bool|str|ptr|slc|flt (k:FloatKind)|cpx (k:FloatKind)|mp|fn|any|adr
@[reducible] def Sc.den:Sc->Type
 | .int _=>Int
 | .bool=>Bool
 | .str=>ByteArray
 | .ptr=>Option Addr
 | .slc=>Sl
 | .flt _=>Nat
 | .cpx _=>Nat×Nat
 | .mp=>Option Nat
 | .fn=>FuncId×Array Value×Array Value
 | .any=>Value
 | .adr=>Addr
@[reducible] def Sc.enc:(s:Sc)->s.den->Value
 | .int k,n=>.int k n
 | .bool,x=>.bool x
 | .str,x=>.string x
 | .ptr,a=>.pointer a
 | .slc,x=>.slice x.ptr x.len x.cap
 | .flt k,n=>.float k n
 | .cpx k,x=>.complex k x.1 x.2
 | .mp,r=>.map r
 | .fn,x=>.func (.func x.1) x.2.1 x.2.2
 | .any,v=>v
 | .adr,a=>.pointer (some a)
def Dh:IntKind->IntKind->Bool
 | .i8,.i8| .i16,.i16| .i32,.i32| .i64,.i64| .u8,.u8| .u16,.u16| .u32,.u32| .u64,.u64=>true
 |_,_=>false
theorem Kd:∀{a b:IntKind},Dh a b=true->a=b:=by intro a b;cases a<;>cases b<;>simp[Dh]
def GK:FloatKind->FloatKind->Bool
 | .f32,.f32| .f64,.f64=>true
 |_,_=>false
theorem GL:∀{a b:FloatKind},GK a b=true->a=b:=by intro a b;cases a<;>cases b<;>simp[GK]
def Sc.dec:(s:Sc)->Value->Option s.den
 | .int k,.int k' n=>bif Dh k k' then some n else none
 | .bool,.bool x=>some x
 | .str,.string x=>some x
 | .ptr,.pointer a=>some a
 | .slc,.slice a l c=>some ⟨a,l,c⟩
 | .flt k,.float k' n=>bif GK k k' then some n else none
 | .cpx k,.complex k' a b=>bif GK k k' then some (a,b)else none
 | .mp,.map r=>some r
 | .fn,.func (.func g) f c=>some (g,f,c)
 | .any,v=>some v
 | .adr,.pointer (some a)=>some a
 |_,_=>none
theorem Sc.sO{s:Sc}{v:Value}{x:s.den}(h:s.dec v=some x):v=s.enc x:=by
 cases s<;>cases v<;>simp only[Sc.dec]at h<;>try(first|(cases h;done)|(cases h;rfl))
 case int.int k k' n=>
  cases hk:Dh k k'<;>simp[hk]at h;have:=Kd hk;subst this;subst h;rfl
 case flt.float k k' n=>
  cases hk:GK k k'<;>simp[hk]at h;have:=GL hk;subst this;subst h;rfl
 case cpx.complex k k' a b=>
  cases hk:GK k k'<;>simp[hk]at h;have:=GL hk;subst this;subst h;rfl
 case fn.func g f c=>
  cases g<;>first|(cases h;done)|skip
  obtain⟨l⟩:=f;cases l<;>first|(cases h;done)|(cases h;rfl)
 case adr.pointer a=>
  cases a<;>first|(cases h;done)|(cases h;rfl)
@[reducible] def OL:List Sc->Type
 |[]=>Unit
 |[s]=>s.den
 |s::t::r=>s.den×OL (t::r)
@[reducible] def Cu:(l:List Sc)->OL l->List Value
 |[],_=>[]
 |[s],x=>[s.enc x]
 |s::t::r,x=>s.enc x.1::Cu (t::r) x.2
def Yt:(l:List Sc)->List Value->Option (OL l)
 |[],[]=>some ()
 |[s],[v]=>s.dec v
 |s::t::r,v::vs=>match s.dec v with
  |some x=>match Yt (t::r) vs with
   |some y=>some (x,y)
   |none=>none
  |none=>none
 |_,_=>none
theorem aaI:∀{l:List Sc} {vs:List Value} {x:OL l},Yt l vs=some x->vs=Cu l x:=by
 intro l vs
 fun_induction Yt l vs with
 |case1=>intro x _;rfl
 |case2 s v=>intro x h;simp only[Cu];rw[Sc.sO h]
 |case3 s t r v vs x hx y hy ih=>intro z h;cases h;simp only[Cu];rw[Sc.sO hx,ih hy]
 |case4=>intro x h;cases h
 |case5=>intro x h;cases h
 |case6=>intro x h;cases h
inductive Ty where
 |sc (s:Sc)
 |agg (l:List Sc)
 |arr (s:Sc)
@[reducible] def Ty.den:Ty->Type
 | .sc s=>s.den
 | .agg l=>OL l
 | .arr s=>List s.den
@[reducible] def Ty.enc:(t:Ty)->t.den->Value
 | .sc s,x=>s.enc x
 | .agg l,x=>.agg (Cu l x).toArray
 | .arr s,x=>.agg (x.map s.enc).toArray
def Ty.dec:(t:Ty)->Value->Option t.den
 | .sc s,v=>s.dec v
 | .agg l,.agg ⟨cs⟩=>Yt l cs
 |_,_=>none
theorem Ty.sO{t:Ty}{v:Value}{x:t.den}(h:t.dec v=some x):v=t.enc x:=by
 unfold Ty.dec at h;split at h
 ·exact Sc.sO h
 ·have:=aaI h;subst this;rfl
 ·cases h
@[reducible] def Yu:List Ty->Type
 |[]=>Unit
 |[s]=>s.den
 |s::t::r=>s.den×Yu (t::r)
@[reducible] def afT:(l:List Ty)->Yu l->List Value
 |[],_=>[]
 |[s],x=>[s.enc x]
 |s::t::r,x=>s.enc x.1::afT (t::r) x.2
inductive Rt where
 |one (t:Ty)
 |many (l:List Ty)
@[reducible] def Rt.den:Rt->Type
 | .one t=>t.den
 | .many l=>Yu l
@[reducible] def Rt.enc:(r:Rt)->r.den->Value
 | .one t,x=>t.enc x
 | .many l,x=>.tuple (afT l x).toArray
inductive cv where
 |val (t:Nat) (x:Value)
 |kil (lo hi:Nat)
abbrev Env:=List cv
def cv.fc:cv->Nat->Bool
 | .val s _,t=>wG s t
 | .kil lo hi,t=>xl lo t&&vT t hi
def Env.get:Env->Nat->Option Value
 |[],_=>none
 | .val s x::r,t=>bif wG s t then some x else Env.get r t
 | .kil lo hi::r,t=>bif xl lo t&&vT t hi then none else Env.get r t
def Env.fc:Env->Nat->Bool
 |[],_=>false
 |e::r,t=>e.fc t||Env.fc r t
theorem Env.adS(e:cv)(r:Env)(t:Nat)(h:e.fc t=false):Env.get (e::r) t=Env.get r t:=by
 cases e<;>simp only[cv.fc]at h<;>simp[Env.get,h]
theorem Env.get_append{δ ρ:Env}{t:Nat}(h:δ.fc t=false):Env.get (δ++ρ) t=Env.get ρ t:=by
 induction δ with
 |nil=>rfl
 |cons e r ih=>
  simp only[Env.fc,yt]at h;rw[zy,Env.adS _ _ _ h.1,ih h.2]
theorem Env.Cv{δ ρ:Env}{t:Nat}:Env.fc (δ++ρ) t=(δ.fc t||ρ.fc t):=by
 induction δ with
 |nil=>simp[Env.fc]
 |cons e r ih=>simp[Env.fc,ih,Bool.or_assoc]
structure Fits (n:Nat) (a:Act) (ρ:Env):Prop where
 size:a.tmps.size=n
 defers:a.defers=[]
 get:∀t x,ρ.get t=some x->a.tmps[t]?=some x
def Ext(ρ c:Env)(a b:Act):Prop:=∃δ:Env,c=δ++ρ/\∀t,δ.fc t=false->b.tmps[t]?=a.tmps[t]?
theorem Ext.refl(ρ:Env)(a:Act):Ext ρ ρ a a:=⟨[],rfl,λ_ _=>rfl⟩
theorem Ext.trans{ρ f c:Env}{a e b:Act}(h:Ext ρ f a e)(k:Ext f c e b):Ext ρ c a b:=by obtain⟨δ,rfl,h⟩:=h;obtain⟨g,rfl,k⟩:=k;refine⟨g++δ,by simp,λt d=>?_⟩;rw[Env.Cv,yt]at d;rw[k t d.1,h t d.2]
def Env.eval(ρ:Env):Operand->Option Value
 | .tmp t=>ρ.get t
 | .const v=>some v
 | .global g=>some (.pointer (some ⟨g,0,none⟩))
 | .func f=>some (.func (.func f) #[] #[])
theorem Fits.eval{n:Nat}{a:Act}{ρ:Env}(h:Fits n a ρ){x:Operand}{v:Value}(b:ρ.eval x=some v):a.eval x=v:=by
 cases x<;>simp only[Env.eval]at b<;>simp only[Act.eval]
 case tmp t=>have:=h.get t v b;simp[Array.getD_eq_getD_getElem?,this]
 all_goals (injection b)
theorem Fits.put{n:Nat}{a:Act}{ρ:Env}(h:Fits n a ρ){d:Nat}(f:vT d n=true)(v:Value):Fits n (a.put (some d) v) (.val d v::ρ):=by
 have c:d<n:=zL f;refine⟨by simp[Act.put,h.size],h.defers,λt x b=>?_⟩;simp only[Env.get]at b;simp only[Act.put,Array.getElem?_setIfInBounds];cases hb:wG d t with
 |true=>
  rw[hb]at b;have:d=t:=zM hb;subst this;simp at b;simp[h.size,c,b]
 |false=>
  rw[hb]at b;have:d≠t:=λe=>by subst e;simp at hb
  simp only[this,if_false];exact h.get t x b
theorem Ext.put{ρ:Env}{a:Act}{d:Nat}(v u:Value):Ext ρ (.val d u::ρ) a (a.put (some d) v):=by
 refine⟨[.val d u],rfl,λt b=>?_⟩;simp only[Env.fc,cv.fc,xh]at b;have:d≠t:=λe=>by subst e;simp at b
 simp[Act.put,this]
abbrev dY:=List (Nat×Ty)
@[reducible] def dY.den:dY->Type
 |[]=>Unit
 |[s]=>s.2.den
 |s::t::r=>s.2.den×dY.den (t::r)
def dY.vals:(σ:dY)->σ.den->Env->Env
 |[],_,ρ=>ρ
 |[s],x,ρ=>.val s.1 (s.2.enc x)::ρ
 |s::t::r,x,ρ=>.val s.1 (s.2.enc x.1)::dY.vals (t::r) x.2 ρ
def dY.read:(σ:dY)->Env->Option σ.den
 |[],_=>some ()
 |[s],ρ=>match ρ.get s.1 with
  |some v=>s.2.dec v
  |none=>none
 |s::t::r,ρ=>match ρ.get s.1 with
  |some v=>match s.2.dec v with
   |some x=>match dY.read (t::r) ρ with
    |some y=>some (x,y)
    |none=>none
   |none=>none
  |none=>none
def dY.has:dY->Nat->Bool
 |[],_=>false
 |s::r,t=>wG s.1 t||dY.has r t
abbrev dt:=List (Nat×Nat)
def dt.over:dt->Env->Env
 |[],ρ=>ρ
 |(lo,hi)::r,ρ=>.kil lo hi::dt.over r ρ
def dt.has:dt->Nat->Nat->Bool
 |[],_,_=>false
 |(lo,hi)::r,a,b=>(xl lo a&&xl b hi)||dt.has r a b
def within(σ:dY)(κ:dt):Env->Nat->Bool
 |_,0=>true
 |[],_+1=>true
 | .val t _::r,n+1=>(dY.has σ t||dt.has κ t (t+1))&&within σ κ r n
 | .kil lo hi::r,n+1=>dt.has κ lo hi&&within σ κ r n
theorem dt.adT{κ:dt}{a b:Nat}(h:κ.has a b=true){t:Nat}(f:a<=t)(e:t<b)(ρ:Env):∃δ:Env,κ.over ρ=δ++ρ/\δ.fc t=true:=by
 induction κ with
 |nil=>simp[dt.has]at h
 |cons p r ih=>
  obtain⟨d,c⟩:=p;simp only[dt.has,wo,qB]at h;obtain⟨δ,g⟩:∃δ:Env,dt.over r ρ=δ++ρ:=by
   clear ih h
   induction r with
   |nil=>exact⟨[],rfl⟩
   |cons q r ih=>obtain⟨δ,h⟩:=ih;exact⟨.kil q.1 q.2::δ,by show cv.kil q.1 q.2::dt.over r ρ=_;rw[h];rfl⟩
  rcases h with h|h
  ·have k:=zL h.1;have l:=zL h.2;refine⟨.kil d c::δ,by simp[dt.over,g],?_⟩;have j:xl d t=true:=Nat.ble_eq_true_of_le (by omega);have x2:vT t c=true:=by unfold vT;exact Nat.ble_eq_true_of_le (by omega)
   simp[Env.fc,cv.fc,j,x2]
  ·obtain⟨i,f,e⟩:=ih h;exact⟨.kil d c::i,by simp[dt.over,f],by simp[Env.fc,e]⟩
theorem dt.SH(κ:dt)(ρ:Env):κ.over ρ=κ.over []++ρ:=by
 induction κ with
 |nil=>rfl
 |cons p r ih=>obtain⟨b,a⟩:=p;simp[dt.over,ih]
theorem dY.KV:∀(σ:dY) (x:σ.den) (ρ:Env),σ.vals x ρ=σ.vals x []++ρ
 |[],_,ρ=>rfl
 |[s],x,ρ=>rfl
 |s::t::r,x,ρ=>by simp only[dY.vals];rw[dY.KV (t::r) x.2 ρ];rfl
theorem dY.BC:∀(σ:dY) (x:σ.den) (t:Nat),(σ.vals x []).fc t=σ.has t
 |[],_,_=>rfl
 |[s],x,t=>by simp[dY.vals,Env.fc,cv.fc,dY.has]
 |s::u::r,x,t=>by
  have:=dY.BC (u::r) x.2 t;simp only[dY.vals,Env.fc,cv.fc,this];rfl
theorem dY.SI:∀(σ:dY) (x:σ.den) (e:Env) (t:Nat),σ.has t=true->((σ.vals x [])++e).get t=(σ.vals x []).get t
 |[],_,_,_,h=>by cases h
 |[s],x,e,t,h=>by
  simp only[dY.has,xh]at h;simp[dY.vals,Env.get,h]
 |s::u::r,x,e,t,h=>by
  simp only[dY.vals,zy,Env.get];cases hb:wG s.1 t with
  |true=>rfl
  |false=>
   have h':dY.has (u::r) t=true:=by have a:(wG s.1 t||dY.has (u::r) t)=true:=h;rw[hb]at a;exact a
   simpa using dY.SI (u::r) x.2 e t h'
theorem dt.Qc{κ:dt}{a b t:Nat}(h:κ.has a b=true)(f:a<=t)(e:t<b):(κ.over []).fc t=true:=by obtain⟨δ,c,d⟩:=dt.adT h f e [];rw[c];simpa using d
theorem cm{σ:dY}{κ:dt}:∀{δ ρ:Env},within σ κ (δ++ρ) δ.length=true->∀t,σ.has t=false->(κ.over []).fc t=false->δ.fc t=false
 |[],_,_,_,_,_=>rfl
 | .val s x::r,ρ,h,t,h1,h2=>by
  simp only[zy,zn,within,qB,wo]at h;simp only[Env.fc,cv.fc,yt];refine⟨?_,cm h.2 t h1 h2⟩;cases hb:wG s t with
  |false=>rfl
  |true=>
   have:s=t:=zM hb;subst this;rcases h.1 with h|h
   ·rw[h]at h1;cases h1
   ·rw[dt.Qc h (qm _) (Nat.lt_succ_self _)]at h2;cases h2
 | .kil lo hi::r,ρ,h,t,h1,h2=>by
  simp only[zy,zn,within,qB]at h;simp only[Env.fc,cv.fc,yt];refine⟨?_,cm h.2 t h1 h2⟩;cases hb:(xl lo t&&vT t hi)with
  |false=>rfl
  |true=>
   simp only[qB]at hb;have a:=zL hb.1;have b:t<hi:=zL hb.2;rw[dt.Qc h.1 a b]at h2;cases h2
theorem dY.SJ:∀{σ:dY} {ρ:Env} {x:σ.den} {t:Nat} {v:Value},σ.read ρ=some x->(σ.vals x []).get t=some v->ρ.get t=some v∨False
 |[],_,_,_,_,_,h=>by simp[dY.vals,Env.get]at h
 |[s],ρ,x,t,v,h,hv=>by
  simp only[dY.read]at h;split at h
  ·rename_i u a;simp only[dY.vals,Env.get]at hv;cases hb:wG s.1 t with
   |true=>
    rw[hb]at hv;have:=zM hb;simp at hv;subst hv;rw[<-Ty.sO h,<-this];exact .inl a
   |false=>rw[hb]at hv;simp at hv
  ·cases h
 |s::u::r,ρ,x,t,v,h,hv=>by
  simp only[dY.read]at h;split at h
  ·rename_i z d;split at h
   ·rename_i y b;split at h
    ·rename_i w c;cases h;simp only[dY.vals,Env.get]at hv;cases hb:wG s.1 t with
     |true=>
      rw[hb]at hv;have:=zM hb;simp at hv;subst hv;rw[<-Ty.sO b,<-this];exact .inl d
     |false=>
      rw[hb]at hv;exact dY.SJ (σ:=u::r) c hv
    ·cases h
   ·cases h
  ·cases h
theorem Fits.sP{n:Nat}{a d:Act}{σ:dY}{κ:dt}{ρ g:Env}{x:σ.den}(k:Fits n a ρ)(h:Fits n d g)
  (b:∀t,σ.has t=false->(κ.over []).fc t=false->d.tmps[t]?=a.tmps[t]?) (i:σ.read g=some x):
  Fits n d (σ.vals x (κ.over ρ))/\Ext ρ (σ.vals x (κ.over ρ)) a d:=by
 rw[dY.KV,dt.SH];refine⟨⟨h.size,h.defers,λt v c=>?_⟩,⟨σ.vals x []++κ.over [],by simp,λt f=>?_⟩⟩
 ·cases h1:σ.has t with
  |true=>
   have:∀(e:Env),((σ.vals x [])++e).get t=(σ.vals x []).get t:=λe=>dY.SI σ x e t h1;rw[this]at c;rcases dY.SJ i c with h2|h2
   ·exact h.get t v h2
   ·exact h2.elim
  |false=>
   rw[Env.get_append (by rw[dY.BC];exact h1)]at c;cases h2:(κ.over []).fc t with
   |true=>
    have:∀(e:Env),((κ.over [])++e).get t=none:=by
     intro e;clear b c
     induction κ with
     |nil=>simp[dt.over,Env.fc]at h2
     |cons p r ih=>
      obtain⟨l,j⟩:=p;simp only[dt.over,Env.fc,cv.fc]at h2;simp only[dt.over,zy,Env.get];cases hb:(xl l t&&vT t j)with
      |true=>rfl
      |false=>rw[hb]at h2;simp at h2;simpa using ih h2
    rw[this]at c;cases c
   |false=>
    rw[Env.get_append h2]at c;rw[b t h1 h2];exact k.get t v c
 ·rw[Env.Cv,yt,dY.BC]at f;exact b t f.1 f.2
theorem Ext.within{a e:Act}{σ:dY}{κ:dt}{ρ c:Env}(f:Ext ρ c a e)(d:within σ κ c (c.length-ρ.length)=true):
  ∀t,σ.has t=false->(κ.over []).fc t=false->e.tmps[t]?=a.tmps[t]?:=by
 obtain⟨δ,rfl,h⟩:=f;have b:(δ++ρ).length-ρ.length=δ.length:=by simp
 rw[b]at d;exactλt i g=>h t (cm d t i g)
theorem Ext.sP{a c:Act}{σ:dY}{κ:dt}{ρ:Env}{x:σ.den}(g:Ext ρ (σ.vals x (κ.over ρ)) a c):
  ∀t,σ.has t=false->(κ.over []).fc t=false->c.tmps[t]?=a.tmps[t]?:=by
 obtain⟨δ,b,e⟩:=g;rw[dY.KV,dt.SH,<-List.append_assoc]at b;have:=List.append_cancel_right b;subst this;exactλt f d=>e t (by rw[Env.Cv,dY.BC,f,d];rfl)
inductive FF where
 |int (k:IntKind)|bool|str|flt|cpx|mp|fn|other
 |slice (e:TypeId)|array (n:Nat) (e:TypeId)|struct (fs:List (Nat×TypeId))|ptr (e:TypeId)
def jm:Option TypeDesc->FF
 |some (.int k)=>.int k
 |some .bool=>.bool
 |some .string=>.str
 |some (.float _)=>.flt
 |some (.complex _)=>.cpx
 |some (.map ..)=>.mp
 |some (.func ..)=>.fn
 |some (.slice e)=>.slice e
 |some (.array n e)=>.array n e
 |some (.struct fs)=>.struct (fs.toList.map λf=>(f.offset,f.type))
 |some (.pointer e)=>.ptr e
 |_=>.other
structure TI where
 cZ:FF
 ty:Ty
 size:Nat
 bytes:Nat
 zero:List Value
abbrev kJ:=List TI
def kJ.seen(P:Program)(t:TypeId):FF×Option (Nat×Nat×Option (List Value)):=
 (jm (P.underlying t),(P.info? t).map λi=>(i.size,i.bytes,i.zero.map (·.cells.toList)))
def kJ.told(i:TI):FF×Option (Nat×Nat×Option (List Value)):=(i.cZ,some (i.size,i.bytes,some i.zero))
def kJ.get:kJ->Nat->Option TI
 |[],_=>none
 |i::_,0=>some i
 |_::r,t+1=>kJ.get r t
structure Di where
 P:Program
 T:kJ
structure Di.Ok (C:Di):Prop where
 tbl:(List.range C.T.length).map (kJ.seen C.P)=C.T.map kJ.told
 mixed:C.P.follows .mixedOrders=true
theorem kJ.get_eq:∀(T:kJ) (t:Nat),T.get t=T[t]?
 |[],_=>rfl
 |_::_,0=>rfl
 |_::r,t+1=>by simp[kJ.get,kJ.get_eq r t]
theorem Di.Ok.at{C:Di}(h:C.Ok){t:Nat}{i:TI}(a:C.T.get t=some i):kJ.seen C.P t=kJ.told i:=by rw[kJ.get_eq]at a;have b:t<C.T.length:=(qn.1 a).1;have:=congrArg (·[t]?) h.tbl;simp[b]at this;rw[this,(qn.1 a).2]
def Br(b:Bool)(A B:Prop):Prop:=match b with
 |true=>A
 |false=>B
inductive PV:Type 1 where
 |no
 |val (v:Value)
 |cond (c:Prop) (v:Value)
 |ex (X:Type) (c:X->Prop) (v:X->Value)
 |br (b:Bool) (x y:Value)
def PV.holds(p:PV)(K:Value->Prop):Prop:=match p with
 | .no=>False
 | .val v=>K v
 | .cond c v=>c/\K v
 | .ex _ c v=>∃x,c x/\K (v x)
 | .br b x y=>Br b (K x) (K y)
def tZ(P:Program)(s:Sem Next)(v:Value):Prop:=∀w,s.run P w=.ok (.value v) w
def aN{α:Type}(P:Program)(s:Sem α)(v:α):Prop:=∀w,s.run P w=.ok v w
def kK(P:Program)(op:BinOp)(t:TypeId)(x y:Operand)(a b r:Value):Prop:=aN P (do eqGuard op t x y a b;binOp op t a b) r
def afU:Operand->Bool
 | .tmp _=>true
 |_=>false
def adU(P:Program)(t:TypeId)(x y:Operand)(d:Option FF)(op:BinOp):Value->Value->PV
 | .int k a,.int k' b=>
  match op with
  | .shl=>.cond (0<=b) (.int k (k.wrap (a*2^min b.toNat k.bits)))
  | .shr=>.cond (0<=b) (.int k (a.fdiv (2^min b.toNat k.bits)))
  |_=>bif Dh k k' then
   match op with
   | .add=>.val (.int k (k.wrap (a+b)))
   | .sub=>.val (.int k (k.wrap (a-b)))
   | .mul=>.val (.int k (k.wrap (a*b)))
   | .quo=>.cond (b≠0) (.int k (k.wrap (a.tdiv b)))
   | .rem=>.cond (b≠0) (.int k (a.tmod b))
   | .and=>.val (.int k (k.wrap (qD k.bits a&&&qD k.bits b).toNat))
   | .or=>.val (.int k (k.wrap (qD k.bits a|||qD k.bits b).toNat))
   | .xor=>.val (.int k (k.wrap (qD k.bits a^^^qD k.bits b).toNat))
   | .andNot=>.val (.int k (k.wrap (qD k.bits a&&&~~~qD k.bits b).toNat))
   | .eql=>.val (.bool (a==b))
   | .neq=>.val (.bool (a !=b))
   | .lss=>.val (.bool (decide (a<b)))
   | .leq=>.val (.bool (decide (a<=b)))
   | .gtr=>.val (.bool (decide (a>b)))
   | .geq=>.val (.bool (decide (a>=b)))
   |_=>.no
  else .no
 | .float k a,.float k' b=>bif GK k k' then
   match op with
   | .add=>.ex Nat (λr=>k.format.add a b=some r) (λr=>.float k r)
   | .sub=>.ex Nat (λr=>k.format.sub a b=some r) (λr=>.float k r)
   | .mul=>.ex Nat (λr=>k.format.mul a b=some r) (λr=>.float k r)
   | .quo=>.ex Nat (λr=>k.format.div a b=some r) (λr=>.float k r)
   | .eql=>.val (.bool (k.format.order a b==some .eq))
   | .neq=>.val (.bool (k.format.order a b !=some .eq))
   | .lss=>.val (.bool (k.format.order a b==some .lt))
   | .gtr=>.val (.bool (k.format.order a b==some .gt))
   |_=>.no
  else .no
 | .string a,.string b=>
  match op with
  | .eql=>.val (.bool (a.toList==b.toList))
  | .neq=>.val (.bool (!(a.toList==b.toList)))
  | .lss=>.val (.bool (Op.bytesLess a.toList b.toList))
  | .leq=>.val (.bool (Op.bytesLess a.toList b.toList||a.toList==b.toList))
  | .gtr=>.val (.bool (!(Op.bytesLess a.toList b.toList||a.toList==b.toList)))
  | .geq=>.val (.bool (!(Op.bytesLess a.toList b.toList)))
  | .add=>.cond (((a.size+b.size:Nat):Int)<=xx.max) (.string (a++b))
  |_=>.no
 | .bool a,.bool b=>
  match d with
  |some .bool=>match op with
   | .eql=>.val (.bool (a==b))
   | .neq=>.val (.bool (!(a==b)))
   |_=>.no
  |_=>.no
 | .pointer a,.pointer b=>bif afU y then .ex Bool (λr=>kK P op t x y (.pointer a) (.pointer b) (.bool r)) (λr=>.bool r)else
  match b with
  |none=>match d with
   |some (.ptr _)=>match op with
    | .eql=>.val (.bool a.isNone)
    | .neq=>.val (.bool (!a.isNone))
    |_=>.no
   |_=>.no
  |some _=>.no
 | .slice a _ _,.slice none _ _=>
  match d with
  |some (.slice _)=>match op with
   | .eql=>.val (.bool a.isNone)
   | .neq=>.val (.bool (!a.isNone))
   |_=>.no
  |_=>.no
 | .agg a,.agg b=>.ex Bool (λr=>kK P op t x y (.agg a) (.agg b) (.bool r)) (λr=>.bool r)
 | .complex k a b,.complex k' c e=>
  match op with
  | .eql| .neq=>.ex Bool (λr=>kK P op t x y (.complex k a b) (.complex k' c e) (.bool r)) (λr=>.bool r)
  |_=>.ex (Nat×Nat) (λr=>kK P op t x y (.complex k a b) (.complex k' c e) (.complex k r.1 r.2)) (λr=>.complex k r.1 r.2)
 |_,_=>.no
def adV(P:Program)(t:TypeId)(x y:Operand)(d:Option FF)(op:BinOp)(a:Value):Value->PV
 | .nilIface=>.ex Bool (λr=>kK P op t x y a .nilIface (.bool r)) (λr=>.bool r)
 |b=>adU P t x y d op a b
def unV(op:UnOp):Value->PV
 | .bool b=>match op with
  | .not=>.val (.bool !b)
  |_=>.no
 | .int k n=>match op with
  | .neg=>.val (.int k (k.wrap (0-n)))
  | .xor=>.val (.int k (k.wrap (qD k.bits (if k.signed then-1 else k.max)^^^qD k.bits n).toNat))
  |_=>.no
 |_=>.no
def so(ev:Operand->Option Value):List Operand->Option (List Value)
 |[]=>some []
 |x::r=>match ev x with
  |some v=>match so ev r with
   |some vs=>some (v::vs)
   |none=>none
  |none=>none
def GM(ev:Operand->Option Value):List (Nat×Operand)->Option (List (Nat×Value))
 |[]=>some []
 |(n,x)::r=>match ev x with
  |some v=>match GM ev r with
   |some vs=>some ((n,v)::vs)
   |none=>none
  |none=>none
def placesOf(T:kJ):List (Nat×TypeId)->Option (List (Nat×Nat))
 |[]=>some []
 |(off,t)::r=>match T.get t with
  |some j=>match placesOf T r with
   |some ps=>some ((off,j.size)::ps)
   |none=>none
  |none=>none
def Mj(ev:Operand->Option Value):Option Operand->Option (Option Int)
 |none=>some none
 |some x=>match ev x with
  |some (.int _ n)=>some (some n)
  |_=>none
def aib(d:Option FF):Value->PV
 | .slice _ n _=>match d with
  |some (.slice _)=>.val (.int .i64 n)
  |_=>.no
 | .string s=>match d with
  |some .str=>.val (.int .i64 s.size)
  |_=>.no
 |_=>.no
def aic(d:Option FF):Value->PV
 | .slice _ _ n=>match d with
  |some (.slice _)=>.val (.int .i64 n)
  |_=>.no
 |_=>.no
def afV(d:Option FF):Value->PV
 | .int _ n=>match d with
  |some (.int k)=>.val (.int k (k.wrap n))
  |_=>.no
 |_=>.no
def Dj(P:Program)(T:kJ)(op:Op)(ev:Operand->Option Value):PV:=
 match op with
 | .move x| .assign x=>match ev x with
  |some v=>.val v
  |none=>.no
 | .pick c a b=>match ev c,ev a,ev b with
  |some (.bool t),some x,some y=>.br t x y
  |_,_,_=>.no
 | .nilCheck x=>match ev x with
  |some (.pointer p)=>.ex Addr (λa=>p=some a) (λa=>.pointer (some a))
  |_=>.no
 | .fieldAddr s x f=>match ev x with
  |some (.pointer (some a))=>match T.get s with
   |some i=>match i.cZ with
    | .struct fs=>match fs[f]? with
     |some (off,t)=>match T.get t with
      |some j=>bif wG j.size 0 then .no else .val (.pointer (some (a.add off)))
      |none=>.no
     |none=>.no
    |_=>.no
   |none=>.no
  |_=>.no
 | .indexAddr t x ix=>match ev ix with
  |some (.int _ n)=>match ev x with
   |some (.slice p len _)=>match T.get t with
    |some i=>match i.cZ with
     | .slice e=>match T.get e with
      |some j=>.ex Addr (λa=>p=some a/\0<=n/\n<(len:Int)) (λa=>.pointer (some (a.add (n.toNat*j.size))))
      |none=>.no
     |_=>.no
    |none=>.no
   |some (.pointer (some a))=>match T.get t with
    |some i=>match i.cZ with
     | .array m e=>match T.get e with
      |some j=>.cond (0<=n/\n<(m:Int)) (.pointer (some (a.add (n.toNat*j.size))))
      |none=>.no
     |_=>.no
    |none=>.no
   |_=>.no
  |_=>.no
 | .index t x ix=>match ev ix with
  |some (.int _ n)=>match ev x with
   |some (.string s)=>match T.get t with
    |some i=>match i.cZ with
     | .str=>.ex UInt8 (λb=>0<=n/\s.data[n.toNat]?=some b) (λb=>.int .u8 b.toNat)
     |_=>.no
    |none=>.no
   |some (.agg cs)=>match T.get t with
    |some i=>match i.cZ with
     | .array m e=>match T.get e with
      |some j=>match j.ty with
       | .sc s=>match j.cZ with
        | .struct _=>.no
        | .array _ _=>.no
        | .other=>.no
        |_=>bif wG j.size 1 then .ex s.den (λy=>0<=n/\n<(m:Int)/\cs[n.toNat]?=some (s.enc y)) (λy=>s.enc y)else .no
       |_=>.no
      |none=>.no
     |_=>.no
    |none=>.no
   |_=>.no
  |_=>.no
 | .field s x f=>match ev x with
  |some (.agg ⟨cs⟩)=>match T.get s with
   |some i=>match i.cZ with
    | .struct fs=>match fs[f]? with
     |some (off,t)=>match T.get t with
      |some j=>match j.cZ with
       | .struct _=>.val (.agg ((cs.drop off).take j.size).toArray)
       | .array _ _=>.val (.agg ((cs.drop off).take j.size).toArray)
       | .other=>.no
       |_=>match cs[off]? with
        |some v=>.val v
        |none=>.no
      |none=>.no
     |none=>.no
    |_=>.no
   |none=>.no
  |_=>.no
 | .slice t x lo hi mx=>match mx with
  |some _=>.no
  |none=>match Mj ev lo,Mj ev hi with
   |some l,some r=>match ev x with
    |some (.slice p len cap)=>match T.get t with
     |some i=>match i.cZ with
      | .slice e=>match T.get e with
       |some j=>match l,r with
        |none,none=>.val (.slice p len cap)
        |none,some r=>.cond (0<=r/\r<=(cap:Int)) (.slice p r.toNat cap)
        |some l,none=>.cond (0<=l/\l<=(len:Int)) (.slice (if cap=l.toNat then p else p.map (·.add (l.toNat*j.size))) (len-l.toNat) (cap-l.toNat))
        |some l,some r=>.cond (0<=l/\l<=r/\r<=(cap:Int)) (.slice (if cap=l.toNat then p else p.map (·.add (l.toNat*j.size))) (r.toNat-l.toNat) (cap-l.toNat))
       |none=>.no
      |_=>.no
     |none=>.no
    |some (.string s)=>match T.get t with
     |some i=>match i.cZ with
      | .str=>match l,r with
       |none,none=>.val (.string (s.extract 0 s.size))
       |none,some r=>.cond (0<=r/\r<=(s.size:Int)) (.string (s.extract 0 r.toNat))
       |some l,none=>.cond (0<=l/\l<=(s.size:Int)) (.string (s.extract l.toNat s.size))
       |some l,some r=>.cond (0<=l/\l<=r/\r<=(s.size:Int)) (.string (s.extract l.toNat r.toNat))
      |_=>.no
     |none=>.no
    |some (.pointer (some a))=>match T.get t with
     |some i=>match i.cZ with
      | .array n e=>match T.get e with
       |some j=>match l,r with
        |none,none=>.val (.slice (some a) n n)
        |none,some r=>.cond (0<=r/\r<=(n:Int)) (.slice (some a) r.toNat n)
        |some l,none=>.cond (0<=l/\l<=(n:Int)) (.slice (some (if n=l.toNat then a else a.add (l.toNat*j.size))) (n-l.toNat) (n-l.toNat))
        |some l,some r=>.cond (0<=l/\l<=r/\r<=(n:Int)) (.slice (some (if n=l.toNat then a else a.add (l.toNat*j.size))) (r.toNat-l.toNat) (n-l.toNat))
       |none=>.no
      |_=>.no
     |none=>.no
    |_=>.no
   |_,_=>.no
 | .extract x n=>match ev x with
  |some (.tuple ⟨vs⟩)=>match vs[n]? with
   |some v=>.val v
   |none=>.no
  |_=>.no
 | .binOp op t x y _=>match ev x,ev y with
  |some a,some b=>adV P t x y ((T.get t).map (·.cZ)) op a b
  |_,_=>.no
 | .unOp op _ x=>match ev x with
  |some v=>unV op v
  |none=>.no
 | .convert src dst x=>match ev x,(T.get src).map TI.cZ with
  |some v,some (FF.int _)=>afV ((T.get dst).map (·.cZ)) v
  |_,_=>.no
 | .build t parts=>match GM ev parts.toList with
  |some vs=>match T.get t with
   |some i=>bif vT 24 i.size then .ex Value (λv=>aN P (vU t vs.toArray) v) (λv=>v)else match i.cZ with
    | .struct fs=>match placesOf T fs with
     |some ps=>match wB (λn=>ps[n]?) i.zero.toArray vs with
      |some cells=>.val (.agg cells)
      |none=>.no
     |none=>.no
    | .array _ e=>match T.get e with
     |some j=>match wB (λn=>some (n*j.size,j.size)) i.zero.toArray vs with
      |some cells=>.val (.agg cells)
      |none=>.no
     |none=>.no
    |_=>.no
   |none=>.no
  |none=>.no
 | .makeFunc fn first captured=>match so ev first.toList,so ev captured.toList with
  |some a,some b=>.val (.func fn a.toArray b.toArray)
  |_,_=>.no
 | .call c=>match c.callee with
  | .builtin b=>match b with
   | .len=>match c.argTypes.toList,c.args.toList with
    |t::_,[x]=>match ev x with
     |some v=>aib ((T.get t).map (·.cZ)) v
     |none=>.no
    |_,_=>.no
   | .cap=>match c.argTypes.toList,c.args.toList with
    |t::_,[x]=>match ev x with
     |some v=>aic ((T.get t).map (·.cZ)) v
     |none=>.no
    |_,_=>.no
   | .min=>match so ev c.args.toList with
    |some [.int k a,.int _ b]=>.val (.int k (if b<a then b else a))
    |_=>.no
   | .max=>match so ev c.args.toList with
    |some [.int k a,.int _ b]=>.val (.int k (if b>a then b else a))
    |_=>.no
   | .real=>match so ev c.args.toList with
    |some [.complex k a _]=>.val (.float k a)
    |_=>.no
   | .imag=>match so ev c.args.toList with
    |some [.complex k _ b]=>.val (.float k b)
    |_=>.no
   |_=>.no
  |_=>.no
 |_=>.no
theorem aN.next{P:Program}{s:Sem Value}{v:Value}(h:aN P s v):tZ P (do pure (.value (<-s))) v:=λw=>by
 rw[Sem.run_bind,h w];rfl
theorem aN.pure{α:Type}{P:Program}{v:α}:aN P (pure v) v:=λ_=>rfl
theorem aN.bind{α β:Type}{P:Program}{s:Sem α}{f:α->Sem β}{v:α}{u:β}(h:aN P s v)(k:aN P (f v) u):aN P (s>>=f) u:=λw=>by
 rw[Sem.run_bind,h w];exact k w
theorem Jm{d:Option TypeDesc}{k:IntKind}(h:jm d=.int k):d=some (.int k):=by unfold jm at h;split at h<;>cases h;rfl
theorem adW{d:Option TypeDesc}(h:jm d=.bool):d=some .bool:=by unfold jm at h;split at h<;>cases h;rfl
theorem xU{d:Option TypeDesc}(h:jm d=.str):d=some .string:=by unfold jm at h;split at h<;>cases h;rfl
theorem jN{d:Option TypeDesc}{e:TypeId}(h:jm d=.slice e):d=some (.slice e):=by unfold jm at h;split at h<;>cases h;rfl
theorem ua{d:Option TypeDesc}{n:Nat}{e:TypeId}(h:jm d=.array n e):d=some (.array n e):=by unfold jm at h;split at h<;>cases h;rfl
theorem agP{d:Option TypeDesc}{e:TypeId}(h:jm d=.ptr e):d=some (.pointer e):=by unfold jm at h;split at h<;>cases h;rfl
theorem ra{d:Option TypeDesc}{a:List (Nat×TypeId)}(h:jm d=.struct a):∃b,d=some (.struct b)/\a=b.toList.map λf=>(f.offset,f.type):=by unfold jm at h;split at h<;>cases h;exact⟨_,rfl,rfl⟩
section
variable {C:Di} {t:TypeId} {i:TI}
theorem Di.Ok.cZ(h:C.Ok)(a:C.T.get t=some i):jm (C.P.underlying t)=i.cZ:=congrArg Prod.fst (h.at a)
theorem Di.Ok.info(h:C.Ok)(d:C.T.get t=some i):∃f,C.P.info? t=some f/\f.size=i.size/\f.bytes=i.bytes/\∃z,f.zero=some z/\z.cells.toList=i.zero:=by
 have:=congrArg Prod.snd (h.at d);simp only[kJ.seen,kJ.told]at this;cases hf:C.P.info? t with
 |none=>rw[hf]at this;cases this
 |some f=>
  rw[hf]at this;simp only[qZ,zR.injEq,Prod.mk.injEq]at this;obtain⟨a,b,c⟩:=this;cases hz:f.zero with
  |none=>rw[hz]at c;cases c
  |some z=>rw[hz]at c;simp at c;exact⟨f,rfl,a,b,z,hz,by simpa using c⟩
theorem aW{P:Program}{t:TypeId}{d:TypeDesc}(h:P.underlying t=some d):aN P (underlying t) d:=λw=>by
 simp[underlying,h]
theorem dw{P:Program}{t:TypeId}{d:TypeInfo}(h:P.info? t=some d):aN P (typeInfo t) d:=λw=>by
 simp[typeInfo,h]
theorem ee(h:C.Ok)(a:C.T.get t=some i):aN C.P (sizeOf t) i.size:=by obtain⟨f,b,c,_⟩:=h.info a;rw[<-c];exact(dw b).bind .pure
theorem tz(h:C.Ok)(a:C.T.get t=some i):∃z,aN C.P (zeroValue t) z/\z.cells.toList=i.zero:=by obtain⟨f,b,_,_,z,d,c⟩:=h.info a;refine⟨z,(dw b).bind ?_,c⟩;rw[d];exact .pure
theorem lL(h:C.Ok)(f:C.T.get t=some i):(∀b,i.cZ=.struct b->aN C.P (isAgg t) true)/\(∀n e,i.cZ=.array n e->aN C.P (isAgg t) true)/\
  ((∀b,i.cZ≠.struct b)->(∀n e,i.cZ≠.array n e)->i.cZ≠.other->aN C.P (isAgg t) false):=by
 have a:=h.cZ f;refine⟨λb c=>?_,λn e c=>?_,λk g h3=>?_⟩
 ·rw[c]at a;obtain⟨l,j,_⟩:=ra a;exact(aW j).bind .pure
 ·rw[c]at a;exact(aW (ua a)).bind .pure
 ·cases hu:C.P.underlying t with
  |none=>rw[hu]at a;exact absurd a.symm h3
  |some d=>
   refine(aW hu).bind ?_;rw[hu]at a;cases d<;>first|exact .pure|(exfalso;simp only[jm]at a;first|exact k _ a.symm|exact g _ _ a.symm)
end
theorem Ej{ev:Operand->Option Value}{e:Operand->Value}(c:∀x v,ev x=some v->e x=v):∀{l:List Operand} {vs:List Value},so ev l=some vs->l.map e=vs:=by
 intro l
 induction l with
 |nil=>intro vs h;cases h;rfl
 |cons x r ih=>
  intro vs h;simp only[so]at h;split at h
  ·rename_i v b;split at h
   ·rename_i us a;cases h;simp[c _ _ b,ih a]
   ·cases h
  ·cases h
theorem Ke{ev:Operand->Option Value}{e:Operand->Value}(c:∀x v,ev x=some v->e x=v):∀{l:List (Nat×Operand)} {vs:List (Nat×Value)},GM ev l=some vs->l.map (λp=>(p.1,e p.2))=vs:=by
 intro l
 induction l with
 |nil=>intro vs h;cases h;rfl
 |cons x r ih=>
  intro vs h;obtain⟨n,x⟩:=x;simp only[GM]at h;split at h
  ·rename_i v b;split at h
   ·rename_i us a;cases h;simp[c _ _ b,ih a]
   ·cases h
  ·cases h
section
variable {P:Program}
theorem KW(t:TypeId)(x y:Value):Op.equal t x y=Op.equalIn (9999+1) t x y:=rfl
theorem agQ{t:TypeId}(c:P.underlying t=some .bool)(d:Nat)(a b:Bool):aN P (Op.equalIn (d+1) t (.bool a) (.bool b)) (a==b):=λw=>by
 simp[Op.equalIn,underlying,c]
theorem aid{t e:TypeId}(b:P.underlying t=some (.pointer e))(d:Nat)(a:Option Addr):aN P (Op.equalIn (d+1) t (.pointer a) (.pointer none)) a.isNone:=λw=>by
 cases a<;>simp[Op.equalIn,underlying,b]
theorem adX{t e:TypeId}(f:P.underlying t=some (.slice e))(d:Nat)(a:Option Addr)(l c l' b:Nat):aN P (Op.equalIn (d+1) t (.slice a l c) (.slice none l' b)) a.isNone:=λw=>by
 cases a<;>simp[Op.equalIn,underlying,f]
theorem Yv{t:TypeId}{d:Option FF}{op:BinOp}{a b:Value}{x y:Operand}{K:Value->Prop}(o:∀q,d=some q->jm (P.underlying t)=q)
  (h:(adU P t x y d op a b).holds K):∃v,aN P (do eqGuard op t x y a b;binOp op t a b) v/\K v:=by
 have j:∀{a b:Value},¬(a=.nilIface/\b=.nilIface)->(∀u v,¬(a=.agg u/\b=.agg v))->aN P (eqGuard op t x y a b) ():=by
  intro a b i f w;simp only[eqGuard];cases op<;>simp only[Bool.not_true,Bool.not_false,zj,if_true,if_false]<;>
   first
    |rfl
    |(split<;>first|exact absurd ⟨rfl,rfl⟩ i|exact absurd ⟨rfl,rfl⟩ (f _ _)|rfl)
 unfold adU at h;split at h
 ·rename_i k a n b;have g:=j (a:=.int k a) (b:=.int n b) (by simp) (by simp);cases op<;>simp only at h
  case shl=>exact⟨_,g.bind λw=>by simp only[binOp,Op.shift];rw[if_neg (by have:=h.1;omega)];rfl,h.2⟩
  case shr=>exact⟨_,g.bind λw=>by simp only[binOp,Op.shift];rw[if_neg (by have:=h.1;omega)];rfl,h.2⟩
  all_goals
   cases hk:Dh k n with
   |false=>rw[hk]at h;simp[PV.holds]at h
   |true=>
    rw[hk]at h;simp only[cond_true,PV.holds]at h;have e:=Kd hk;subst e
    first
     |exact⟨_,g.bind λw=>by simp[binOp,Op.intArith,Op.intBits,Op.intCmp],h⟩
     |exact⟨_,g.bind λw=>by simp[binOp,Op.intDiv,h.1],h.2⟩
     |exact h.elim
 ·rename_i k a n b;have g:=j (a:=.float k a) (b:=.float n b) (by simp) (by simp);cases hk:GK k n with
  |false=>rw[hk]at h;simp[PV.holds]at h
  |true=>
   rw[hk]at h;have e:=GL hk;subst e;cases op<;>simp only[cond_true,PV.holds]at h<;>
    first
     |(obtain⟨r,i,f⟩:=h;exact⟨_,g.bind λw=>by simp[binOp,Op.floatArith,i],f⟩)
     |exact⟨_,g.bind λw=>by simp[binOp,Op.floatCmp],h⟩
     |exact h.elim
 ·rename_i a b;have g:=j (a:=.string a) (b:=.string b) (by simp) (by simp);cases op<;>simp only[PV.holds]at h<;>
   first
    |exact⟨_,g.bind λw=>by simp[binOp,Op.stringOp],h⟩
    |exact⟨_,g.bind λw=>by simp only[binOp,Op.stringOp];rw[if_neg (by have:=h.1;omega)];rfl,h.2⟩
    |exact h.elim
 ·rename_i a b;have g:=j (a:=.bool a) (b:=.bool b) (by simp) (by simp);split at h
  ·have m:=adW (o _ rfl);cases op<;>simp only[PV.holds]at h<;>
    first
     |exact⟨_,g.bind (by simp only[binOp,KW];exact(agQ m _ a b).bind .pure),h⟩
     |exact h.elim
  ·exact h.elim
 ·rename_i a b;cases hy:afU y with
  |true=>
   rw[hy]at h;obtain⟨r,i,f⟩:=h;exact⟨_,i,f⟩
  |false=>
   rw[hy]at h;cases b with
   |some _=>exact h.elim
   |none=>
    have g:=j (a:=.pointer a) (b:=.pointer none) (by simp) (by simp);simp only[cond_false]at h;split at h
    ·rename_i e;have m:=agP (o _ rfl);cases op<;>simp only[PV.holds]at h<;>
      first
       |exact⟨_,g.bind (by simp only[binOp,KW];exact(aid m _ a).bind .pure),h⟩
       |exact h.elim
    ·exact h.elim
 ·rename_i a l c l' p;have g:=j (a:=.slice a l c) (b:=.slice none l' p) (by simp) (by simp);split at h
  ·rename_i e;have m:=jN (o _ rfl);cases op<;>simp only[PV.holds]at h<;>
    first
     |exact⟨_,g.bind (by simp only[binOp,KW];exact(adX m _ a l c l' p).bind .pure),h⟩
     |exact h.elim
  ·exact h.elim
 ·obtain⟨r,i,f⟩:=h;exact⟨_,i,f⟩
 ·split at h
  ·obtain⟨r,i,f⟩:=h;exact⟨_,i,f⟩
  ·obtain⟨r,i,f⟩:=h;exact⟨_,i,f⟩
  ·obtain⟨r,i,f⟩:=h;exact⟨_,i,f⟩
 ·exact h.elim
theorem Yw{t:TypeId}{d:Option FF}{op:BinOp}{a b:Value}{x y:Operand}{K:Value->Prop}(c:∀q,d=some q->jm (P.underlying t)=q)
  (h:(adV P t x y d op a b).holds K):∃v,aN P (do eqGuard op t x y a b;binOp op t a b) v/\K v:=by
 unfold adV at h;split at h
 ·obtain⟨r,f,e⟩:=h;exact⟨_,f,e⟩
 ·exact Yv c h
end
theorem SK(a:List Value)(off n:Nat):((a.drop off).take n).toArray=(a.toArray).extract off (off+n):=by apply yD;simp[List.extract_eq_take_drop]
section
variable {C:Di} {ev:Operand->Option Value} {e:Operand->Value}
theorem oy(b:C.Ok):∀{c:List Field} {a:List (Nat×Nat)},placesOf C.T (c.map λf=>(f.offset,f.type))=some a->
  aN C.P (c.mapM λf=>(do pure (f.offset,<-sizeOf f.type):Sem (Nat×Nat))) a
 |[],a,h=>by cases h;exact .pure
 |f::r,a,h=>by
  simp only[List.map_cons,placesOf]at h;split at h
  ·rename_i j d;split at h
   ·rename_i g e;cases h;rw[List.mapM_cons];exact aN.bind ((ee b d).bind .pure) ((oy b e).bind .pure)
   ·cases h
  ·cases h
theorem Kf(c:C.Ok){t:TypeId}{j:TI}(b:C.T.get t=some j)(h:∀f,j.cZ≠.struct f)(g:∀n e,j.cZ≠.array n e)(h3:j.cZ≠.other)
  {a:Array Value} {off:Nat} {v:Value} (d:a[off]?=some v):aN C.P (part t a off) v:=by
 refine((lL c b).2.2 h g h3).bind ?_;rw[d];exact .pure
theorem SL(b:C.Ok){t:TypeId}{j:TI}(a:C.T.get t=some j)(h:(∃c,j.cZ=.struct c)∨∃n e,j.cZ=.array n e)
  {d:Array Value} {off:Nat}:aN C.P (part t d off) (.agg (d.extract off (off+j.size))):=by
 have f:aN C.P (isAgg t) true:=by
  rcases h with⟨c,h⟩|⟨n,e,h⟩
  ·exact(lL b a).1 c h
  ·exact(lL b a).2.1 n e h
 exact f.bind ((ee b a).bind .pure)
theorem Mk(I:C.Ok)(G:∀x v,ev x=some v->e x=v){o:Oper}{K:Value->Prop}(h:(Dj C.P C.T o.op ev).holds K):
  ∃v,tZ C.P (execOp e o) v/\K v:=by
 have M:∀t q,(C.T.get t).map (·.cZ)=some q->jm (C.P.underlying t)=q:=λt q h=>by
  cases F:C.T.get t with
  |none=>rw[F]at h;cases h
  |some i=>rw[F]at h;cases h;exact I.cZ F
 cases hop:o.op<;>rw[hop]at h<;>simp only[Dj]at h<;>simp only[execOp,hop]
 case move x=>
  split at h
  ·rename_i v A;rw[G _ _ A];exact⟨v,λ_=>rfl,h⟩
  ·exact h.elim
 case assign x=>
  split at h
  ·rename_i v A;rw[G _ _ A];exact⟨v,λ_=>rfl,h⟩
  ·exact h.elim
 case pick c a b=>
  split at h
  ·rename_i t x y N h2 h3;rw[G _ _ N,G _ _ h2,G _ _ h3];cases t
   ·exact⟨y,λ_=>rfl,h⟩
   ·exact⟨x,λ_=>rfl,h⟩
  ·exact h.elim
 case nilCheck x=>
  split at h
  ·rename_i p hp;obtain⟨a,rfl,B⟩:=h;rw[G _ _ hp];exact⟨_,λ_=>rfl,B⟩
  ·exact h.elim
 case fieldAddr s x f=>
  split at h
  ·rename_i a ha;rw[G _ _ ha];split at h
   ·rename_i i F;split at h
    ·rename_i fs X;split at h
     ·rename_i off t ad;split at h
      ·rename_i j R;cases hz:wG j.size 0 with
       |true=>rw[hz]at h;exact h.elim
       |false=>
        rw[hz]at h;have E:=I.cZ F;rw[X]at E;obtain⟨gs,hg,rfl⟩:=ra E;simp only[qT,vb]at ad;obtain⟨g,ay,a0⟩:=ad;cases a0;refine⟨_,aN.next ((aW hg).bind ?_),h⟩;have am:gs[f]?=some g:=by simpa using ay
        simp only[am];refine aN.bind (v:=a) .pure (aN.bind (v:=a.add g.offset) ?_ .pure);unfold fieldPlace;refine(ee I R).bind ?_;have:j.size≠0:=λe=>by rw[e]at hz;cases hz
        rw[if_neg this];exact .pure
      ·exact h.elim
     ·exact h.elim
    ·exact h.elim
   ·exact h.elim
  ·exact h.elim
 case indexAddr t x ix=>
  split at h
  ·rename_i k n hn;rw[G _ _ hn];split at h
   ·rename_i p len cap S;rw[G _ _ S];split at h
    ·rename_i i F;split at h
     ·rename_i el D;split at h
      ·rename_i j R;obtain⟨a,⟨rfl,h0,N⟩,B⟩:=h;have E:=I.cZ F;rw[D]at E;have H:=jN E;refine⟨_,aN.next ?_,B⟩;unfold Instr.indexAt;refine aN.bind (v:=(k,n)) .pure ?_;refine(aW H).bind ?_;refine aN.bind (v:=(some a,len,el)) .pure ?_;intro w;have:=ee I R w;simp only[Sem.run_bind,aW H w,Result.andThen_ok];cases hl:decide (len<=1)<;>simp[h0,N,this]
      ·exact h.elim
     ·exact h.elim
    ·exact h.elim
   ·rename_i a S;rw[G _ _ S];split at h
    ·rename_i i F;split at h
     ·rename_i m el D;split at h
      ·rename_i j R;obtain⟨⟨h0,N⟩,B⟩:=h;have E:=I.cZ F;rw[D]at E;have H:=ua E;refine⟨_,aN.next ?_,B⟩;unfold Instr.indexAt;refine aN.bind (v:=(k,n)) .pure ?_;refine(aW H).bind ?_;refine aN.bind (v:=(some a,m,el)) .pure ?_;intro w;have:=ee I R w;simp only[Sem.run_bind,aW H w,Result.andThen_ok];cases hl:decide (m<=1)<;>simp[h0,N,this]
      ·exact h.elim
     ·exact h.elim
    ·exact h.elim
   ·exact h.elim
  ·exact h.elim
 case index t x ix=>
  split at h
  ·rename_i k n hn;rw[G _ _ hn];split at h
   ·rename_i s S;rw[G _ _ S];split at h
    ·rename_i i F;split at h
     ·rename_i D;obtain⟨b,⟨h0,N⟩,B⟩:=h;have E:=I.cZ F;rw[D]at E;have H:=xU E;refine⟨_,aN.next ?_,B⟩;unfold Instr.index;refine aN.bind (v:=(k,n)) .pure ?_;refine(aW H).bind ?_;have hb:s[n.toNat]?=some b:=by rw[Array.getElem?_eq_some_iff]at N;obtain⟨a8,hg⟩:=N;have a5:n.toNat<s.size:=a8;rw[getElem?_pos s n.toNat a5];exact congrArg some hg
      simp only[h0,if_true,hb];exact .pure
     ·exact h.elim
    ·exact h.elim
   ·rename_i cs S;rw[G _ _ S];split at h
    ·rename_i i F;split at h
     ·rename_i m el D;split at h
      ·rename_i j R;split at h
       ·rename_i s hs;have E:=I.cZ F;rw[D]at E;have H:=ua E;have ab:(∃y,(0<=n/\n<(m:Int)/\cs[n.toNat]?=some (s.enc y))/\K (s.enc y))->(∀fs,j.cZ≠.struct fs)->(∀n e,j.cZ≠.array n e)->j.cZ≠.other->j.size=1->
          ∃v,tZ C.P (do pure (.value (<-Instr.index t (.agg cs) (.int k n)))) v/\K v:=by
         rintro⟨y,⟨h0,N,h2⟩,B⟩ d1 d2 d3 bd;refine⟨_,aN.next ?_,B⟩;unfold Instr.index;refine aN.bind (v:=(k,n)) .pure ?_;refine(aW H).bind ?_;simp only[h0,N,and_self,if_true];refine(ee I R).bind ?_;rw[bd,Nat.mul_one];exact Kf I R d1 d2 d3 h2
        split at h
        ·exact h.elim
        ·exact h.elim
        ·exact h.elim
        ·rename_i d1 d2 d3;cases hz:wG j.size 1 with
         |false=>rw[hz]at h;exact h.elim
         |true=>
          rw[hz]at h;exact ab h d1 d2 d3 (zM hz)
       ·exact h.elim
      ·exact h.elim
     ·exact h.elim
    ·exact h.elim
   ·exact h.elim
  ·exact h.elim
 case field s x f=>
  split at h
  ·rename_i cs S;rw[G _ _ S];split at h
   ·rename_i i F;split at h
    ·rename_i fs X;split at h
     ·rename_i off t ad;split at h
      ·rename_i j R;have E:=I.cZ F;rw[X]at E;obtain⟨gs,hg,rfl⟩:=ra E;simp only[qT,vb]at ad;obtain⟨g,ay,a0⟩:=ad;cases a0;have am:gs[f]?=some g:=by simpa using ay
       have ab:∀v,aN C.P (part g.type ⟨cs⟩ g.offset) v->K v->∃v,tZ C.P (do pure (.value (<-Instr.field s (.agg ⟨cs⟩) f))) v/\K v:=by intro v A B;refine⟨v,aN.next ((aW hg).bind ?_),B⟩;simp only[am];exact aN.bind (v:=(⟨cs⟩:Array Value)) .pure A
       split at h
       ·rename_i br ap;refine ab _ (SL I R (.inl ⟨_,ap⟩)) ?_;rw[<-SK];exact h
       ·rename_i n' e' ap;refine ab _ (SL I R (.inr ⟨_,_,ap⟩)) ?_;rw[<-SK];exact h
       ·exact h.elim
       ·rename_i d1 d2 d3;split at h
        ·rename_i v A;exact ab v (Kf I R d1 d2 d3 (by simpa using A)) h
        ·exact h.elim
      ·exact h.elim
     ·exact h.elim
    ·exact h.elim
   ·exact h.elim
  ·exact h.elim
 case slice t x V hi0 mx=>
  split at h
  ·exact h.elim
  ·split at h
   ·rename_i l r hl hr;have ar:(V=none/\l=none)∨∃y k m,V=some y/\e y=.int k m/\l=some m:=by
     cases V with
     |none=>cases hl;exact .inl ⟨rfl,rfl⟩
     |some y=>
      simp only[Mj]at hl;split at hl
      ·rename_i k m hm;cases hl;exact .inr ⟨y,k,m,rfl,G _ _ hm,rfl⟩
      ·cases hl
    have a4:(hi0=none/\r=none)∨∃y k m,hi0=some y/\e y=.int k m/\r=some m:=by
     cases hi0 with
     |none=>cases hr;exact .inl ⟨rfl,rfl⟩
     |some y=>
      simp only[Mj]at hr;split at hr
      ·rename_i k m hm;cases hr;exact .inr ⟨y,k,m,rfl,G _ _ hm,rfl⟩
      ·cases hr
    have J:∀(bb:Bool) (len cap:Nat) (V F:Option Value) (a b:Nat),(V=none->a=0)->(∀v,V=some v->∃k m,v=.int k m/\0<=m/\a=m.toNat/\m<=(b:Int))->
      (F=none->b=len)->(∀v,F=some v->∃k m,v=.int k m/\0<=m/\b=m.toNat/\m<=(cap:Int))->
      aN C.P (wD bb len cap V F none) (a,b,cap):=by
     intro bb len cap V F a b N h2 h3 h4 w;cases F with
     |none=>
      have e1:=h3 rfl;subst e1;cases V with
      |none=>rw[N rfl];simp[wD]
      |some v=>
       obtain⟨k,m,rfl,x1,rfl,x2⟩:=h2 v rfl;simp[wD,vQ,asIntOf,x1,x2]
     |some u=>
      obtain⟨k',W,rfl,y1,rfl,y2⟩:=h4 u rfl;cases V with
      |none=>rw[N rfl];simp[wD,vQ,asIntOf,y1,y2]
      |some v=>
       obtain⟨k,m,rfl,x1,rfl,x2⟩:=h2 v rfl;have x3:¬max W 0<m:=by omega
       simp[wD,vQ,asIntOf,x1,y1,y2,x3]
    split at h
    ·rename_i p len cap S;rw[G _ _ S];split at h
     ·rename_i i F;split at h
      ·rename_i el D;split at h
       ·rename_i j R;have E:=I.cZ F;rw[D]at E;have H:=jN E;have fin:∀(a b:Nat) (v:Value),aN C.P (wD true len cap (V.map e) (hi0.map e) none) (a,b,cap)->
          v=.slice (if cap=a then p else p.map (·.add (a*j.size))) (b-a) (cap-a)->K v->
          ∃v,tZ C.P (do pure (.value (<-yo t (.slice p len cap) (V.map e) (hi0.map e) (Option.map e none)))) v/\K v:=by
         intro a b v hb A B;refine⟨v,aN.next ?_,B⟩;unfold yo;refine(aW H).bind ?_;simp only[xo,Option.map_none];refine(aW H).bind ?_;refine hb.bind ?_;subst A;exact(ee I R).bind .pure
        have ah:(if cap=0 then p else p.map (·.add (0*j.size)))=p:=by
         cases p<;>simp[Addr.add]
        rcases ar with⟨rfl,rfl⟩|⟨y,k,m,rfl,hy,rfl⟩<;>rcases a4 with⟨rfl,rfl⟩|⟨y',k',W,rfl,hy',rfl⟩
        ·exact fin 0 len _ (J _ _ _ _ _ _ _ (λ_=>rfl) (by simp) (λ_=>rfl) (by simp)) (by rw[ah];rfl) h
        ·obtain⟨⟨U,Z⟩,B⟩:=h;exact fin 0 W.toNat _ (J _ _ _ _ _ _ _ (λ_=>rfl) (by simp) (by simp) λv A=>by cases A;exact⟨k',W,hy',U,rfl,Z⟩) (by rw[ah];rfl) B
        ·obtain⟨⟨U,Z⟩,B⟩:=h;exact fin m.toNat len _ (J _ _ _ _ _ _ _ (by simp) (λv A=>by cases A;exact⟨k,m,hy,U,rfl,Z⟩) (λ_=>rfl) (by simp)) rfl B
        ·obtain⟨⟨U,Z,a3⟩,B⟩:=h;exact fin m.toNat W.toNat _ (J _ _ _ _ _ _ _ (by simp) (λv A=>by cases A;exact⟨k,m,hy,U,rfl,by omega⟩) (by simp) λv A=>by cases A;exact⟨k',W,hy',by omega,rfl,a3⟩) rfl B
       ·exact h.elim
      ·exact h.elim
     ·exact h.elim
    ·rename_i s S;rw[G _ _ S];split at h
     ·rename_i i F;split at h
      ·rename_i D;have E:=I.cZ F;rw[D]at E;have H:=xU E;have fin:∀(a b:Nat) (v:Value),aN C.P (wD false s.size s.size (V.map e) (hi0.map e) none) (a,b,s.size)->
         v=.string (s.extract a b)->K v->
         ∃v,tZ C.P (do pure (.value (<-yo t (.string s) (V.map e) (hi0.map e) (Option.map e none)))) v/\K v:=by
        intro a b v hb A B;refine⟨v,aN.next ?_,B⟩;unfold yo;refine(aW H).bind ?_;simp only[xo,Option.map_none];refine(aW H).bind ?_;subst A;intro w;simp[hb w]
       rcases ar with⟨rfl,rfl⟩|⟨y,k,m,rfl,hy,rfl⟩<;>rcases a4 with⟨rfl,rfl⟩|⟨y',k',W,rfl,hy',rfl⟩
       ·exact fin 0 s.size _ (J _ _ _ _ _ _ _ (λ_=>rfl) (by simp) (λ_=>rfl) (by simp)) rfl h
       ·obtain⟨⟨U,Z⟩,B⟩:=h;exact fin 0 W.toNat _ (J _ _ _ _ _ _ _ (λ_=>rfl) (by simp) (by simp) λv A=>by cases A;exact⟨k',W,hy',U,rfl,Z⟩) rfl B
       ·obtain⟨⟨U,Z⟩,B⟩:=h;exact fin m.toNat s.size _ (J _ _ _ _ _ _ _ (by simp) (λv A=>by cases A;exact⟨k,m,hy,U,rfl,Z⟩) (λ_=>rfl) (by simp)) rfl B
       ·obtain⟨⟨U,Z,a3⟩,B⟩:=h;exact fin m.toNat W.toNat _ (J _ _ _ _ _ _ _ (by simp) (λv A=>by cases A;exact⟨k,m,hy,U,rfl,by omega⟩) (by simp) λv A=>by cases A;exact⟨k',W,hy',by omega,rfl,a3⟩) rfl B
      ·exact h.elim
     ·exact h.elim
    ·rename_i a S;rw[G _ _ S];split at h
     ·rename_i i F;split at h
      ·rename_i n el D;split at h
       ·rename_i j R;have E:=I.cZ F;rw[D]at E;have H:=ua E;have fin:∀(a' b:Nat) (v:Value),aN C.P (wD false n n (V.map e) (hi0.map e) none) (a',b,n)->
          v=.slice (some (if n=a' then a else a.add (a'*j.size))) (b-a') (n-a')->K v->
          ∃v,tZ C.P (do pure (.value (<-yo t (.pointer (some a)) (V.map e) (hi0.map e) (Option.map e none)))) v/\K v:=by
         intro a' b v hb A B;refine⟨v,aN.next ?_,B⟩;unfold yo;refine(aW H).bind ?_;simp only[Option.map_none];refine aN.bind (v:=a) .pure ?_;refine hb.bind ?_;subst A;exact(ee I R).bind .pure
        have ah:(if n=0 then a else a.add (0*j.size))=a:=by simp[Addr.add]
        rcases ar with⟨rfl,rfl⟩|⟨y,k,m,rfl,hy,rfl⟩<;>rcases a4 with⟨rfl,rfl⟩|⟨y',k',W,rfl,hy',rfl⟩
        ·exact fin 0 n _ (J _ _ _ _ _ _ _ (λ_=>rfl) (by simp) (λ_=>rfl) (by simp)) (by rw[ah];rfl) h
        ·obtain⟨⟨U,Z⟩,B⟩:=h;exact fin 0 W.toNat _ (J _ _ _ _ _ _ _ (λ_=>rfl) (by simp) (by simp) λv A=>by cases A;exact⟨k',W,hy',U,rfl,Z⟩) (by rw[ah];rfl) B
        ·obtain⟨⟨U,Z⟩,B⟩:=h;exact fin m.toNat n _ (J _ _ _ _ _ _ _ (by simp) (λv A=>by cases A;exact⟨k,m,hy,U,rfl,Z⟩) (λ_=>rfl) (by simp)) rfl B
        ·obtain⟨⟨U,Z,a3⟩,B⟩:=h;exact fin m.toNat W.toNat _ (J _ _ _ _ _ _ _ (by simp) (λv A=>by cases A;exact⟨k,m,hy,U,rfl,by omega⟩) (by simp) λv A=>by cases A;exact⟨k',W,hy',by omega,rfl,a3⟩) rfl B
       ·exact h.elim
      ·exact h.elim
     ·exact h.elim
    ·exact h.elim
   ·exact h.elim
 case extract x n=>
  split at h
  ·rename_i vs S;rw[G _ _ S];split at h
   ·rename_i v A;refine⟨v,aN.next ?_,h⟩;have:(⟨vs⟩:Array Value)[n]?=some v:=by simpa using A
    simp only[Instr.extract,this];exact .pure
   ·exact h.elim
  ·exact h.elim
 case binOp op t x y u=>
  split at h
  ·rename_i a b ha hb;rw[G _ _ ha,G _ _ hb];obtain⟨v,A,B⟩:=Yw (P:=C.P) (x:=x) (y:=y) (M t) h;exact⟨v,A.next,B⟩
  ·exact h.elim
 case unOp op t x=>
  split at h
  ·rename_i v A;rw[G _ _ A];unfold unV at h;split at h
   ·split at h
    ·exact⟨_,aN.next .pure,h⟩
    ·exact h.elim
   ·split at h
    ·exact⟨_,aN.next .pure,h⟩
    ·exact⟨_,aN.next .pure,h⟩
    ·exact h.elim
   ·exact h.elim
  ·exact h.elim
 case convert s d x=>
  split at h
  ·rename_i v ks A bq;rw[G _ _ A];have hs:=Jm (M _ _ bq);unfold afV at h;split at h
   ·split at h
    ·rename_i n _ k B;have H:=Jm (M _ _ B);refine⟨_,aN.next ?_,h⟩;unfold convert;refine(aW hs).bind ((aW H).bind ?_);exact .pure
    ·exact h.elim
   ·exact h.elim
  ·exact h.elim
 case build t parts=>
  split at h
  ·rename_i vs a7;have hp:(parts.map λ(i,x)=>(i,e x)).toList=vs:=by have:=Ke G a7;simpa using this
   split at h
   ·rename_i i F;obtain⟨z,hz,bl⟩:=tz I F;have ao:i.zero.toArray=z.cells:=by rw[<-bl]
    cases hbig:vT 24 i.size with
    |true=>
     rw[hbig]at h;obtain⟨v,A,B⟩:=h;have a9:(parts.map λ(i,x)=>(i,e x))=vs.toArray:=by rw[<-hp]
     refine⟨v,aN.next ?_,B⟩;show aN C.P (vU t (parts.map λ(i,x)=>(i,e x))) v;rw[a9];exact A
    |false=>
    rw[hbig]at h;simp only[cond_false]at h;split at h
    ·rename_i fs X;have E:=I.cZ F;rw[X]at E;obtain⟨gs,hg,rfl⟩:=ra E;split at h
     ·rename_i ps bk;split at h
      ·rename_i cells Q;refine⟨_,aN.next (hz.bind ((aW hg).bind ?_)),h⟩;have a6:aN C.P (gs.mapM λf=>(do pure (f.offset,<-sizeOf f.type):Sem (Nat×Nat))) ps.toArray:=by rw[vp];intro w;have:=oy I bk w;rw[map_eq_pure_bind,Sem.run_bind,this];rfl
       refine a6.bind ?_;have ax:wB (λn=>ps.toArray[n]?) z.cells (parts.map λ(i,x)=>(i,e x)).toList=some cells:=by rw[hp,<-ao];simpa using Q
       rw[ax];exact .pure
      ·exact h.elim
     ·exact h.elim
    ·rename_i n el X;have E:=I.cZ F;rw[X]at E;have H:=ua E;split at h
     ·rename_i j R;split at h
      ·rename_i cells Q;refine⟨_,aN.next (hz.bind ((aW H).bind ((ee I R).bind ?_))),h⟩;have ax:wB (λi=>some (i*j.size,j.size)) z.cells (parts.map λ(i,x)=>(i,e x)).toList=some cells:=by rw[hp,<-ao];exact Q
       rw[ax];exact .pure
      ·exact h.elim
     ·exact h.elim
    ·exact h.elim
   ·exact h.elim
  ·exact h.elim
 case makeFunc fn first captured=>
  split at h
  ·rename_i a b ha hb;have N:first.map e=a.toArray:=by apply yD;simpa using Ej G ha
   have h2:captured.map e=b.toArray:=by apply yD;simpa using Ej G hb
   refine⟨_,aN.next ?_,h⟩;rw[N,h2];exact .pure
  ·exact h.elim
 case call c=>
  split at h
  ·rename_i b hb;have L:∀{v:Value},aN C.P (builtin b c.argTypes o.type (c.args.map λ| .const _=>true|_=>false) (c.args.map e)) (.value v)->
     tZ C.P (do let d<-resolve e c o.type;invoke d.target d.args) v:=by
    intro v A w;have:=A w;unfold resolve;rw[hb];exact this
   have O:∀{vs:List Value},so ev c.args.toList=some vs->c.args.map e=vs.toArray:=λA=>by
    apply yD;simpa using Ej G A
   have Y:∀{s:Sem Value} {v:Value},aN C.P s v->aN C.P (do pure (Next.value (<-s))) (.value v):=λhs=>hs.bind .pure;split at h
   case h_1=>
    split at h
    ·rename_i t ts x N h2;split at h
     ·rename_i v A;have ha:c.args.map e=#[v]:=by apply yD;rw[vR,h2];simp[G _ _ A]
      have ht:c.argTypes[0]?=some t:=by rw[<-Array.getElem?_toList,N];rfl
      unfold aib at h;split at h
      ·rename_i p n cap;split at h
       ·rename_i el D;have H:=jN (M _ _ D);refine⟨_,L ?_,h⟩;rw[ha];refine Y ?_;intro w;simp[Builtin.len_,ht,underlying,H,goInt]
       ·exact h.elim
      ·rename_i s;split at h
       ·rename_i D;have H:=xU (M _ _ D);refine⟨_,L ?_,h⟩;rw[ha];refine Y ?_;intro w;simp[Builtin.len_,ht,underlying,H,goInt]
       ·exact h.elim
      ·exact h.elim
     ·exact h.elim
    ·exact h.elim
   case h_2=>
    split at h
    ·rename_i t ts x N h2;split at h
     ·rename_i v A;have ha:c.args.map e=#[v]:=by apply yD;rw[vR,h2];simp[G _ _ A]
      have ht:c.argTypes[0]?=some t:=by rw[<-Array.getElem?_toList,N];rfl
      unfold aic at h;split at h
      ·rename_i p n cap;split at h
       ·rename_i el D;have H:=jN (M _ _ D);refine⟨_,L ?_,h⟩;rw[ha];refine Y ?_;intro w;simp[Builtin.cap_,ht,underlying,H,goInt]
       ·exact h.elim
      ·exact h.elim
     ·exact h.elim
    ·exact h.elim
   case h_3=>
    split at h
    ·rename_i k a k' b A;refine⟨_,L ?_,h⟩;rw[O A];refine Y ?_;intro w;simp[Builtin.min_,Builtin.min2]
    ·exact h.elim
   case h_4=>
    split at h
    ·rename_i k a k' b A;refine⟨_,L ?_,h⟩;rw[O A];refine Y ?_;intro w;simp[Builtin.max_,Builtin.max2]
    ·exact h.elim
   case h_5=>
    split at h
    ·rename_i k a b A;refine⟨_,L ?_,h⟩;rw[O A];exact Y .pure
    ·exact h.elim
   case h_6=>
    split at h
    ·rename_i k a b A;refine⟨_,L ?_,h⟩;rw[O A];exact Y .pure
    ·exact h.elim
   all_goals exact h.elim
  ·exact h.elim
 all_goals exact h.elim
end
def aq(h:Heap)(a:Addr):Nat->List Value->Prop
 |_,[]=>True
 |n,v::r=>cellOf h (a.add n)=some v/\aq h a (n+1) r
structure BD where
 a:Addr
 ty:Ty
 n:Nat
def BD.holds(r:BD)(h:Heap)(y:r.ty.den):Prop:=
 match r.ty,y with
 | .sc s,y=>cellOf h r.a=some (s.enc y)
 | .agg l,y=>aq h r.a 0 (Cu l y)
 | .arr s,y=>y.length=r.n/\aq h r.a 0 (y.map s.enc)
def Ac(T:kJ)(op:Op)(ev:Operand->Option Value):Option BD:=
 match op with
 | .load t x=>match ev x with
  |some (.pointer (some a))=>match T.get t with
   |some i=>match i.cZ with
    | .struct _=>match i.ty with
     | .agg l=>bif wG l.length i.size then some ⟨a,i.ty,i.size⟩else none
     |_=>none
    | .array _ _=>match i.ty with
     | .arr _=>some ⟨a,i.ty,i.size⟩
     |_=>none
    | .other=>none
    |_=>match i.ty with
     | .sc _=>some ⟨a,i.ty,1⟩
     |_=>none
   |none=>none
  |_=>none
 |_=>none
theorem Kg:∀(l:List Sc) (x:OL l),(Cu l x).length=l.length
 |[],_=>rfl
 |[_],_=>rfl
 |_::t::r,x=>by simp only[Cu,zn];rw[Kg (t::r) x.2];rfl
theorem run_loadCells{P:Program}{w:World}{a:Addr}:∀(vs:List Value) (i:Nat) (b:Array Value),aq w.heap a i vs->
  (loadCellsFrom a i vs.length b).run P w=.ok (b++vs.toArray) w
 |[],i,b,_=>by simp[loadCellsFrom]
 |v::r,i,b,h=>by
  simp only[zn,loadCellsFrom,Sem.run_bind,run_load,OJ,h.1,Result.andThen_ok];rw[run_loadCells r (i+1) (b.push v) h.2];simp
theorem Ek{C:Di}(k:C.Ok){ev:Operand->Option Value}{e:Operand->Value}(E:∀x v,ev x=some v->e x=v){o:Oper}{r:BD}
  (b:Ac C.T o.op ev=some r) {y:r.ty.den} {w:World} (d:r.holds w.heap y):(execOp e o).run C.P w=.ok (.value (r.ty.enc y)) w:=by
 unfold Ac at b;split at b
 ·rename_i t x u;simp only[execOp,u];split at b
  ·rename_i a B;rw[E _ _ B];split at b
   ·rename_i i m;have h:(∀v,(loadVar t a).run C.P w=.ok v w->(do let s<-vZ t (.pointer (some a));pure (Next.value s):Sem Next).run C.P w=.ok (.value v) w):=by intro v z;have:vZ t (.pointer (some a))=loadVar t a:=rfl;rw[this,Sem.run_bind,z];rfl
    split at b
    ·rename_i A f;split at b
     ·rename_i l g;cases hb:wG l.length i.size with
      |false=>rw[hb]at b;cases b
      |true=>
       rw[hb]at b;simp only[cond_true,zR.injEq]at b;subst b;have j:=zM hb;have c:∀(ty:Ty) (y:ty.den),ty=.agg l->BD.holds ⟨a,ty,i.size⟩ w.heap y->(loadVar t a).run C.P w=.ok (ty.enc y) w:=by rintro ty y rfl d;unfold loadVar;rw[Sem.run_bind,(lL k m).1 A f w];simp only[Result.andThen_ok,if_true,Sem.run_bind,ee k m w];have p:=run_loadCells (P:=C.P) (w:=w) (a:=a) (Cu l y) 0 #[] d;rw[Kg,j]at p;unfold loadCells;rw[p];simp
       exact h _ (c i.ty y g d)
     ·cases b
    ·rename_i n H f;split at b
     ·rename_i s g;cases b;have c:∀(ty:Ty) (y:ty.den),ty=.arr s->BD.holds ⟨a,ty,i.size⟩ w.heap y->(loadVar t a).run C.P w=.ok (ty.enc y) w:=by rintro ty y rfl ⟨g,d⟩;unfold loadVar;rw[Sem.run_bind,(lL k m).2.1 n H f w];simp only[Result.andThen_ok,if_true,Sem.run_bind,ee k m w];have p:=run_loadCells (P:=C.P) (w:=w) (a:=a) (y.map s.enc) 0 #[] d;rw[List.length_map,g]at p;unfold loadCells;rw[p];simp
      exact h _ (c i.ty y g d)
     ·cases b
    ·cases b
    ·rename_i F G D;split at b
     ·rename_i s g;cases b;have c:∀(ty:Ty) (y:ty.den),ty=.sc s->BD.holds ⟨a,ty,1⟩ w.heap y->(loadVar t a).run C.P w=.ok (ty.enc y) w:=by rintro ty y rfl d;have q:cellOf w.heap a=some (s.enc y):=d;unfold loadVar;rw[Sem.run_bind,(lL k m).2.2 F G D w];simp[OJ,q]
      exact h _ (c i.ty y g d)
     ·cases b
   ·cases b
  ·cases b
 ·cases b
def Typed(t:Ty)(K:Value->Heap->Prop)(v:Value)(h:Heap):Prop:=∃x:t.den,v=t.enc x/\K (t.enc x) h
def Ml(t:Rt)(K:Value->Heap->Prop)(v:Value)(h:Heap):Prop:=∃x:t.den,v=t.enc x/\K (t.enc x) h
def Mm(K:Value->Heap->Prop)(v:Value)(h:Heap):Prop:=∃a:Addr,v=.pointer (some a)/\K (.pointer (some a)) h
def aie(T:kJ)(t:TypeId)(tup:List (TypeId×List Ty)):Option Rt:=
 match tup.find? (λp=>wG p.1 t)with
 |some p=>some (.many p.2)
 |none=>match T.get t with
  |some i=>some (.one i.ty)
  |none=>none
structure Ctx extends Di where
 tup:List (TypeId×List Ty)
 fns:List Bool
structure Ctx.Ok (C:Ctx):Prop extends Di.Ok C.toDi where
 fns:(C.P.funcs.toList.map λf=>!(f.name== "runtime.NumGoroutine")&&f.body.isSome)=C.fns
def Yx(C:Ctx)(g:FuncId)(args:List Value)(t:TypeId)(K:Value->Heap->Prop)(h:Heap):Prop:=
 match C.fns[g]? with
 |some true=>match aie C.T t C.tup with
  |some r=>ac C.P g args.toArray h (Ml r K)
  |none=>False
 |_=>False
def Mn(C:Ctx)(o:Oper)(ev:Operand->Option Value)(K:Value->Heap->Prop)(h:Heap):Prop:=
 match o.op with
 | .store t a x=>match ev a,ev x with
  |some p,some v=>ag C.P (Instr.storeAt t p v) h λ_ h'=>K undef h'
  |_,_=>False
 | .alloc t=>ag C.P (Instr.alloc t true (.tuple #[])) h (Mm K)
 | .box t x=>match ev x with
  |some v=>ag C.P (Instr.box t v) h (Mm K)
  |none=>False
 | .makeSlice t l c=>match ev l,ev c with
  |some l,some c=>ag C.P (Instr.makeSlice t l c) h (Typed (.sc .slc) K)
  |_,_=>False
 | .buildSlice t n parts=>match GM ev parts.toList with
  |some ps=>ag C.P (Instr.buildSlice t n ps.toArray) h (Typed (.sc .slc) K)
  |none=>False
 | .makeMap t none=>ag C.P (Instr.makeMap t none) h (Typed (.sc .mp) K)
 | .lookup t x ix ok=>match ev x,ev ix,aie C.T o.type C.tup with
  |some m,some k,some r=>ag C.P (Instr.lookup t m k ok) h (Ml r K)
  |_,_,_=>False
 | .mapUpdate t m k x=>match ev m,ev k,ev x with
  |some m,some k,some v=>ag C.P (Instr.mapUpdate t m k v) h λ_ h'=>K undef h'
  |_,_,_=>False
 | .insert t m k x=>match ev m,ev k,ev x with
  |some m,some k,some v=>ag C.P (Instr.mapUpdate t m k v) h λ_ h'=>K undef h'
  |_,_,_=>False
 | .convert s d x=>match ev x,C.T.get o.type with
  |some v,some i=>ag C.P (convert s d v) h (Typed i.ty K)
  |_,_=>False
 | .binOp op t x y _=>match ev x,ev y,C.T.get o.type with
  |some a,some b,some i=>ag C.P (do eqGuard op t x y a b;binOp op t a b) h (Typed i.ty K)
  |some a,some b,none=>ag C.P (do eqGuard op t x y a b;binOp op t a b) h (Typed (.sc .bool) K)
  |_,_,_=>False
 | .slice t x lo hi mx=>match optVal ev lo,optVal ev hi,optVal ev mx,ev x with
  |some l,some r,some m,some v=>ag C.P (yo t v l r m) h (Typed (.sc .slc) K)
  |_,_,_,_=>False
 | .call c=>match c.callee with
  | .builtin .append=>match so ev c.args.toList with
   |some vs=>ag C.P (Builtin.append_ c.argTypes o.type vs.toArray) h (Typed (.sc .slc) K)
   |none=>False
  | .builtin .copy=>match so ev c.args.toList with
   |some vs=>ag C.P (Builtin.copy_ c.argTypes o.type vs.toArray) h (Typed (.sc (.int .i64)) K)
   |none=>False
  | .builtin .clear=>match so ev c.args.toList with
   |some vs=>ag C.P (Builtin.clear_ c.argTypes o.type vs.toArray) h K
   |none=>False
  | .builtin .len=>match so ev c.args.toList with
   |some vs=>ag C.P (Builtin.len_ c.argTypes o.type vs.toArray) h (Typed (.sc (.int .i64)) K)
   |none=>False
  | .builtin .unsafeString=>match so ev c.args.toList with
   |some vs=>ag C.P (Builtin.unsafeString_ c.argTypes o.type vs.toArray) h (Typed (.sc .str) K)
   |none=>False
  | .builtin .delete=>match so ev c.args.toList with
   |some vs=>ag C.P (Builtin.delete_ c.argTypes o.type vs.toArray) h K
   |none=>False
  | .value f=>match ev f,so ev c.args.toList with
   |some (.func (.func g) ⟨first⟩ ⟨caps⟩),some vs=>Yx C g (first++vs++caps) o.type K h
   |_,_=>False
  |_=>False
 |_=>False
where
 optVal (ev:Operand->Option Value):Option Operand->Option (Option Value)
  |none=>some none
  |some x=>match ev x with
   |some v=>some (some v)
   |none=>none
section
variable {P:Program} {h:Heap} {K:Value->Heap->Prop}
theorem go{s:Sem Value}(a:ag P s h K):Dg P (do pure (.value (<-s))) h K:=
 ag.bind (a.mono λ_ _ b=>ag.pure' b)
theorem KX{s:Sem Unit}(b:ag P s h λ_ h'=>K undef h'):Dg P (do s;pure .skip) h K:=
 ag.bind (b.mono λ_ _ a=>ag.pure' a)
theorem Typed.out{t:Ty}{v:Value}{h:Heap}(x:Typed t K v h):K v h:=by obtain⟨y,rfl,a⟩:=x;exact a
theorem Ml.out{t:Rt}{v:Value}{h:Heap}(x:Ml t K v h):K v h:=by obtain⟨y,rfl,a⟩:=x;exact a
theorem Mm.out{v:Value}{h:Heap}(x:Mm K v h):K v h:=by obtain⟨y,rfl,a⟩:=x;exact a
end
theorem VT{C:Ctx}(d:C.Ok){g:FuncId}{args:List Value}{t:TypeId}{K:Value->Heap->Prop}{h:Heap}(b:Yx C g args t K h):
  Dg C.P (callFunc g args.toArray) h K:=by
 unfold Yx at b;split at b
 ·rename_i e;split at b
  ·rename_i r i;have a:=congrArg (·[g]?) d.fns;simp only[qT,e]at a;cases hf:C.P.funcs.toList[g]? with
   |none=>rw[hf]at a;cases a
   |some fn=>
    rw[hf]at a;simp only[qZ,zR.injEq,qB,Bool.not_eq_true']at a;have c:C.P.funcs[g]?=some fn:=by simpa using hf
    have f:fn.body.isNone=false:=by cases hbb:fn.body<;>simp[hbb]at a⊢
    unfold callFunc;refine ag.bind (ag.adR ?_);simp only[c,a.1,f];exact ag.pure' (b.mono λv h' x=>x.out)
  ·exact b.elim
 ·exact b.elim
theorem Yy{C:Ctx}(V:C.Ok){ev:Operand->Option Value}{e:Operand->Value}(A:∀x v,ev x=some v->e x=v){o:Oper}
  {K:Value->Heap->Prop} {h:Heap} (j:Mn C o ev K h):Dg C.P (execOp e o) h K:=by
 have G:∀{x:Option Operand} {r:Option Value},Mn.optVal ev x=some r->x.map e=r:=by
  intro x r J;cases x with
  |none=>cases J;rfl
  |some y=>
   simp only[Mn.optVal]at J;split at J
   ·rename_i v B;cases J;rw[qZ,A _ _ B]
   ·cases J
 unfold Mn at j;split at j
 ·rename_i t a x q;simp only[execOp,q];split at j
  ·rename_i p v Z B;rw[A _ _ Z,A _ _ B];exact KX j
  ·exact j.elim
 ·rename_i t q;simp only[execOp,q];exact go (j.mono λ_ _ x=>x.out)
 ·rename_i t x q;simp only[execOp,q];split at j
  ·rename_i v B;rw[A _ _ B];exact go (j.mono λ_ _ x=>x.out)
  ·exact j.elim
 ·rename_i t l c q;simp only[execOp,q];split at j
  ·rename_i v u B W;rw[A _ _ B,A _ _ W];exact go (j.mono λ_ _ x=>x.out)
  ·exact j.elim
 ·rename_i t n parts q;simp only[execOp,q];split at j
  ·rename_i T M;have:(parts.map λ(i,x)=>(i,e x))=T.toArray:=by apply yD;have:=Ke A M;simpa using this
   rw[this];exact go (j.mono λ_ _ x=>x.out)
  ·exact j.elim
 ·rename_i t q;simp only[execOp,q];exact go (j.mono λ_ _ x=>x.out)
 ·rename_i t x ix ok q;simp only[execOp,q];split at j
  ·rename_i m k r H F R;rw[A _ _ H,A _ _ F];exact go (j.mono λ_ _ x=>x.out)
  ·exact j.elim
 ·rename_i t m k x q;simp only[execOp,q];split at j
  ·rename_i Y X v H F B;rw[A _ _ H,A _ _ F,A _ _ B];exact KX j
  ·exact j.elim
 ·rename_i t m k x q;simp only[execOp,q];split at j
  ·rename_i Y X v H F B;rw[A _ _ H,A _ _ F,A _ _ B];exact KX j
  ·exact j.elim
 ·rename_i s d x q;simp only[execOp,q];split at j
  ·rename_i v i B Q;rw[A _ _ B];exact go (j.mono λ_ _ x=>x.out)
  ·exact j.elim
 ·rename_i op t x y u q;simp only[execOp,q];split at j
  ·rename_i a b i N O Q;rw[A _ _ N,A _ _ O];exact go (j.mono λ_ _ x=>x.out)
  ·rename_i a b N O Q;rw[A _ _ N,A _ _ O];exact go (j.mono λ_ _ x=>x.out)
  ·exact j.elim
 ·rename_i t x lo Q mx q;simp only[execOp,q];split at j
  ·rename_i l r m v U R H B;rw[G U,G R,G H,A _ _ B];exact go (j.mono λ_ _ x=>x.out)
  ·exact j.elim
 ·rename_i c q;simp only[execOp,q];have w:∀{vs:List Value},so ev c.args.toList=some vs->c.args.map e=vs.toArray:=λB=>by
   apply yD;simpa using Ej A B
  split at j
  ·rename_i D;split at j
   ·rename_i vs z;unfold resolve;rw[D,w z];exact go (j.mono λ_ _ x=>x.out)
   ·exact j.elim
  ·rename_i D;split at j
   ·rename_i vs z;unfold resolve;rw[D,w z];exact go (j.mono λ_ _ x=>x.out)
   ·exact j.elim
  ·rename_i D;split at j
   ·rename_i vs z;unfold resolve;rw[D,w z];exact go j
   ·exact j.elim
  ·rename_i D;split at j
   ·rename_i vs z;unfold resolve;rw[D,w z];exact go (j.mono λ_ _ x=>x.out)
   ·exact j.elim
  ·rename_i D;split at j
   ·rename_i vs z;unfold resolve;rw[D,w z];exact go (j.mono λ_ _ x=>x.out)
   ·exact j.elim
  ·rename_i D;split at j
   ·rename_i vs z;unfold resolve;rw[D,w z];exact go j
   ·exact j.elim
  ·rename_i f D;split at j
   ·rename_i g first E vs S z
    unfold resolve;rw[D,w z];simp only[A _ _ S];have:=VT V j;have I:(⟨first⟩:Array Value)++vs.toArray++(⟨E⟩:Array Value)=(first++vs++E).toArray:=by simp
    have L:Dg C.P (callFunc g ((⟨first⟩:Array Value)++vs.toArray++(⟨E⟩:Array Value))) h K:=by rw[I];exact this
    simp only[Deferred.ofValue];exact L
   ·exact j.elim
  ·exact j.elim
 ·exact j.elim
def put(n:Nat)(a:Option Tmp)(K:Env->Heap->Prop)(ρ:Env)(v:Value)(h:Heap):Prop:=
 match a with
 |some d=>bif vT d n then K (.val d v::ρ) h else False
 |none=>K ρ h
theorem Ad{n:Nat}{b:Option Tmp}{K:Env->Heap->Prop}{ρ:Env}{v:Value}{h:Heap}(c:put n b K ρ v h){a:Act}(e:Fits n a ρ):
  ∃ρ',Fits n (a.put b v) ρ'/\Ext ρ ρ' a (a.put b v)/\K ρ' h:=by
 unfold put at c;cases b with
 |none=>exact⟨ρ,e,Ext.refl _ _,c⟩
 |some d=>
  simp only at c;cases hb:vT d n with
  |false=>rw[hb]at c;exact c.elim
  |true=>rw[hb]at c;exact⟨_,e.put hb v,Ext.put v v,c⟩
def adY(C:Ctx)(n:Nat)(o:Oper)(K:Env->Heap->Prop)(ρ:Env)(h:Heap):Prop:=
 match Dj C.P C.T o.op ρ.eval with
 | .no=>match Ac C.T o.op ρ.eval with
  |some r=>∃y:r.ty.den,r.holds h y/\put n o.dst K ρ (r.ty.enc y) h
  |none=>Mn C o ρ.eval (put n o.dst K ρ) h
 |p=>p.holds λv=>put n o.dst K ρ v h
def Mo(ops:Array Oper)(o:Oper)(ρ:Env)(a skip:Env->Prop):Prop:=
 match o.guard with
 |none=>a ρ
 |some (j,want)=>match(ops[j]?).bind (·.dst)with
  |some d=>match ρ.get d with
   |some (.bool b)=>Br b (bif want then a (.val d (.bool true)::ρ)else skip (.val d (.bool true)::ρ)) (bif want then skip (.val d (.bool false)::ρ)else a (.val d (.bool false)::ρ))
   |some (.tuple _)=>skip ρ
   |_=>False
  |none=>False
theorem Fits.known{n:Nat}{a:Act}{ρ:Env}(c:Fits n a ρ){d:Nat}{v:Value}(e:ρ.get d=some v):Fits n a (.val d v::ρ)/\Ext ρ (.val d v::ρ) a a:=by
 refine⟨⟨c.size,c.defers,λt x b=>?_⟩,⟨[.val d v],rfl,λ_ _=>rfl⟩⟩;simp only[Env.get]at b;cases hb:wG d t with
 |false=>rw[hb]at b;exact c.get t x b
 |true=>
  rw[hb]at b;have:=zM hb;subst this;rw[cond_true]at b;exact c.get _ x (e.trans b)
theorem Kh{ops:Array Oper}{o:Oper}{ρ:Env}{g skip:Env->Prop}{n:Nat}{a:Act}(e:Fits n a ρ)(c:Mo ops o ρ g skip):
  ∃ρ',Fits n a ρ'/\Ext ρ ρ' a a/\((Region.wanted o (yielded ops a.tmps)=true/\g ρ')∨(Region.wanted o (yielded ops a.tmps)=false/\skip ρ')):=by
 unfold Mo at c;unfold Region.wanted;split at c
 ·rename_i l;rw[l];exact⟨ρ,e,Ext.refl _ _,.inl ⟨rfl,c⟩⟩
 ·rename_i j f l;rw[l];split at c
  ·rename_i d p;split at c
   ·rename_i b i;have m:yielded ops a.tmps j=some b:=by unfold yielded;rw[p];simp[e.get _ _ i]
    simp only[m];obtain⟨k,h⟩:=e.known i;cases b<;>cases f<;>simp only[Br,cond_true,cond_false]at c
    ·exact⟨_,k,h,.inl ⟨rfl,c⟩⟩
    ·exact⟨_,k,h,.inr ⟨rfl,c⟩⟩
    ·exact⟨_,k,h,.inr ⟨rfl,c⟩⟩
    ·exact⟨_,k,h,.inl ⟨rfl,c⟩⟩
   ·rename_i vs i;have m:yielded ops a.tmps j=none:=by unfold yielded;rw[p];simp[e.get _ _ i]
    simp only[m];exact⟨ρ,e,Ext.refl _ _,.inr ⟨by simp,c⟩⟩
   ·exact c.elim
  ·exact c.elim
theorem aaJ{C:Ctx}(g:C.Ok){n:Nat}{o:Oper}{K:Env->Heap->Prop}{ρ:Env}{a:Act}{w:World}(j:Fits n a ρ)(d:adY C n o K ρ w.heap)
  {Q:Exit->Act->World->Prop} {next:Act->World->Prop}
  (l:∀a' w' ρ',Fits n a' ρ'->Ext ρ ρ' a a'->dE w w'->K ρ' w'.heap->next a' w'):o.wp C.P a w next Q:=by
 have i:∀x v,ρ.eval x=some v->a.eval x=v:=λx v h=>j.eval h;have b:∀v w',dE w w'->put n o.dst K ρ v w'.heap->next (a.put o.dst v) w':=λv w' p s=>by
  obtain⟨ρ',q,m,h3⟩:=Ad s j;exact l _ _ _ q m p h3
 have c:(Dj C.P C.T o.op ρ.eval).holds (λv=>put n o.dst K ρ v w.heap)->o.wp C.P a w next Q:=λh=>by
  obtain⟨v,k,f⟩:=Mk g.toOk i h;unfold Oper.wp;rw[k w];exact b v w (dE.refl w) f
 unfold adY at d;split at d
 ·split at d
  ·rename_i r e;obtain⟨y,t,f⟩:=d;unfold Oper.wp;rw[Ek g.toOk i e t];exact b _ w (dE.refl w) f
  ·exact ajG (Yy g i d) b
 ·exact c d
def Jn(C:Ctx)(n:Nat)(ops:Array Oper)(o:Oper)(K:Env->Heap->Prop)(ρ:Env)(h:Heap):Prop:=
 Mo ops o ρ (λρ=>adY C n o K ρ h) (λρ=>put n o.dst K ρ undef h)
theorem Mp{C:Ctx}(k:C.Ok){n:Nat}{ops:Array Oper}{o:Oper}{i:Nat}(l:ops[i]?=some o){K:Env->Heap->Prop}{ρ:Env}{a:Act}{w:World}
  (f:Fits n a ρ) (m:Jn C n ops o K ρ w.heap) {Q:Exit->Act->World->Prop} {next:Act->World->Prop}
  (c:∀a' w' ρ',Fits n a' ρ'->Ext ρ ρ' a a'->dE w w'->K ρ' w'.heap->next a' w'):wpOp C.P ops Q i next a w:=by
 obtain⟨ρ',e,d,h3⟩:=Kh f m;unfold wpOp;simp only[l];rcases h3 with⟨hw,hr⟩|⟨hw,hr⟩
 ·simp only[hw,if_true];exact .inl (aaJ k e hr λa' w' b j x2 x3 q=>c _ _ _ j (d.trans x2) x3 q)
 ·simp only[hw,zj,if_false];obtain⟨b,g,h,p⟩:=Ad hr e;exact c _ _ _ g (d.trans h) (dE.refl w) p
def adZ(C:Ctx)(n:Nat)(ops:Array Oper)(K:Env->Heap->Prop):List Oper->Env->Heap->Prop
 |[],ρ,h=>K ρ h
 |o::r,ρ,h=>Jn C n ops o (adZ C n ops K r) ρ h
def Out(n:Nat)(Q:Exit->Env->Heap->Prop)(ρ:Env)(a:Act)(w:World):Exit->Act->World->Prop:=λe a' w'=>
 ∃ρ',Fits n a' ρ'/\Ext ρ ρ' a a'/\dE w w'/\Q e ρ' w'.heap
theorem Qd{C:Ctx}(c:C.Ok){n:Nat}{ops:Array Oper}{K:Env->Heap->Prop}{Q:Exit->Act->World->Prop}{ρ0:Env}{a0:Act}{w0:World}
  (b:∀a w ρ,Fits n a ρ->Ext ρ0 ρ a0 a->dE w0 w->K ρ w.heap->Q .normal a w):
  ∀(r:List Oper) (i:Nat),(∀j,r[j]?=ops[i+j]?)->∀(ρ:Env) (a:Act) (w:World),Fits n a ρ->Ext ρ0 ρ a0 a->dE w0 w->adZ C n ops K r ρ w.heap->
   wpOps C.P ops Q (List.range' i r.length) a w
 |[],i,_,ρ,a,w,hf,hx,hl,hs=>b a w ρ hf hx hl hs
 |o::r,i,hr,ρ,a,w,hf,hx,hl,hs=>by
  have g:ops[i]?=some o:=by simpa using(hr 0).symm
  rw[zn,List.range'_succ,wpOps_cons];refine Mp c g hf hs λa' w' ρ' f d h3 e=>?_;exact Qd c b r (i+1) (λj=>by have:=hr (j+1);simpa[Nat.add_assoc,Nat.add_comm 1 j]using this) ρ' a' w' f (hx.trans d) (hl.trans h3) e
abbrev az:=List (Addr×Value)
def az.ok:az->Heap->Prop
 |[],_=>True
 |p::r,h=>cellOf h p.1=some p.2/\az.ok r h
def nh(a:Addr):Nat->List Value->az->az
 |_,[],L=>L
 |n,v::r,L=>(a.add n,v)::nh a (n+1) r L
theorem oz{a:Addr}{h:Heap}:∀{vs:List Value} {n:Nat} {L:az},(nh a n vs L).ok h↔aq h a n vs/\L.ok h
 |[],_,L=>by simp[nh,aq]
 |v::r,n,L=>by simp only[nh,az.ok,aq,oz (vs:=r),and_assoc]
def BD.held(r:BD)(y:r.ty.den)(L:az):az:=
 match r.ty,y with
 | .sc s,y=>(r.a,s.enc y)::L
 | .agg l,y=>nh r.a 0 (Cu l y) L
 | .arr s,y=>nh r.a 0 (y.map s.enc) L
theorem BD.agR{r:BD}{y:r.ty.den}{L:az}{b:Heap}(c:r.holds b y){m:Heap}:(r.held y L).ok m↔r.holds m y/\L.ok m:=by
 obtain⟨a,ty,n⟩:=r;cases ty with
 |sc s=>exact Iff.rfl
 |agg l=>exact oz
 |arr s=>exact oz.trans ⟨λx=>⟨⟨c.1,x.1⟩,x.2⟩,λx=>⟨x.1.2,x.2⟩⟩
structure gv where
 op:Nat
 r:BD
 y:r.ty.den
def flat:List gv->az
 |[]=>[]
 |p::r=>p.r.held p.y (flat r)
def gv.ok(p:gv)(w:World):Prop:=p.r.holds w.heap p.y
def waits(ops:Array Oper)(j i:Nat):Bool:=match ops[j]? with
 |some o=>o.after.any λe=>Region.binds .any e&&wG e.on i
 |none=>false
def keep(ops:Array Oper)(j:Nat):List gv->List gv
 |[]=>[]
 |p::r=>bif waits ops j p.op then keep ops j r else p::keep ops j r
theorem sQ{ops:Array Oper}{j:Nat}:∀{L:List gv},∀p∈keep ops j L,p∈L
 |[],p,h=>by cases h
 |q::r,p,h=>by
  unfold keep at h;cases hw:waits ops j q.op with
  |true=>rw[hw]at h;exact qG _ (sQ p h)
  |false=>
   rw[hw]at h;rcases zb.1 h with rfl|h
   ·exact qN
   ·exact qG _ (sQ p h)
theorem El{ops:Array Oper}{j:Nat}:∀{L:List gv} {p:gv},p∈L->waits ops j p.op=false->p∈keep ops j L
 |q::r,p,h,hw=>by
  unfold keep;rcases zb.1 h with rfl|h
  ·rw[hw];exact qN
  ·cases hq:waits ops j q.op with
   |true=>exact El h hw
   |false=>exact qG _ (El h hw)
theorem KY{ops:Array Oper}{j:Nat}{p:gv}:∀{M:List gv},p∈keep ops j M->waits ops j p.op=false
 |[],h=>by cases h
 |q::r,h=>by
  unfold keep at h;cases hq:waits ops j q.op with
  |true=>rw[hq]at h;exact KY h
  |false=>
   rw[hq]at h;rcases zb.1 h with rfl|h
   ·exact hq
   ·exact KY h
theorem GN{ops:Array Oper}{j:Nat}{L a:List gv}(c:∀p∈a,p∈L):∀p∈keep ops j a,p∈keep ops j L:=
 λp b=>El (c p (sQ p b)) (KY b)
def mG(P:Program)(ops:Array Oper)(Q:Exit->Act->World->Prop):Nat->List gv->Array Bool->Act->World->Prop
 |0,_,listed,a,w=>Region.ready .any ops listed=[]/\Q .normal a w
 |fuel+1,L,listed,a,w=>
  (Region.ready .any ops listed=[]->Q .normal a w)/\
  ∀i∈Region.ready .any ops listed,wpOp P ops Q i (λa' w'=>(∀p∈keep ops i L,p.ok w')/\mG P ops Q fuel (keep ops i L) (listed.setIfInBounds i true) a' w') a w
theorem Mq{P:Program}{ops:Array Oper}{Q:Exit->Act->World->Prop}:∀(c:Nat) (L:List gv) (b:Array Bool) (a:Act) (w:World),mG P ops Q c L b a w->wpAny P .any ops Q c b a w
 |0,_,_,_,_,h=>h
 |c+1,_,_,_,_,h=>⟨h.1,λi d=>wpOp_mono (λa' w' h'=>Mq c _ _ a' w' h'.2) (h.2 i d)⟩
theorem Em{P:Program}{ops:Array Oper}{Q:Exit->Act->World->Prop}:∀(c:Nat) {L d:List gv} (b:Array Bool) (a:Act) (w:World),(∀p∈d,p∈L)->mG P ops Q c L b a w->mG P ops Q c d b a w
 |0,_,_,_,_,_,_,h=>h
 |c+1,_,_,_,_,_,hs,h=>⟨h.1,λi e=>wpOp_mono (λa' w' h'=>⟨λp f=>h'.1 p (GN hs p f),Em c _ a' w' (GN hs) h'.2⟩) (h.2 i e)⟩
theorem SM{P:Program}{ops:Array Oper}{Q:Exit->Act->World->Prop}{i:Nat}{r:Oper}{v:Value}{T:World->Prop}{N:List gv}(Y:ops[i]?=some r)(x:∀(j:Nat) (o:Oper) cs b,ops[j]?=some o->o.op≠.select cs b)
  (hQ:∀c a w,Q (.panic c) (a.put r.dst v) w->Q (.panic c) a w) (hN:∀p∈N,p.op=i) (hT:∀w,(∀p∈N,p.ok w)->T w):
  ∀(f:Nat) (L:List gv) (d:Array Bool) (a:Act) (w:World),
   (∀j t,ops[j]?=some t->j≠i->d.getD j true=false->(∀e∈t.after,Region.binds .any e=true->e.on≠i)->r.apart ops t=true)->
   i∈Region.ready .any ops d->YieldsIf P ops T r v a->(∀p∈N,p.ok w)->(∀p∈L,p.ok w)->
   mG P ops Q f (N++L) (d.setIfInBounds i true) (a.put r.dst v) w->mG P ops Q (f+1) L d a w:=by
 intro f;have z:∀(f:Nat) (L:List gv) (d:Array Bool) (a:Act) (w:World),YieldsIf P ops T r v a->(∀p∈N,p.ok w)->(∀p∈L,p.ok w)->
   mG P ops Q f (N++L) (d.setIfInBounds i true) (a.put r.dst v) w->
   wpOp P ops Q i (λa' w'=>(∀p∈keep ops i L,p.ok w')/\mG P ops Q f (keep ops i L) (d.setIfInBounds i true) a' w') a w:=λf L d a w G q J H=>
  G.wpOp Y (hT w q) ⟨λp g=>J p (sQ p g),Em f _ _ _ (λp g=>wV _ (sQ p g)) H⟩
 induction f with
 |zero=>
  intro L d a w _ D G q J H;refine⟨λh=>(by rw[h]at D;cases D),λj S=>?_⟩;by_cases l:j=i
  ·subst l;exact z 0 L d a w G q J H
  ·have:=ready_mono S l;rw[H.1]at this;cases this
 |succ f ih=>
  intro L d a w n D G q J H;refine⟨λh=>(by rw[h]at D;cases D),λj S=>?_⟩;by_cases l:j=i
  ·subst l;exact z (f+1) L d a w G q J H
  ·have E:=H.2 j (ready_mono S l);obtain⟨B,t,u,K⟩:=mem_ready.1 S;have A:∀e∈t.after,Region.binds .any e=true->e.on≠i:=λe he M W=>by
    have E:=K e he M;have Z:=(mem_ready.1 D).1;rw[W]at E;rcases Nat.lt_or_ge i d.size with h'|h'
    ·simp[h']at Z E;rw[Z]at E;cases E
    ·simp[Array.getElem?_eq_none h']at E
   have R:(t.after.any λe=>Region.binds .any e&&wG e.on i)=false:=by
    cases hc:t.after.any λe=>Region.binds .any e&&wG e.on i with
    |false=>rfl
    |true=>
     obtain⟨k,V,M⟩:=Array.any_eq_true.1 hc;simp only[qB]at M;exact absurd (zM M.2) (A _ (Array.getElem_mem V) M.1)
   have F:waits ops j i=false:=by unfold waits;rw[u];exact R
   have y:∀p,p∈N->p∈keep ops j (N++L):=λp g=>El (List.mem_append_left _ g) (by rw[hN p g];exact F);have m:∀p,p∈keep ops j L->p∈keep ops j (N++L):=GN λp g=>wV _ g;have h2:=wpOp_putIf u (n j t u l B A) (λcs b=>x i r cs b Y) (λcs b=>x j t cs b u) hQ G E;have s:∀k ok,ops[k]?=some ok->k≠i->(d.setIfInBounds j true).getD k true=false->
     (∀e∈ok.after,Region.binds .any e=true->e.on≠i)->r.apart ops ok=true:=λk ok V U I X=>by
    refine n k ok V U ?_ X;by_cases O:j=k
    ·subst O;exact B
    ·rw[getD_set_ne true O]at I;exact I
   refine wpOp_mono (λa' w' h3=>⟨λp g=>h3.2.1 p (m p g),ih (keep ops j L) (d.setIfInBounds j true) a' w' s (ready_mono D (Ne.symm l)) h3.1 (λp g=>h3.2.1 p (y p g)) (λp g=>h3.2.1 p (m p g)) ?_⟩) h2;rw[Array.setIfInBounds_comm _ _ l];refine Em _ _ _ _ (λp g=>?_) h3.2.2;rcases List.mem_append.1 g with g|g
   ·exact y p g
   ·exact m p g
theorem Cw{P:Program}{ops:Array Oper}{Q:Exit->Act->World->Prop}{i:Nat}{e:Oper}{v:Value}{T:World->Prop}{N:List gv}{d:Nat}{L:List gv}{b:Array Bool}{a:Act}{w:World}(g:ops[i]?=some e)
  (o:Region.noSelect ops=true) (j:Region.free .any ops b i=true) (m:(Region.ready .any ops b).contains i=true)
  (l:∀c a w,Q (.panic c) (a.put e.dst v) w->Q (.panic c) a w) (n:∀p∈N,p.op=i) (q:∀w,(∀p∈N,p.ok w)->T w) (r:YieldsIf P ops T e v a) (f:∀p∈N,p.ok w) (k:∀p∈L,p.ok w)
  (h:mG P ops Q d (N++L) (b.setIfInBounds i true) (a.put e.dst v) w):mG P ops Q (d+1) L b a w:=
 SM g (Region.noSelect_spec o) l n q d L b a w (Region.free_spec g j) (by simpa using m) r f k h
theorem OM:∀{L:List gv} {w0:World},(∀p∈L,p.ok w0)->∀{m:Heap},(flat L).ok m->∀p∈L,p.r.holds m p.y
 |[],_,_,_,_,p,a=>by cases a
 |q::r,w0,h0,m,h,p,a=>by
  have h:=(BD.agR (h0 q qN)).1 h;rcases zb.1 a with rfl|a
  ·exact h.1
  ·exact OM (λp a=>h0 p (qG _ a)) h.2 p a
def afW(T:kJ)(t:TypeId):Bool:=match T.get t with
 |some i=>match i.ty with
  | .sc .slc=>true
  |_=>false
 |none=>false
def afX(T:kJ):Op->Bool
 | .convert s d _=>!(afW T s||afW T d)
 | .move _| .assign _| .pick .. | .nilCheck _| .fieldAddr .. | .indexAddr .. | .index .. | .field .. | .extract .. | .binOp .. | .unOp .. | .build .. | .makeFunc .. | .load .. =>true
 | .slice _ _ _ _ none=>true
 | .call c=>match c.callee with
  | .builtin .len| .builtin .cap| .builtin .min| .builtin .max| .builtin .real| .builtin .imag=>true
  |_=>false
 |_=>false
def pc(T:kJ)(ops:Array Oper)(a:Array Bool):List Nat->Option Nat
 |[]=>none
 |i::r=>match ops[i]? with
  |some o=>bif afX T o.op&&Region.free .any ops a i then some i else pc T ops a r
  |none=>pc T ops a r
def Yz(C:Ctx)(n:Nat)(ops:Array Oper)(i:Nat)(o:Oper)(L:List gv)(K:List gv->Env->Heap->Prop)(ρ:Env)(h:Heap):Prop:=
 Mo ops o ρ (λρ=>match Dj C.P C.T o.op ρ.eval with
  | .no=>match Ac C.T o.op ρ.eval with
   |some r=>∃y:r.ty.den,r.holds h y/\put n o.dst (K (⟨i,r,y⟩::L)) ρ (r.ty.enc y) h
   |none=>False
  |p=>p.holds λv=>put n o.dst (K L) ρ v h) (λρ=>put n o.dst (K L) ρ undef h)
def SN(C:Ctx)(n:Nat)(ops:Array Oper)(K:Nat->Env->Heap->Prop)(ρ:Env)(h:Heap):List Nat->Prop
 |[]=>True
 |[i]=>match ops[i]? with
  |some o=>Jn C n ops o (K i) ρ h
  |none=>False
 |i::j::r=>(match ops[i]? with
  |some o=>Jn C n ops o (K i) ρ h
  |none=>False)/\SN C n ops K ρ h (j::r)
def Ae(C:Ctx)(n:Nat)(ops:Array Oper)(K:Env->Heap->Prop):Nat->Array Bool->List gv->Env->Heap->Prop
 |0,listed,_,ρ,h=>bif (Region.ready .any ops listed).isEmpty then K ρ h else False
 |k+1,listed,L,ρ,h=>match pc C.T ops listed (Region.ready .any ops listed)with
  |some i=>match ops[i]? with
   |some o=>Yz C n ops i o L (Ae C n ops K k (listed.setIfInBounds i true)) ρ h
   |none=>False
  |none=>match Region.ready .any ops listed with
   |[]=>K ρ h
   |i::r=>SN C n ops (λi ρ h=>(flat (keep ops i L)).ok h/\Ae C n ops K k (listed.setIfInBounds i true) (keep ops i L) ρ h) ρ h (i::r)
theorem uB{T:kJ}{ops:Array Oper}{a:Array Bool}:∀{rs:List Nat} {i:Nat},pc T ops a rs=some i->i∈rs/\Region.free .any ops a i=true
 |[],_,h=>by cases h
 |j::r,i,h=>by
  simp only[pc]at h;split at h
  ·rename_i o b;cases hb:(afX T o.op&&Region.free .any ops a j)with
   |true=>
    rw[hb]at h;cases h;simp only[qB]at hb;exact⟨qN,hb.2⟩
   |false=>
    rw[hb]at h;have:=uB h;exact⟨qG _ this.1,this.2⟩
  ·have:=uB h;exact⟨qG _ this.1,this.2⟩
theorem Qe{C:Ctx}{n:Nat}{ops:Array Oper}{K:Nat->Env->Heap->Prop}{ρ:Env}{h:Heap}:∀{l:List Nat},SN C n ops K ρ h l->∀i∈l,∃o,ops[i]?=some o/\Jn C n ops o (K i) ρ h
 |[],_,i,hi=>by cases hi
 |[j],ha,i,hi=>by
  simp only[qC]at hi;subst hi;simp only[SN]at ha;split at ha
  ·rename_i o a;exact⟨o,a,ha⟩
  ·exact ha.elim
 |j::k::r,ha,i,hi=>by
  obtain⟨b,c⟩:=ha;rcases zb.1 hi with rfl|hi
  ·split at b
   ·rename_i o a;exact⟨o,a,b⟩
   ·exact b.elim
  ·exact Qe c i hi
section
variable {C:Ctx} {n:Nat} {ops:Array Oper} {K:Env->Heap->Prop} {Q:Exit->Act->World->Prop} {ρ0:Env} {a0:Act} {w0:World}
theorem Qf(H:C.Ok)(M:Region.noSelect ops=true)
  (U:∀a w ρ,Fits n a ρ->Ext ρ0 ρ a0 a->dE w0 w->K ρ w.heap->Q .normal a w) (z:∀c a w,¬Q (.panic c) a w):
  ∀(k:Nat) (b:Array Bool) (L:List gv) (ρ:Env) (a:Act) (w:World),Fits n a ρ->Ext ρ0 ρ a0 a->dE w0 w->(∀p∈L,p.ok w)->
   Ae C n ops K k b L ρ w.heap->mG C.P ops Q k L b a w
 |0,b,L,ρ,a,w,hf,hx,hl,hL,h=>by
  simp only[Ae]at h;cases hb:(Region.ready .any ops b).isEmpty with
  |false=>rw[hb]at h;exact h.elim
  |true=>rw[hb]at h;exact⟨by simpa using hb,U _ _ _ hf hx hl h⟩
 |k+1,b,L,ρ,a,w,hf,hx,hl,hL,h=>by
  have G:=Qf H M U z k;simp only[Ae]at h;split at h
  ·rename_i i I;obtain⟨A,f⟩:=uB I;have e:(Region.ready .any ops b).contains i=true:=by simpa using A
   split at h
   ·rename_i o u;unfold Yz at h;obtain⟨ρ',J,R,h3⟩:=Kh hf h;have s:∀c a w (v:Value),Q (.panic c) (Act.put a o.dst v) w->Q (.panic c) a w:=λc a w v hq=>absurd hq (z c _ w);have Y:∀x v,Env.eval ρ' x=some v->a.eval x=v:=λx v h=>J.eval h;rcases h3 with⟨t,g⟩|⟨t,g⟩
    ·have q:(Dj C.P C.T o.op (Env.eval ρ')).holds (λv=>put n o.dst (Ae C n ops K k (b.setIfInBounds i true) L) ρ' v w.heap)->
       mG C.P ops Q (k+1) L b a w:=λd=>by
      obtain⟨v,hv,O⟩:=Mk H.toOk Y d;obtain⟨m,B,D,E⟩:=Ad O J;exact Cw (N:=[]) (T:=λ_=>True) u M f e (λc a w=>s c a w v) (λp d=>by cases d) (λ_ _=>trivial) (.inl ⟨t,λw _=>hv w⟩) (λp d=>by cases d) hL
       (G _ L m _ w B (hx.trans (R.trans D)) hl hL E)
     split at g
     ·split at g
      ·rename_i r F;obtain⟨y,Z,O⟩:=g;obtain⟨m,B,D,E⟩:=Ad O J;have V:∀p∈[(⟨i,r,y⟩:gv)],p.ok w:=λp d=>by rw[qC]at d;subst d;exact Z
       refine Cw (N:=[⟨i,r,y⟩]) (T:=λw=>r.holds w.heap y) u M f e (λc a w=>s c a w _) (λp d=>by rw[qC]at d;subst d;rfl)
        (λw h=>h ⟨i,r,y⟩ (qC.2 rfl)) (.inl ⟨t,λw t=>Ek H.toOk Y F t⟩) V hL ?_
       refine G _ (⟨i,r,y⟩::L) m _ w B (hx.trans (R.trans D)) hl (λp d=>?_) E;rcases zb.1 d with rfl|d
       ·exact Z
       ·exact hL p d
      ·exact g.elim
     ·exact q g
    ·obtain⟨m,B,D,E⟩:=Ad g J;exact Cw (N:=[]) (T:=λ_=>True) u M f e (λc a w=>s c a w undef) (λp d=>by cases d) (λ_ _=>trivial) (.inr ⟨t,rfl⟩) (λp d=>by cases d) hL
      (G _ L m _ w B (hx.trans (R.trans D)) hl hL E)
   ·exact h.elim
  ·split at h
   ·rename_i g;exact⟨λ_=>U _ _ _ hf hx hl h,λi I=>by rw[g]at I;cases I⟩
   ·rename_i i r g;refine⟨λh0=>absurd (g▸h0) (by simp),λj X=>?_⟩;rw[g]at X;obtain⟨o,u,S⟩:=Qe h j X;have l:∀p∈keep ops j L,p.ok w:=λp d=>hL p (sQ p d);exact Mp H u hf S λa' w' ρ' x1 x2 x3 W=>⟨OM l W.1,G _ (keep ops j L) ρ' a' w' x1 (hx.trans x2) (hl.trans x3) (OM l W.1) W.2⟩
end
def sched(T:kJ)(ops:Array Oper):Nat->Array Bool->Option (List (Nat×Bool))
 |0,listed=>bif (Region.ready .any ops listed).isEmpty then some []else none
 |k+1,listed=>match pc T ops listed (Region.ready .any ops listed)with
  |some i=>(sched T ops k (listed.setIfInBounds i true)).map ((i,true)::·)
  |none=>match Region.ready .any ops listed with
   |[]=>some []
   |[i]=>(sched T ops k (listed.setIfInBounds i true)).map ((i,false)::·)
   |_::_::_=>none
def ub(C:Ctx)(n:Nat)(ops:Array Oper)(K:Env->Heap->Prop):List (Nat×Bool)->List gv->Env->Heap->Prop
 |[],_,ρ,h=>K ρ h
 |(i,true)::r,L,ρ,h=>match ops[i]? with
  |some o=>Yz C n ops i o L (ub C n ops K r) ρ h
  |none=>False
 |(i,false)::r,L,ρ,h=>match ops[i]? with
  |some o=>Jn C n ops o (λρ h=>(flat (keep ops i L)).ok h/\ub C n ops K r (keep ops i L) ρ h) ρ h
  |none=>False
theorem Qg{C:Ctx}{n:Nat}{ops:Array Oper}{K:Env->Heap->Prop}:∀(k:Nat) (a:Array Bool) (l:List (Nat×Bool)),sched C.T ops k a=some l->
  Ae C n ops K k a=ub C n ops K l
 |0,a,l,hs=>by
  simp only[sched]at hs;cases hb:(Region.ready .any ops a).isEmpty with
  |false=>rw[hb]at hs;cases hs
  |true=>
   rw[hb]at hs;cases hs;funext L ρ h;simp only[Ae,hb,ub,cond_true]
 |k+1,a,l,hs=>by
  have c:=λi=>Qg (C:=C) (n:=n) (ops:=ops) (K:=K) k (a.setIfInBounds i true);funext L ρ h;unfold sched at hs;unfold Ae;cases hi:pc C.T ops a (Region.ready .any ops a)with
  |some i=>
   rw[hi]at hs;obtain⟨l',b,rfl⟩:=vb.1 hs;simp only[ub,c i l' b]
  |none=>
   rw[hi]at hs;generalize d:Region.ready .any ops a=rd at hs
   match rd,hs with
   |[],hs=>cases hs;simp only[ub]
   |[i],hs=>
    obtain⟨l',b,rfl⟩:=vb.1 hs;simp only[SN,ub,c i l' b]
def ON(C:Ctx)(n:Nat)(ops:Array Oper)(a:Bool)(K:Env->Heap->Prop)(ρ:Env)(h:Heap):Prop:=
 match a with
 |false=>adZ C n ops K ops.toList ρ h
 |true=>bif Region.noSelect ops then(match sched C.T ops ops.size (vA ops.size false)with
  |some l=>ub C n ops K l [] ρ h
  |none=>Ae C n ops K ops.size (vA ops.size false) [] ρ h)else False
theorem SO{C:Ctx}(f:C.Ok){n:Nat}{id:Nat}{ops:Array Oper}{b:Bool}{Q:Exit->Env->Heap->Prop}{ρ:Env}{a:Act}{w:World}(i:Fits n a ρ)
  (h:ON C n ops b (Q .normal) ρ w.heap):(Code.region id ops b).wp C.P (λe a' w'=>(∀c,e≠.panic c)/\Out n Q ρ a w e a' w') a w:=by
 cases b with
 |false=>
  refine wp_region ?_;have:=Qd f (Q:=λe a' w'=>(∀c,e≠.panic c)/\Out n Q ρ a w e a' w') (K:=Q .normal) (ρ0:=ρ) (a0:=a) (w0:=w) (λa' w' ρ' d x2 x3 g=>⟨λc e=>(by cases e),ρ',d,x2,x3,g⟩)
   ops.toList 0 (λj=>by simp) ρ a w i (Ext.refl _ _) (dE.refl _) h
  rw[List.range_eq_range'];simpa using this
 |true=>
  simp only[ON]at h;cases hb:Region.noSelect ops with
  |false=>rw[hb]at h;exact h.elim
  |true=>
   rw[hb]at h;have h:Ae C n ops (Q .normal) ops.size (vA ops.size false) [] ρ w.heap:=by
    simp only[cond_true]at h;split at h
    ·rename_i l m;rw[Qg _ _ _ m];exact h
    ·exact h
   refine wp_region_any f.mixed (Mq _ [] _ _ _ ?_);exact Qf f hb (Q:=λe a' w'=>(∀c,e≠.panic c)/\Out n Q ρ a w e a' w') (ρ0:=ρ) (a0:=a) (w0:=w) (λa' w' ρ' d x2 x3 g=>⟨λc e=>(by cases e),ρ',d,x2,x3,g⟩)
    (λc a w k=>k.1 c rfl) _ _ [] ρ a {w with drawn:=w.drawn+1} i (Ext.refl _ _) ⟨rfl,rfl,rfl,Nat.le_succ _⟩ (λp o=>by cases o) h
def bm{σ:Type}(rest:σ->Heap->Prop)(B:(σ->Heap->Prop)->Prop):Prop:=∃R:σ->Heap->Prop,(∀s h,R s h->rest s h)/\B R
def aL{σ:Type}(B:σ->(σ->Heap->Prop)->Heap->Prop)(s:σ)(h:Heap):Prop:=
 ∃(τ:Type) (V:τ->σ) (I:τ->Heap->Prop) (μ:τ->Nat) (t0:τ),s=V t0/\I t0 h/\∀t h,I t h->B (V t) (λb h'=>∃a,b=V a/\I a h'/\μ a<μ t) h
theorem aaK{P:Program}{c:Code}{Q:Exit->Act->World->Prop}{a:Act}{w:World}{σ:Type}(R:σ->Act->World->Prop)(μ:σ->World->Nat)(t:σ)(B:R t a w)
  (i:∀s a w,R s a w->c.wp P (Exit.then (λa' w'=>∃m,R m a' w'/\μ m w'<μ s w) Q) a w):(Code.loop c).wp P Q a w:=by
 intro b k cs;have r:∀n s a w,μ s w=n->R s a w->
   ∃e a' w',Q e a' w'/\Arrives P (lone (b.at a (.code c::.inLoop c::k)) cs w) b k cs e a' w':=by
  intro n
  induction n using Nat.strongRecOn with
  |_ n ih=>
   intro s a w y v;obtain⟨e,j,h,f,d⟩:=i s a w v b (.inLoop c::k) cs;cases e with
   |normal=>
    obtain⟨m,p,o⟩:=f;obtain⟨A,u,z,q,g⟩:=ih (μ m h) (y▸o) m j h rfl p;exact⟨A,u,z,q,.of_steps (Steps.trans d (.one step_inLoop)) g⟩
   |exit id=>exact⟨_,j,h,f,.pass (x:=.inLoop c) rfl (λ_ _=>.inl (by simp)) d⟩
   |goto l=>exact⟨_,j,h,f,.pass (x:=.inLoop c) rfl (λ_ _=>.inl (by simp)) d⟩
   |ret=>exact⟨_,j,h,f,.pass (x:=.inLoop c) rfl (λ_ _=>.inl (by simp)) d⟩
   |panic ch=>exact⟨_,j,h,f,.pass (x:=.inLoop c) rfl (λ_ _=>.inl (by simp)) d⟩
   |outgrown=>exact⟨_,j,h,f,.pass (x:=.inLoop c) rfl (λ_ _=>.inl (by simp)) d⟩
 obtain⟨e,a',w',f,d⟩:=r _ t a w rfl B;exact⟨e,a',w',f,.of_steps (.one step_loop) d⟩
inductive an where
 |n
 |two (a b:an)
 |inn (a:an)
 |loop (σ:dY) (κ:dt) (a:an)
 |join (σ:dY) (κ:dt) (a:an)
 |scope (l:Nat) (σ:dY) (κ:dt) (pre rest:List an) (fwd:List (Nat×List an))
 |fwd (a:an) (fwd:List (Nat×List an))
def an.fst:an->an
 | .two a _=>a
 |_=>.n
def an.snd:an->an
 | .two _ b=>b
 |_=>.n
def an.sub:an->an
 | .inn a=>a
 |_=>.n
abbrev QT:=Exit->Env->Heap->Prop
def Mr(σ:dY)(κ:dt)(ρ:Env)(K:σ.den->Heap->Prop)(Q:QT):QT
 | .normal,ρ',h=>bif within σ κ ρ' (ρ'.length-ρ.length)then(match σ.read ρ' with|some s=>K s h|none=>False)else False
 |e,ρ',h=>Q e ρ' h
def Jo(next:Env->Heap->Prop)(Q:QT):QT
 | .normal,ρ,h=>next ρ h
 |e,ρ,h=>Q e ρ h
def aaL(id:Nat)(Q:QT):QT
 | .exit i,ρ,h=>bif wG i id then Q .normal ρ h else Q (.exit i) ρ h
 |e,ρ,h=>Q e ρ h
abbrev Rec:=Code->an->QT->Env->Heap->Prop
def BE(rec:Rec):List Code->List an->QT->Env->Heap->Prop
 |[],_,Q,ρ,h=>Q .normal ρ h
 |c::cs,[],Q,ρ,h=>rec c .n (Jo (BE rec cs [] Q) Q) ρ h
 |c::cs,x::xs,Q,ρ,h=>rec c x (Jo (BE rec cs xs Q) Q) ρ h
def chain:Code->Nat->Option (List Code×List Code)
 | .seq a b,l=>match chain a l with
  |some (p,r)=>some (p,r++[b])
  |none=>match chain b l with
   |some (p,r)=>some (a::p,r)
   |none=>none
 | .label l',l=>bif wG l' l then some ([],[])else none
 |_,_=>none
def afY(a:List (Nat×List an))(l:Nat):Option (List an):=
 match a with
 |[]=>none
 |p::r=>bif wG p.1 l then some p.2 else afY r l
def Jp(rec:Rec)(c:Code)(a:List (Nat×List an))(Q:QT):Nat->QT
 |0=>λ_ _ _=>False
 |g+1=>λe ρ h=>match e with
  | .goto l=>match afY a l with
   |some xs=>match chain c l with
    |some (_,r)=>BE rec r xs (Jp rec c a Q g) ρ h
    |none=>False
   |none=>Q (.goto l) ρ h
  |e=>Q e ρ h
def YA(l:Nat)(σ:dY)(κ:dt)(ρ:Env)(K:σ.den->Heap->Prop)(Q:QT):QT
 | .goto l',ρ',h=>bif wG l' l then(bif within σ κ ρ' (ρ'.length-ρ.length)then(match σ.read ρ' with|some s=>K s h|none=>False)else False)else Q (.goto l') ρ' h
 |e,ρ',h=>Q e ρ' h
def SP(c:Code)(Q:QT):QT
 | .goto l,ρ,h=>match findLabel c l with
  |none=>Q (.goto l) ρ h
  |some _=>False
 |e,ρ,h=>Q e ρ h
def SQ(C:Ctx)(n:Nat)(rec:Rec)(c:Code)(d:an)(Q:QT)(ρ:Env)(h:Heap):Prop:=
 match d with
 | .join σ κ a=>bm (λs h=>Q .normal (σ.vals s (κ.over ρ)) h) (λK=>rec c a (Mr σ κ ρ K Q) ρ h)
 |d=>match c with
  | .skip=>Q .normal ρ h
  | .label _=>Q .normal ρ h
  | .region _ ops draw=>ON C n ops draw (Q .normal) ρ h
  | .seq a b=>rec a d.fst (Jo (rec b d.snd Q) Q) ρ h
  | .cond x a b=>match ρ.eval x with
   |some (.bool t)=>Br t (rec a d.fst Q ρ h) (rec b d.snd Q ρ h)
   |_=>False
  | .block id c=>rec c d.sub (aaL id Q) ρ h
  | .exit id=>Q (.exit id) ρ h
  | .goto l=>Q (.goto l) ρ h
  | .ret=>Q .ret ρ h
  | .loop c=>match d with
   | .loop σ κ a=>match σ.read ρ with
    |some s0=>aL (λs K h=>rec c a (Mr σ κ (σ.vals s (κ.over ρ)) K Q) (σ.vals s (κ.over ρ)) h) s0 h
    |none=>False
   |_=>False
  | .scope c=>match d with
   | .scope l σ κ pre rest fwd=>match chain c l with
    |some (p,r)=>BE rec p pre (Jo (λρ' h'=>match σ.read ρ' with
     |some s0=>aL (λs K h=>BE rec r rest (Jp rec c fwd (YA l σ κ (σ.vals s (κ.over ρ')) K (SP c Q)) 4) (σ.vals s (κ.over ρ')) h) s0 h'
     |none=>False) (SP c Q)) ρ h
    |none=>False
   | .fwd a fwd=>rec c a (Jp rec c fwd (SP c Q) 4) ρ h
   |_=>False
  |_=>False
def vc(C:Ctx)(n:Nat):Nat->Rec
 |0=>λ_ _ _ _ _=>False
 |f+1=>SQ C n (vc C n f)
def Jq(C:Ctx)(n:Nat)(rec:Rec):Prop:=∀(c:Code) (b:an) (Q:QT) (ρ:Env) (a:Act) (w:World),Fits n a ρ->rec c b Q ρ w.heap->c.wp C.P (Out n Q ρ a w) a w
section
variable {C:Ctx} {n:Nat} {Q:QT} {ρ ρ':Env} {a a':Act} {w w':World}
theorem Out.base{e:Exit}{b:Act}{c:World}(f:Ext ρ ρ' a a')(j:dE w w')(h:Out n Q ρ' a' w' e b c):Out n Q ρ a w e b c:=by obtain⟨d,i,g,h3,k⟩:=h;exact⟨d,i,f.trans g,j.trans h3,k⟩
theorem Out.then{next:Env->Heap->Prop}{N:Act->World->Prop}{f:Exit->Act->World->Prop}{e:Exit}{b:Act}{c:World}(h:Out n (Jo next Q) ρ a w e b c)
  (l:∀ρ',Fits n b ρ'->Ext ρ ρ' a b->dE w c->next ρ' c.heap->N b c) (k:Out n Q ρ a w e b c->e≠.normal->f e b c):Exit.then N f e b c:=by
 obtain⟨d,i,g,h3,j⟩:=h;cases e<;>first|exact l d i g h3 j|exact k ⟨d,i,g,h3,j⟩ (by simp)
def oA(P:Program):List Code->(Exit->Act->World->Prop)->Act->World->Prop
 |[],Q,a,w=>Q .normal a w
 |c::cs,Q,a,w=>c.wp P (Exit.then (oA P cs Q) Q) a w
theorem lh{P:Program}{Q d:Exit->Act->World->Prop}(b:∀e a w,Q e a w->d e a w):∀(l:List Code) (a:Act) (w:World),oA P l Q a w->oA P l d a w
 |[],_,_,h=>b _ _ _ h
 |c::cs,a,w,h=>wp_mono h λe a w h=>by
  cases e<;>first|exact lh b cs a w h|exact b _ _ _ h
theorem rc{rec:Rec}(d:Jq C n rec):∀(l:List Code) (xs:List an) (Q:QT) (ρ:Env) (a:Act) (w:World),Fits n a ρ->BE rec l xs Q ρ w.heap->oA C.P l (Out n Q ρ a w) a w
 |[],_,Q,ρ,a,w,hf,h=>⟨ρ,hf,Ext.refl _ _,dE.refl _,h⟩
 |c::cs,[],Q,ρ,a,w,hf,h=>by
  refine wp_mono (d c .n _ ρ a w hf h) λe a' w' b=>b.then (λρ' f x2 x3 g=>?_) λb _=>b;exact lh (λe a w h=>h.base x2 x3) cs a' w' (rc d cs [] Q ρ' a' w' f g)
 |c::cs,x::xs,Q,ρ,a,w,hf,h=>by
  refine wp_mono (d c x _ ρ a w hf h) λe a' w' b=>b.then (λρ' f x2 x3 g=>?_) λb _=>b;exact lh (λe a w h=>h.base x2 x3) cs a' w' (rc d cs xs Q ρ' a' w' f g)
end
theorem Cx{P:Program}{b:Code}{Q:Exit->Act->World->Prop}:∀(l:List Code) (a:Act) (w:World),oA P (l++[b]) Q a w->oA P l (Exit.then (b.wp P Q) Q) a w
 |[],a,w,h=>by
  refine wp_mono h λe a w h=>?_;cases e<;>exact h
 |c::cs,a,w,h=>wp_mono h λe a w h=>by
  cases e<;>first|exact Cx cs a w h|exact h
theorem tC:∀{c:Code} {l:Nat} {p r:List Code},chain c l=some (p,r)->∃k,findLabel c l=some k/\
  (∀{P:Program} {Q:Exit->Act->World->Prop} {a:Act} {w:World},oA P r Q a w->k.wp P Q a w)/\
  (∀{P:Program} {Q:Exit->Act->World->Prop} {a:Act} {w:World},oA P p (Exit.then (oA P r Q) Q) a w->c.wp P Q a w)
 | .seq x y,l,p,r,h=>by
  simp only[chain]at h;split at h
  ·rename_i s m d;cases h;obtain⟨k,j,i,h3⟩:=tC d;refine⟨.seq k y,by simp[findLabel,j],λ{P Q a w} h=>wp_seq (i (Cx m a w h)),λ{P Q a w} h=>wp_seq (h3 ?_)⟩;refine lh (λe a w g=>?_) p a w h;cases e<;>first|exact Cx m a w g|exact g
  ·rename_i d;split at h
   ·rename_i s m n;cases h;obtain⟨k,j,i,h3⟩:=tC n;have o:findLabel x l=none:=by
     clear j i h3 n
     induction x with
     |seq a b iha ihb=>
      simp only[chain]at d;split at d
      ·cases d
      ·rename_i q;split at d
       ·cases d
       ·rename_i f;simp[findLabel,iha q,ihb f]
     |label l'=>
      simp only[chain]at d;cases f:wG l' l with
      |true=>rw[f]at d;cases d
      |false=>
       have:¬l'=l:=λe=>by subst e;simp at f
       simp[findLabel,this]
     |_=>rfl
    refine⟨k,by simp[findLabel,o,j],i,λ{P Q a w} h=>wp_seq (wp_mono h λe a w g=>?_)⟩;cases e<;>first|exact h3 g|exact g
   ·cases h
 | .label l',l,p,r,h=>by
  simp only[chain]at h;cases f:wG l' l with
  |false=>rw[f]at h;cases h
  |true=>
   rw[f]at h;cases h;have:=zM f;subst this;exact⟨.skip,by simp[findLabel],λh=>wp_skip h,λh=>wp_label h⟩
 | .skip,_,_,_,h=>by cases h
 | .region ..,_,_,_,h=>by cases h
 | .cond ..,_,_,_,h=>by cases h
 | .block ..,_,_,_,h=>by cases h
 | .loop _,_,_,_,h=>by cases h
 | .rangeFunc ..,_,_,_,h=>by cases h
 | .exit _,_,_,_,h=>by cases h
 | .scope _,_,_,_,h=>by cases h
 | .goto _,_,_,_,h=>by cases h
 | .ret,_,_,_,h=>by cases h
 | .refuse _,_,_,_,h=>by cases h
section
variable {P:Program} {c:Code} {Q:Exit->Act->World->Prop} {b:Frame} {k:List Item} {cs:List Frame}
def Reach(P:Program)(c:Code)(Q:Exit->Act->World->Prop)(b:Frame)(k:List Item)(d:List Frame)(a:Act)(w:World)(r:Code):Prop:=
 ∃e a' w',Q e a' w'/\Arrives P (lone (b.at a (.code r::.inScope c::k)) d w) b k d e a' w'
def Good(P:Program)(c:Code)(Q:Exit->Act->World->Prop)(b:Frame)(k:List Item)(d:List Frame):Exit->Act->World->Prop
 | .goto l,a,w=>match findLabel c l with
  |some r=>Reach P c Q b k d a w r
  |none=>Q (.goto l) a w
 |e,a,w=>Q e a w
theorem SS{m:Machine}{e:Exit}{a:Act}{w:World}(f:Good P c Q b k cs e a w)(d:Arrives P m b (.inScope c::k) cs e a w):
  ∃e a' w',Q e a' w'/\Arrives P m b k cs e a' w':=by
 cases e with
 |normal=>exact⟨.normal,a,w,f,Steps.trans d (.one step_inScope)⟩
 |exit id=>exact⟨.exit id,a,w,f,λh i=>d h (by simp[exitTo,i])⟩
 |goto l=>
  simp only[Good]at f;cases hf:findLabel c l with
  |none=>
   rw[hf]at f;exact⟨.goto l,a,w,f,λh i=>d h (by simp[gotoIn,hf,i])⟩
  |some r=>
   rw[hf]at f;obtain⟨p,n,o,j,g⟩:=f;exact⟨p,n,o,j,.of_steps (d _ (by simp[gotoIn,hf])) g⟩
 |ret=>exact⟨_,a,w,f,d⟩
 |panic ch=>exact⟨_,a,w,f,d⟩
 |outgrown=>exact⟨_,a,w,f,d⟩
theorem SU{r:Code}{a:Act}{w:World}(h:r.wp P (Good P c Q b k cs) a w):Reach P c Q b k cs a w r:=by obtain⟨e,a',w',f,d⟩:=h b (.inScope c::k) cs;exact SS f d
theorem FG{a:Act}{w:World}(h:∀b k cs,c.wp P (Good P c Q b k cs) a w):(Code.scope c).wp P Q a w:=by intro b k cs;obtain⟨e,l,m,i,d⟩:=h b k cs b (.inScope c::k) cs;obtain⟨f,a',w',j,g⟩:=SS i d;exact⟨f,a',w',j,.of_steps (.one step_scope) g⟩
end
section
variable {C:Ctx} {n:Nat} {rec:Rec}
theorem En(s:Jq C n rec){c:Code}{m:List (Nat×List an)}{q:QT}{t:Exit->Act->World->Prop}{b:Frame}{k:List Item}{u:List Frame}{ρ:Env}{a0:Act}{w0:World}
  (j:∀e f d i,Fits n d f->Ext ρ f a0 d->dE w0 i->q e f i.heap->Good C.P c t b k u e d i):
  ∀(g:Nat) (e:Exit) (f:Env) (d:Act) (i:World),Fits n d f->Ext ρ f a0 d->dE w0 i->Jp rec c m q g e f i.heap->Good C.P c t b k u e d i
 |0,_,_,_,_,_,_,_,h=>h.elim
 |g+1,e,f,d,i,hf,hx,hl,h=>by
  cases e with
  |goto l=>
   simp only[Jp]at h;split at h
   ·split at h
    ·rename_i p r o;obtain⟨F,B,y,_⟩:=tC o;simp only[Good,B];refine SU (y ?_);refine lh (λe a w v=>?_) _ _ _ (rc s _ _ _ f d i hf h);obtain⟨x,z,A,D,E⟩:=v;exact En s j g e x a w z (hx.trans A) (hl.trans D) E
    ·exact h.elim
   ·exact j _ _ _ _ hf hx hl h
  |normal=>exact j _ _ _ _ hf hx hl h
  |exit id=>exact j _ _ _ _ hf hx hl h
  |ret=>exact j _ _ _ _ hf hx hl h
  |panic ch=>exact j _ _ _ _ hf hx hl h
  |outgrown=>exact j _ _ _ _ hf hx hl h
theorem pr{c:Code}{Q:QT}{b:Frame}{k:List Item}{m:List Frame}{ρ:Env}{a0:Act}{w0:World}{e:Exit}{a:Env}{j:Act}{i:World}
  (d:Fits n j a) (f:Ext ρ a a0 j) (g:dE w0 i) (h:SP c Q e a i.heap):Good C.P c (Out n Q ρ a0 w0) b k m e j i:=by
 cases e with
 |goto l=>
  simp only[SP]at h;simp only[Good];split at h
  ·rename_i o;simp only[o];exact⟨a,d,f,g,h⟩
  ·exact h.elim
 |normal=>exact⟨a,d,f,g,h⟩
 |exit id=>exact⟨a,d,f,g,h⟩
 |ret=>exact⟨a,d,f,g,h⟩
 |panic ch=>exact⟨a,d,f,g,h⟩
 |outgrown=>exact⟨a,d,f,g,h⟩
theorem Qh{a:Act}{σ:dY}{κ:dt}{ρ:Env}{s:σ.den}(b:Fits n a ρ)(c:σ.read ρ=some s):Fits n a (σ.vals s (κ.over ρ))/\Ext ρ (σ.vals s (κ.over ρ)) a a:=
 b.sP b (λ_ _ _=>rfl) c
theorem VU(G:Jq C n rec){c:Code}{l:Nat}{σ:dY}{κ:dt}{pre rest:List an}{H:List (Nat×List an)}{p r:List Code}(hc:chain c l=some (p,r)){Q:QT}{ρ:Env}{a:Act}{w:World}(hf:Fits n a ρ)
  (h:BE rec p pre (Jo (λρ' h'=>match σ.read ρ' with
     |some O=>aL (λs K h=>BE rec r rest (Jp rec c H (YA l σ κ (σ.vals s (κ.over ρ')) K (SP c Q)) 4) (σ.vals s (κ.over ρ')) h) O h'
     |none=>False) (SP c Q)) ρ w.heap):(Code.scope c).wp C.P (Out n Q ρ a w) a w:=by
 refine FG λb k cs=>?_;obtain⟨kk,h1,W,h3⟩:=tC hc;refine h3 (lh (λe a' w' y=>?_) _ _ _ (rc G _ _ _ ρ a w hf h));refine y.then (λρ' S x2 x3 B=>?_) (λy _=>?_)
 ·split at B
  ·rename_i O M;obtain⟨τ,V,I,μ,t0,e0,hI,i⟩:=B;subst e0;have g:=Qh (κ:=κ) S M;have x:∀(m:Nat) (t:τ) (v:Act) (o:World),μ t=m->I t o.heap->Fits n v (σ.vals (V t) (κ.over ρ'))->Ext ρ' (σ.vals (V t) (κ.over ρ')) a' v->dE w' o->
     oA C.P r (Good C.P c (Out n Q ρ a w) b k cs) v o:=by
    intro m
    induction m using Nat.strongRecOn with
    |_ m ih=>
     intro t v o hm z D d f;refine lh (λe X w2 y=>?_) _ _ _ (rc G _ _ _ _ v o D (i t o.heap z));obtain⟨ρ2,F,L,A,E⟩:=y;refine En G (ρ:=σ.vals (V t) (κ.over ρ')) (a0:=v) (w0:=o) (λe R a3 Y q j z3 z4=>?_) 4 e ρ2 X w2 F L A E;cases e with
     |goto l'=>
      simp only[YA]at z4;cases hb:wG l' l with
      |false=>
       rw[hb]at z4;exact pr q (x2.trans (d.trans j)) (x3.trans (f.trans z3)) z4
      |true=>
       rw[hb]at z4;have:=zM hb;subst this;simp only[Good,h1];cases hw:within σ κ R (R.length-(σ.vals (V t) (κ.over ρ')).length)with
       |false=>rw[hw]at z4;exact z4.elim
       |true=>
        rw[hw]at z4;simp only[cond_true]at z4;split at z4
        ·rename_i s' J;have u:∀t,σ.has t=false->(κ.over []).fc t=false->a3.tmps[t]?=a'.tmps[t]?:=λt N T=>by
          rw[j.within hw t N T,d.sP t N T]
         obtain⟨u1,u2⟩:=S.sP (κ:=κ) q u J;obtain⟨U,e1,Z,i2⟩:=z4;subst e1;exact SU (W (ih _ (by rw[<-hm];exact i2) U a3 Y rfl Z u1 u2 (f.trans z3)))
        ·exact z4.elim
     |normal=>exact pr q (x2.trans (d.trans j)) (x3.trans (f.trans z3)) z4
     |exit id=>exact pr q (x2.trans (d.trans j)) (x3.trans (f.trans z3)) z4
     |ret=>exact pr q (x2.trans (d.trans j)) (x3.trans (f.trans z3)) z4
     |panic ch=>exact pr q (x2.trans (d.trans j)) (x3.trans (f.trans z3)) z4
     |outgrown=>exact pr q (x2.trans (d.trans j)) (x3.trans (f.trans z3)) z4
   exact x _ t0 a' w' rfl hI g.1 g.2 (dE.refl _)
  ·exact B.elim
 ·obtain⟨ρ1,F,L,A,E⟩:=y;exact pr F L A E
theorem agS(W:C.Ok)(o:Jq C n rec):Jq C n (SQ C n rec):=by
 intro c ab Q ρ a w j h;have u:∀{σ:dY} {κ:dt} {K:σ.den->Heap->Prop} {e:Exit} {a':Act} {w':World},Out n (Mr σ κ ρ K Q) ρ a w e a' w'->(∀s h,K s h->Q .normal (σ.vals s (κ.over ρ)) h)->Out n Q ρ a w e a' w':=by
  intro σ κ K e a' w' g P;obtain⟨ρ',f,x2,x3,d⟩:=g;cases e with
  |normal=>
   simp only[Mr]at d;cases hw:within σ κ ρ' (ρ'.length-ρ.length)with
   |false=>rw[hw]at d;exact d.elim
   |true=>
    rw[hw]at d;simp only[cond_true]at d;split at d
    ·rename_i s Y;obtain⟨F,H⟩:=j.sP (κ:=κ) f (x2.within hw) Y;exact⟨_,F,H,x3,P _ _ d⟩
    ·exact d.elim
  |exit id=>exact⟨ρ',f,x2,x3,d⟩
  |goto l=>exact⟨ρ',f,x2,x3,d⟩
  |ret=>exact⟨ρ',f,x2,x3,d⟩
  |panic ch=>exact⟨ρ',f,x2,x3,d⟩
  |outgrown=>exact⟨ρ',f,x2,x3,d⟩
 unfold SQ at h;split at h
 ·rename_i σ κ x;obtain⟨K,X,hB⟩:=h;exact wp_mono (o c x _ ρ a w j hB) λe a' w' g=>u g X
 ·split at h
  ·exact wp_skip ⟨ρ,j,Ext.refl _ _,dE.refl _,h⟩
  ·exact wp_label ⟨ρ,j,Ext.refl _ _,dE.refl _,h⟩
  ·exact wp_mono (SO W j h) λe a' w' g=>g.2
  ·rename_i x y;refine wp_seq (wp_mono (o x _ _ ρ a w j h) λe a' w' g=>g.then (λρ' f x2 x3 d=>?_) λg _=>g);exact wp_mono (o y _ _ ρ' a' w' f d) λe ad O g=>g.base x2 x3
  ·rename_i x y z;split at h
   ·rename_i t ht;refine wp_cond_split (j.eval ht) (λe=>?_) (λe=>?_)
    ·subst e;exact o y _ _ ρ a w j h
    ·subst e;exact o z _ _ ρ a w j h
   ·exact h.elim
  ·rename_i id x;refine wp_block (wp_mono (o x _ _ ρ a w j h) λe a' w' g=>?_);obtain⟨ρ',f,x2,x3,d⟩:=g;cases e with
   |exit i=>
    simp only[Exit.inBlock];simp only[aaL]at d;cases hb:wG i id with
    |true=>
     rw[hb]at d;rw[if_pos (zM hb)];exact⟨ρ',f,x2,x3,d⟩
    |false=>
     rw[hb]at d;rw[if_neg λe=>by subst e;simp at hb];exact⟨ρ',f,x2,x3,d⟩
   |normal=>exact⟨ρ',f,x2,x3,d⟩
   |goto l=>exact⟨ρ',f,x2,x3,d⟩
   |ret=>exact⟨ρ',f,x2,x3,d⟩
   |panic ch=>exact⟨ρ',f,x2,x3,d⟩
   |outgrown=>exact⟨ρ',f,x2,x3,d⟩
  ·exact wp_exit ⟨ρ,j,Ext.refl _ _,dE.refl _,h⟩
  ·exact wp_goto ⟨ρ,j,Ext.refl _ _,dE.refl _,h⟩
  ·exact wp_ret ⟨ρ,j,Ext.refl _ _,dE.refl _,h⟩
  ·rename_i x;split at h
   ·rename_i σ κ y _;split at h
    ·rename_i s0 J;obtain⟨τ,V,I,μ,t0,e0,R,q⟩:=h;subst e0;have m:=Qh (κ:=κ) j J;refine aaK (σ:=τ) (λt B D=>Fits n B (σ.vals (V t) (κ.over ρ))/\Ext ρ (σ.vals (V t) (κ.over ρ)) a B/\dE w D/\I t D.heap) (λt _=>μ t) t0 ⟨m.1,m.2,dE.refl _,R⟩ ?_;rintro t B D ⟨G,v,z3,z4⟩;refine wp_mono (o x y _ _ B D G (q t _ z4)) λe U w2 g=>?_;obtain⟨ρ',f,x2,x3,d⟩:=g;cases e with
     |normal=>
      simp only[Mr]at d;cases hw:within σ κ ρ' (ρ'.length-(σ.vals (V t) (κ.over ρ)).length)with
      |false=>rw[hw]at d;exact d.elim
      |true=>
       rw[hw]at d;simp only[cond_true]at d;split at d
       ·rename_i s' E;have A:∀t,σ.has t=false->(κ.over []).fc t=false->U.tmps[t]?=a.tmps[t]?:=λt L M=>by
         rw[x2.within hw t L M,v.sP t L M]
        obtain⟨F,H⟩:=j.sP (κ:=κ) f A E;obtain⟨S,N,i1,T⟩:=d;subst N;exact⟨S,⟨F,H,z3.trans x3,i1⟩,T⟩
       ·exact d.elim
     |exit id=>exact⟨ρ',f,v.trans x2,z3.trans x3,d⟩
     |goto l=>exact⟨ρ',f,v.trans x2,z3.trans x3,d⟩
     |ret=>exact⟨ρ',f,v.trans x2,z3.trans x3,d⟩
     |panic ch=>exact⟨ρ',f,v.trans x2,z3.trans x3,d⟩
     |outgrown=>exact⟨ρ',f,v.trans x2,z3.trans x3,d⟩
    ·exact h.elim
   ·exact h.elim
  ·rename_i x;split at h
   ·split at h
    ·rename_i p r Z;exact VU o Z j h
    ·exact h.elim
   ·refine FG λb k cs=>wp_mono (o x _ _ ρ a w j h) λe a' w' g=>?_;obtain⟨ρ',f,x2,x3,d⟩:=g;exact En o (ρ:=ρ) (a0:=a) (w0:=w) (λe ρ3 a3 w3 G v z3 z4=>pr G v z3 z4) 4 e ρ' a' w' f x2 x3 d
   ·exact h.elim
  ·exact h.elim
theorem SV(a:C.Ok):∀f,Jq C n (vc C n f)
 |0=>λ_ _ _ _ _ _ _ h=>h.elim
 |f+1=>agS a (SV a f)
end
def GO(C:Ctx)(ρ:Env):List ResultVar->(List Value->Prop)->Heap->Prop
 |[],K,_=>K []
 | .tmp t::r,K,h=>match ρ.get t with
  |some v=>GO C ρ r (λvs=>K (v::vs)) h
  |none=>False
 | .cell a t::r,K,h=>match Ac C.T (.load t (.tmp a)) ρ.eval with
  |some q=>∃y:q.ty.den,q.holds h y/\GO C ρ r (λvs=>K (q.ty.enc y::vs)) h
  |none=>False
def GP:List Value->Value
 |[v]=>v
 |vs=>.tuple vs.toArray
def akc(C:Ctx)(rs:List ResultVar)(R:Value->Heap->Prop):QT
 | .normal,ρ,h=>GO C ρ rs (λvs=>R (GP vs) h) h
 | .ret,ρ,h=>GO C ρ rs (λvs=>R (GP vs) h) h
 |_,_,_=>False
def GQ:Nat->List Value->Env
 |_,[]=>[]
 |n,v::r=>.val n v::GQ (n+1) r
def fnV(C:Ctx)(d:Func)(a:Nat)(b:an)(args:List Value)(R:Value->Heap->Prop)(h:Heap):Prop:=
 match d.body with
 |some c=>vc C d.ntmps a c b (akc C d.results.toList R) (GQ 0 args) h
 |none=>False
theorem Ms:∀{args:List Value} {n t:Nat} {v:Value},(GQ n args).get t=some v->n<=t/\args[t-n]?=some v
 |[],_,_,_,h=>by cases h
 |u::r,n,t,v,h=>by
  simp only[GQ,Env.get]at h;cases hb:wG n t with
  |true=>
   rw[hb]at h;have:=zM hb;subst this;simpa using h
  |false=>
   rw[hb]at h;obtain⟨c,a⟩:=Ms (args:=r) h;refine⟨by omega,?_⟩;obtain⟨k,b⟩:∃k,t-n=k+1:=⟨t-(n+1),by omega⟩
   rw[b,List.getElem?_cons_succ];have:t-(n+1)=k:=by omega
   rw[<-this];exact a
theorem aea{C:Di}(d:C.Ok){ev:Operand->Option Value}{e:Operand->Value}(g:∀x v,ev x=some v->e x=v){t:TypeId}{x:Operand}{q:BD}
  (f:Ac C.T (.load t x) ev=some q) {y:q.ty.den} {w:World} (h:q.holds w.heap y):(vZ t (e x)).run C.P w=.ok (q.ty.enc y) w:=by
 have c:(do pure (Next.value (<-vZ t (e x))):Sem Next).run C.P w=.ok (.value (q.ty.enc y)) w:=Ek d g (o:=⟨none,.load t x,0, "",#[],none⟩) f h;rw[Sem.run_bind]at c;cases hr:(vZ t (e x)).run C.P w with
 |halt a b=>rw[hr]at c;cases c
 |ok v w'=>
  rw[hr]at c;simp only[Result.andThen_ok]at c;cases c;rfl
theorem GR{C:Ctx}(i:C.Ok){n:Nat}{a:Act}{ρ:Env}(d:Fits n a ρ):∀{rs:List ResultVar} {K:List Value->Prop} {w:World},GO C ρ rs K w.heap->
  ∃vs,(rs.mapM (λ| .tmp t=>pure (a.tmps.getD t undef)| .cell x t=>(do loadVar t (<-asAddr (a.tmps.getD x undef)):Sem Value)):Sem (List Value)).run C.P w=.ok vs w/\K vs
 |[],K,w,h=>⟨[],rfl,h⟩
 | .tmp t::r,K,w,h=>by
  simp only[GO]at h;split at h
  ·rename_i v o;obtain⟨vs,k,g⟩:=GR i d h;refine⟨v::vs,?_,g⟩;have j:a.tmps.getD t undef=v:=by simp[Array.getD_eq_getD_getElem?,d.get t v o]
   rw[List.mapM_cons,Sem.run_bind,Sem.run_pure,Result.andThen_ok,Sem.run_bind,k,j];rfl
  ·exact h.elim
 | .cell x t::r,K,w,h=>by
  simp only[GO]at h;split at h
  ·rename_i q f;obtain⟨y,s,h⟩:=h;obtain⟨vs,k,g⟩:=GR i d h;refine⟨q.ty.enc y::vs,?_,g⟩;have m:=aea i.toOk (e:=a.eval) (λx v h=>d.eval h) f s;have p:∃c,a.eval (.tmp x)=.pointer (some c):=by
    unfold Ac at f;simp only at f;split at f
    ·rename_i c b;exact⟨c,d.eval b⟩
    ·cases f
   obtain⟨c,b⟩:=p;have j:a.tmps.getD x undef=.pointer (some c):=b;rw[b]at m;rw[List.mapM_cons,Sem.run_bind];simp only[j];have l:(do loadVar t (<-asAddr (.pointer (some c))):Sem Value).run C.P w=.ok (q.ty.enc y) w:=m;rw[l,Result.andThen_ok,Sem.run_bind,k];rfl
  ·exact h.elim
theorem agT{C:Ctx}(m:C.Ok){f:FuncId}{b:Func}(q:C.P.funcs[f]?=some b){a:Nat}{i:an}{args:List Value}(z:args.length<=b.ntmps){R:Value->Heap->Prop}{h:Heap}
  (j:fnV C b a i args R h):ac C.P f args.toArray h R:=by
 rintro w rfl;unfold fnV at j;split at j
 ·rename_i c u;refine calls_of_wp q u ?_;have d:Fits b.ntmps {tmps:=args.toArray++vA (b.ntmps-args.toArray.size) undef,defers:=[]} (GQ 0 args):=by refine⟨by simp;omega,rfl,λt v y=>?_⟩;obtain⟨_,g⟩:=Ms y;rw[Nat.sub_zero]at g;have k:t<args.length:=(qn.1 g).1;simp only[Array.getElem?_append,List.size_toArray,k,if_true,List.getElem?_toArray];exact g
  refine wp_mono (SV m a c i _ _ _ w d j) λe a' w' p=>?_;obtain⟨ρ',l,x2,x3,o⟩:=p;have fin:GO C ρ' b.results.toList (λvs=>R (GP vs) w'.heap) w'.heap->a'.defers=[]/\∃v,(results b a'.tmps).run C.P w'=.ok v w'/\(∃n,Ending.returned v=.returned n/\dE w w'/\R n w'.heap):=λs=>by
   obtain⟨vs,x,g⟩:=GR m l s;refine⟨l.defers,GP vs,?_,GP vs,rfl,x3,g⟩;unfold results;rw[vp,map_eq_pure_bind,bind_assoc,Sem.run_bind];refine(congrArg (λr=>Result.andThen r _) x).trans ?_;simp only[Result.andThen_ok,pure_bind,Sem.run_pure];cases vs with
   |nil=>rfl
   |cons v r=>cases r<;>rfl
  cases e<;>first|exact fin o|exact o.elim
 ·exact j.elim
theorem aw{C:Ctx}(c:C.Ok){f:FuncId}{b:Func}(d:C.P.funcs[f]?=some b)(a:an){args:List Value}{R:Value->Heap->Prop}{h:Heap}{Q:Prop}(i:Q)
  (g:xl args.length b.ntmps=true:=by kernel_rfl) (e:fnV C b 300 a args R h=Q:=by kernel_rfl):ac C.P f args.toArray h R:=agT c d (zL g) (cast e.symm i)
def aB(P:Program)(s:Sem Value)(r:Rt)(h:Heap)(K:r.den->Heap->Prop):Prop:=ag P s h λv h'=>∃x:r.den,v=r.enc x/\K x h'
def aS(P:Program)(s:Sem Value)(h:Heap)(K:Addr->Heap->Prop):Prop:=ag P s h λv h'=>∃a:Addr,v=.pointer (some a)/\K a h'
def ae(P:Program)(f:FuncId)(args:Array Value)(r:Rt)(h:Heap)(K:r.den->Heap->Prop):Prop:=ac P f args h λv h'=>∃x:r.den,v=r.enc x/\K x h'
def iC(C:Ctx)(g:FuncId)(args:List Value)(r:Rt)(h:Heap)(K:r.den->Heap->Prop):Prop:=
 match C.fns[g]? with
 |some true=>ae C.P g args.toArray r h K
 |_=>False
theorem ff{C:Ctx}{g:FuncId}{args:List Value}{r:Rt}{h:Heap}{K:r.den->Heap->Prop}(b:C.fns[g]?=some true)(a:ae C.P g args.toArray r h K):iC C g args r h K:=by unfold iC;rw[b];exact a
end Go.Vc
abbrev cL:=List (List UInt8)
abbrev bf:=List UInt8
abbrev ct:=List (List Int)
abbrev aC:=List Int
abbrev aO:=Option Go.Addr
abbrev bg:=List Go.Value
abbrev KZ:=Go.Value->Go.Vc.Heap->Prop
abbrev cN:=Go.FuncId×Array Go.Value×Array Go.Value
abbrev Go.Vc.an.tn(a:Go.Vc.an):Go.Vc.an:=.two .n a
universe u
theorem f9{c:Prop}{h:Decidable c}(hc:c){α:Sort u}{t e:α}:ite c t e=t:=if_pos hc
theorem g0{c:Prop}{h:Decidable c}(hnc:¬c){α:Sort u}{t e:α}:ite c t e=e:=if_neg hnc
theorem g9{p:Prop}[inst:Decidable p]:p->decide p=true:=decide_eq_true
theorem hU{p:Prop}[inst:Decidable p]:¬p->decide p=false:=decide_eq_false
theorem hZ{p:Prop}[inst:Decidable p]:decide p=true->p:=of_decide_eq_true
theorem i0{α:Sort u}{a:α}:a=a:=rfl
theorem i4{p:Prop}(h:p:=by omega):p:=h
theorem i5{p:Prop}(h:p:=by decide):p:=h
theorem i6{p:Prop}(h:p:=by dsimp only;omega):p:=h
theorem i7{p:Prop}(h:p:=by simp;omega):p:=h
theorem i9{p:Prop}(h:p:=by simp):p:=h
theorem jj{p:Prop}(h:p:=by dsimp only;rw[al _];rfl):p:=h
theorem js{p:Prop}(h:p:=by rw[al _];rfl):p:=h
theorem j0{p:Prop}(h:p:=by cases e):p:=h
theorem j1{p:Prop}(h:p:=by kernel_rfl):p:=h
theorem j3{p:Prop}(h:p:=by rw[al _];omega):p:=h
theorem j4{p:Prop}(h:p:=by decide+kernel):p:=h
theorem j5{p:Prop}(h:p:=by simpa using h):p:=h
theorem j6{p:Prop}(h:p:=by cases h):p:=h
theorem j7{p:Prop}(h:p:=by simpa using b):p:=h
theorem j8{p:Prop}(h:p:=by simpa using a):p:=h
theorem j9{p:Prop}(h:p:=by simp[Value.cells]):p:=h
theorem k7{p:Prop}(h:p:=by simp at d;omega):p:=h
theorem k8{p:Prop}(h:p:=by simp[aM]):p:=h
theorem k9{p:Prop}(h:p:=by rw[ca];omega):p:=h
theorem lb{p:Prop}(h:p:=by rw[addr_add];exact hb.cell i0):p:=h
theorem ld{p:Prop}(h:p:=by rfl):p:=h
theorem ln{p:Prop}(h:p:=by simp[fo]):p:=h
theorem lz{p:Prop}(h:p:=by dsimp only;simp;omega):p:=h
theorem l0{p:Prop}(h:p:=by simp[bZ];omega):p:=h
theorem l4{p:Prop}(h:p:=by rw[ze];omega):p:=h
theorem l5{p:Prop}(h:p:=by simpa using c):p:=h
theorem l6{p:Prop}(h:p:=by simpa using H):p:=h
theorem l7{p:Prop}(h:p:=by simp[b]):p:=h
theorem l9{p:Prop}(h:p:=by simpa using n):p:=h
theorem mn{p:Prop}(h:p:=by simpa using e):p:=h
theorem m0{p:Prop}(h:p:=by simp[cI];omega):p:=h
theorem m4{p:Prop}(h:p:=by simpa using g):p:=h
theorem m5{p:Prop}(h:p:=by simpa using o):p:=h
theorem m6{p:Prop}(h:p:=by simp[dI];omega):p:=h
theorem m7{p:Prop}(h:p:=by simp[dH];omega):p:=h
theorem m8{p:Prop}(h:p:=by simp at h):p:=h
theorem m9{p:Prop}(h:p:=by unfold je;rw[o.refl];rfl):p:=h
theorem nb{p:Prop}(h:p:=by rw[<-w];exact u.cell0 i0):p:=h
theorem nn{p:Prop}(h:p:=by simp[gH]):p:=h
theorem nq{p:Prop}(h:p:=by simpa using e2):p:=h
theorem ns{p:Prop}(h:p:=by rw[uw d];omega):p:=h
theorem n0{p:Prop}(h:p:=by rw[e];rfl):p:=h
theorem n3{p:Prop}(h:p:=by rw[qi (qm _)]):p:=h
theorem n4{p:Prop}(h:p:=by rw[e1];decide):p:=h
theorem n5{p:Prop}(h:p:=by simp[e]):p:=h
theorem n7{p:Prop}(h:p:=by unfold fq;simp;omega):p:=h
theorem n8{p:Prop}(h:p:=by rw[l]):p:=h
theorem n9{p:Prop}(h:p:=by simp[a]):p:=h
theorem oi{p:Prop}(h:p:=by rw[qz];omega):p:=h
theorem oj{p:Prop}(h:p:=by assumption):p:=h
theorem o0{p:Prop}(h:p:=by rw[e,ha,hb];decide):p:=h
theorem o1{p:Prop}(h:p:=by simpa using x):p:=h
theorem o4{p:Prop}(h:p:=by simp[c]):p:=h
theorem o5{p:Prop}(h:p:=by simp[g]):p:=h
theorem o6{p:Prop}(h:p:=by rw[hU b];rfl):p:=h
theorem o7{p:Prop}(h:p:=by rw[wrap_u64];omega):p:=h
theorem o8{p:Prop}(h:p:=by simpa using p):p:=h
theorem o9{p:Prop}(h:p:=by simp[cI]):p:=h
theorem pa{p:Prop}(h:p:=by rw[q8];omega):p:=h
theorem pb{p:Prop}(h:p:=by simp[f]):p:=h
theorem pt{p:Prop}(h:p:=by rw[t];rfl):p:=h
theorem p0{p:Prop}(h:p:=by simp[iE];omega):p:=h
theorem p5{p:Prop}(h:p:=by simp[fK];omega):p:=h
theorem p6{p:Prop}(h:p:=by rw[n];simp):p:=h
theorem p7{p:Prop}(h:p:=by simpa using f):p:=h
theorem p8{p:Prop}(h:p:=by simp[d]):p:=h
theorem p9{p:Prop}(h:p:=by rw[G];exact E):p:=h
theorem qa{p:Prop}(h:p:=by simpa using m):p:=h
theorem qb{p:Prop}(h:p:=by simpa using l):p:=h
theorem qs{p:Prop}(h:p:=by simpa using q):p:=h
theorem q6{p:Prop}(h:p:=by rw[ms];omega):p:=h
theorem rb{p:Prop}(h:p:=by rw[hY];omega):p:=h
theorem sb{p:Prop}(h:p:=by rw[e,d];rfl):p:=h
theorem sp{p:Prop}(h:p:=by rw[K];decide):p:=h
theorem sz{p:Prop}(h:p:=by simp[h]):p:=h
theorem sL{p:Prop}(h:p:=by rw[r]):p:=h
abbrev qm:=@Nat.le_refl
abbrev qB:=@Bool.and_eq_true
abbrev zj:=@Bool.false_eq_true
abbrev wo:=@Bool.or_eq_true
abbrev zy:=@List.cons_append
abbrev qn:=@List.getElem?_eq_some_iff
abbrev qT:=@List.getElem?_map
abbrev zn:=@List.length_cons
abbrev zb:=@List.mem_cons
abbrev qG:=@List.mem_cons_of_mem
abbrev qN:=@List.mem_cons_self
abbrev qC:=@List.mem_singleton
abbrev qZ:=@Option.map_some
abbrev wX:=@Nat.add_assoc
abbrev zp:=@Nat.add_sub_cancel_left
abbrev wN:=@Nat.add_zero
abbrev zf:=@Nat.le_trans
abbrev qW:=@Nat.lt_of_lt_of_le
abbrev zr:=@Nat.lt_succ_iff_lt_or_eq
abbrev vj:=@Nat.mod_lt
abbrev wq:=@Nat.mul_le_mul
abbrev zH:=@Nat.mul_le_mul_right
abbrev zc:=@Nat.sub_self
abbrev zT:=@Nat.succ_mul
abbrev wk:=@Nat.zero_add
abbrev yL:=@Array.ext_getElem?
abbrev q9:=@List.all_eq_true
abbrev qp:=@List.append_assoc
abbrev qO:=@List.append_nil
abbrev zI:=@List.drop_drop
abbrev qP:=@List.drop_eq_getElem_cons
abbrev zg:=@List.drop_of_length_le
abbrev za:=@List.eq_nil_of_length_eq_zero
abbrev wP:=@List.ext_getElem
abbrev zG:=@List.ext_getElem?
abbrev zm:=@List.filter_append
abbrev zq:=@List.filter_cons
abbrev wO:=@List.filter_eq_nil_iff
abbrev yn:=@List.find?_eq_none
abbrev zd:=@List.flatMap_append
abbrev zk:=@List.flatMap_cons
abbrev zN:=@List.foldl_append
abbrev zB:=@List.foldl_cons
abbrev wu:=@List.foldl_nil
abbrev qe:=@List.getD_eq_getElem?_getD
abbrev qo:=@List.getElem?_append_left
abbrev qj:=@List.getElem?_append_right
abbrev qw:=@List.getElem?_cons_succ
abbrev wJ:=@List.getElem?_drop
abbrev qd:=@List.getElem?_eq_getElem
abbrev qQ:=@List.getElem?_eq_none
abbrev q7:=@List.getElem?_set
abbrev zD:=@List.getElem?_set_ne
abbrev zl:=@List.getElem?_set_self
abbrev zV:=@List.getElem?_toArray
abbrev wb:=@List.getElem?_zipWith
abbrev wh:=@List.getElem_drop
abbrev qg:=@List.getElem_mem
abbrev qK:=@List.getElem_of_mem
abbrev qx:=@List.length_append
abbrev ze:=@List.length_drop
abbrev qz:=@List.length_map
abbrev wW:=@List.length_mergeSort
abbrev zE:=@List.length_range
abbrev zh:=@List.length_set
abbrev q8:=@List.length_take
abbrev qA:=@List.mem_append
abbrev qI:=@List.mem_filter
abbrev zP:=@List.mem_flatMap
abbrev qu:=@List.mem_map
abbrev zA:=@List.mem_of_mem_take
abbrev zS:=@List.mem_or_eq_of_mem_set
abbrev qJ:=@List.mem_range
abbrev wT:=@List.mergeSort_perm
abbrev wv:=@List.nil_append
abbrev w9:=@List.pairwise_append
abbrev zF:=@List.pairwise_cons
abbrev zx:=@List.pairwise_iff_getElem
abbrev yW:=@List.range_eq_range'
abbrev zQ:=@List.range_succ
abbrev yq:=@List.set_set
abbrev yf:=@List.size_toArray
abbrev qE:=@List.take_append_drop
abbrev vK:=@List.take_left
abbrev qY:=@List.take_length
abbrev qi:=@List.take_of_length_le
abbrev zK:=@List.take_succ_eq_append_getElem
abbrev yE:=@List.zipWith_append
abbrev ye:=@Bool.not_false
abbrev wg:=@Bool.true_and
abbrev wm:=@Int.emod_lt_of_pos
abbrev w5:=@Int.emod_nonneg
abbrev vC:=@Int.tmod_lt_of_pos
abbrev ql:=@Int.toNat_natCast
abbrev wL:=@UInt8.toNat_inj
abbrev zU:=@UInt8.xor_zero
abbrev wx:=@UInt8.zero_xor
abbrev w8:=@BitVec.ofInt_natCast
abbrev wF:=@List.any_eq_false
abbrev wz:=@List.any_eq_true
abbrev zX:=@List.filter_eq_self
abbrev wQ:=@List.findIdx_lt_length
abbrev wZ:=@List.getElem_append_left
abbrev qR:=@List.length_filter_le
abbrev w6:=@List.map_map
abbrev zC:=@List.mem_append_left
abbrev w7:=@List.mem_replicate
abbrev yi:=@List.nodup_cons
abbrev vI:=@Nat.mul_comm
abbrev wU:=@Bool.not_eq_true'
abbrev yd:=@Bool.not_true
abbrev vm:=@UInt8.xor_comm
abbrev yw:=@Int.mul_le_mul
abbrev vN:=@Int.mul_nonneg
abbrev wM:=@Int.natCast_mul
abbrev yO:=@Int.tmod_eq_emod_of_nonneg
abbrev wc:=@Nat.mod_eq_of_lt
abbrev z6:=@Nat.mul_one
abbrev zt:=@Nat.zero_le
abbrev yS:=@List.all_append
abbrev yA:=@List.all_eq_false
abbrev yT:=@List.any_append
abbrev vf:=@List.filter_nil
abbrev zZ:=@List.flatMap_nil
abbrev zu:=@List.getElem?_range
abbrev we:=@List.getElem?_replicate
abbrev yg:=@List.getElem_take
abbrev y9:=@List.getElem_zip
abbrev yU:=@List.length_nil
abbrev qU:=@List.map_append
abbrev vG:=@List.map_mergeSort
abbrev yM:=@List.mem_mergeSort
abbrev yh:=@List.replicate_succ
abbrev qV:=@List.set_append_right
abbrev zw:=@List.set_cons_succ
abbrev zo:=@List.set_cons_zero
abbrev wj:=@List.take_append_of_le_length
abbrev wK:=@BitVec.toNat_ofNat
abbrev vx:=@Bool.false_or
abbrev va:=@Prod.ext
abbrev z7:=@Int.natCast_nonneg
abbrev y0:=@Int.ofNat_le
abbrev yb:=@List.getElem_map
abbrev yG:=@List.map_cons
abbrev vO:=@List.map_nil
abbrev zY:=@List.getElem_append_right
abbrev yl:=@List.getElem_set_self
abbrev vW:=@Int.le_refl
