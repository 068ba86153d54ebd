/- Lemmas for the proof of the law; no condition. -/
import Derived.Calls
import Derived.Orders
import Derived.Scope
import Derived.KernelRfl
import Derived.Laws.Sem
import Derived.OrdersHeld
set_option linter.unusedVariables false
set_option linter.unusedSimpArgs false
open Nat renaming beq -> wE, ble -> xd, blt -> vM, eq_of_beq_eq_true -> zL, le_of_ble_eq_true -> zK, le_refl -> qk
open Bool renaming and_eq_true -> qz, false_eq_true -> zj, or_eq_false_iff -> yl, or_eq_true -> we, or_false -> vX
open List renaming cons_append -> zy, getElem?_eq_some_iff -> qn, getElem?_map -> qS, length_cons -> zi, mem_append_right -> zM, mem_cons -> qX, mem_cons_of_mem -> qC, mem_cons_self -> qH, mem_singleton -> qx
open BitVec renaming ofInt -> qF
open Go.IntKind renaming i64 -> xo
open Go.Instr renaming build -> vN, fill -> wy, loadAt -> vQ, slice -> xg, sliceAt -> yk, sliceBound -> vI, sliceBounds -> wB
open Option renaming map_eq_some_iff -> y6, map_some -> qT, some -> zT
open Array renaming ext' -> yu, getElem?_toList -> vG, mapM_eq_mapM_toList -> vl, replicate -> vu, toList_map -> vJ
namespace Go.Vc
open Go
abbrev Heap:=Array Obj
def cellOf(h:Heap)(a:Addr):Option Value:=
 match h[a.block]? with
 |some (.cells c _ _)=>if a.spot.isSome then none else c[a.off]?
 |_=>none
def XI(h:Heap)(a:Addr):Bool:=
 match h[a.block]? with
 |some (.cells _ _ (lo,hi))=>lo<=a.off&&a.off<hi
 |_=>false
def XJ(h:Heap)(a:Addr)(v:Value):Heap:=
 h.modify a.block λ
  | .cells c elem frozen=>.cells (if a.spot.isSome then c else c.setIfInBounds a.off v) elem frozen
  |o=>o
def shapeOf(h:Heap)(r:Nat):Option (TypeId×Nat):=match h[r]? with|some (.cells c elem _)=>some (elem,c.size)|_=>none
theorem acT(w:World)(r:Nat):w.shape? r=shapeOf w.heap r:=rfl
theorem Oj(w:World)(a:Addr):w.cell? a=cellOf w.heap a:=rfl
theorem afQ(w:World)(a:Addr):w.frozen? a=XI w.heap a:=rfl
theorem afR(w:World)(a:Addr)(v:Value):(w.setCell a v).heap=XJ w.heap a v:=rfl
structure dm (w w':World):Prop where
 os:w'.os=w.os
 tape:w'.tape=w.tape
 output:w'.output=w.output
 drawn:w.drawn<=w'.drawn
theorem dm.refl(w:World):dm w w:=⟨rfl,rfl,rfl,qk _⟩
theorem dm.trans{a b c:World}(h:dm a b)(k:dm b c):dm a c:=⟨k.os.trans h.os,k.tape.trans h.tape,k.output.trans h.output,Nat.le_trans h.drawn k.drawn⟩
def ab(P:Program)(f:FuncId)(args:Array Value)(h:Heap)(R:Value->Heap->Prop):Prop:=
 ∀w,w.heap=h->Calls P f args w λe w'=>∃v,e=.returned v/\dm w w'/\R v w'.heap
theorem ab.mono{P:Program}{f:FuncId}{args:Array Value}{h:Heap}{R a:Value->Heap->Prop}(g:ab P f args h R)
  (b:∀v h',R v h'->a v h'):ab P f args h a:=λw d=>
 (g w d).mono λ_ _ ⟨v,e,c,r⟩=>⟨v,e,c,b _ _ r⟩
def af{α:Type}(P:Program)(s:Sem α)(h:Heap)(K:α->Heap->Prop):Prop:=
 ∀w,w.heap=h->∃v w',s.run P w=.ok v w'/\dm w w'/\K v w'.heap
section
variable {α β:Type} {P:Program} {h:Heap}
theorem af.pure'{K:α->Heap->Prop}{a:α}(b:K a h):af P (Pure.pure a) h K:=λw c=>⟨a,w,rfl,dm.refl w,by rw[c];exact b⟩
theorem af.bind{s:Sem α}{f:α->Sem β}{K:β->Heap->Prop}(l:af P s h λv h'=>af P (f v) h' K):af P (s>>=f) h K:=by intro w k;obtain⟨v,w',e,j,g⟩:=l w k;obtain⟨i,c,a,b,d⟩:=g w' rfl;exact⟨i,c,by rw[Sem.run_bind,e];exact a,j.trans b,d⟩
theorem af.mono{s:Sem α}{K d:α->Heap->Prop}(g:af P s h K)(e:∀v h',K v h'->d v h'):af P s h d:=λw f=>
 let⟨v,w',a,b,c⟩:=g w f;⟨v,w',a,b,e _ _ c⟩
theorem af.acU{K:Program->Heap->Prop}(a:K P h):af P program h K:=λw b=>⟨P,w,rfl,dm.refl w,by rw[b];exact a⟩
theorem af.ahe{a:Addr}{v v0:Value}{m:Mode}{K:Unit->Heap->Prop}(e:v.oneCell'=true)(f:cellOf h a=some v0)(c:XI h a=false)(d:K () (XJ h a v)):
  af P (store a v m) h K:=λw b=>
 ⟨(),w.setCell a v,by rw[run_store _ _ _ _ _ e,Oj,b,f];simp[afQ,b,c],⟨rfl,rfl,rfl,qk _⟩,by rw[afR,b];exact d⟩
theorem af.sj{o:Obj}{K:Nat->Heap->Prop}(a:K h.size (h.push o)):af P (newObj o) h K:=λw b=>
 ⟨w.heap.size,_,run_newObj P w o,⟨rfl,rfl,rfl,qk _⟩,by simp only[b];exact a⟩
theorem af.KD{n:Nat}{K:Unit->Heap->Prop}(a:K () h):af P (askRoom n) h K:=λw b=>⟨(),w,run_askRoom P w n,dm.refl w,by rw[b];exact a⟩
theorem af.Ol{q:Question}{K:Nat->Heap->Prop}(a:(q.forced=true->K 0 h)/\(q.forced=false->∀n,K (q.cut n) h)):af P (choose q) h K:=by
 intro w b;cases hq:q.forced with
 |true=>exact⟨0,w,by rw[run_choose,hq];rfl,dm.refl w,by rw[b];exact a.1 hq⟩
 |false=>exact⟨q.cut (w.tape w.drawn q),{w with drawn:=w.drawn+1},by rw[run_choose,hq];rfl,⟨rfl,rfl,rfl,Nat.le_succ _⟩,by show K _ w.heap;rw[b];exact a.2 hq _⟩
theorem af.ahf{r:Nat}{K:Option (TypeId×Nat)->Heap->Prop}(b:K (shapeOf h r) h):af P (shape r) h K:=λw a=>
 ⟨_,w,run_shape P w r,dm.refl w,by rw[a,acT,a];exact b⟩
end
def CS(P:Program)(s:Sem Next)(h:Heap)(K:Value->Heap->Prop):Prop:=
 af P s h λa h'=>match a with
  | .value v=>K v h'
  | .skip=>K undef h'
  | .enter f args=>ab P f args h' K
  |_=>False
theorem aiF{P:Program}{o:Oper}{a:Act}{w:World}{K:Value->Heap->Prop}{Q:Exit->Act->World->Prop}
  (h:CS P (execOp a.eval o) w.heap K) {next:Act->World->Prop}
  (d:∀v w',dm w w'->K v w'.heap->next (a.put o.dst v) w'):o.wp P a w next Q:=by
 obtain⟨j,w',k,c,b⟩:=h w rfl;unfold Oper.wp;rw[k];cases j<;>simp only at b<;>simp only[Oper.upon]
 case value v=>exact d _ _ c b
 case skip=>exact d _ _ c b
 case enter f args=>
  refine(b w' rfl).mono ?_;rintro e i ⟨v,rfl,g,r⟩;exact d _ _ (c.trans g) r
structure Sl where
 ptr:Option Addr
 len:Nat
 cap:Nat
 deriving Inhabited
inductive Sc where
 |int (k:IntKind)|bool|str|ptr|slc|flt (k:FloatKind)|cpx (k:FloatKind)|mp|fn|any|adr
@[reducible] def Sc.den:Sc->Type
 | .int _=>Int
 | .bool=>Bool
 | .str=>ByteArray
 | .ptr=>Option Addr
 | .slc=>Sl
 | .flt _=>Nat
 | .cpx _=>Nat×Nat
 | .mp=>Option Nat
 | .fn=>FuncId×Array Value×Array Value
 | .any=>Value
 | .adr=>Addr
@[reducible] def Sc.enc:(s:Sc)->s.den->Value
 | .int k,n=>.int k n
 | .bool,x=>.bool x
 | .str,x=>.string x
 | .ptr,a=>.pointer a
 | .slc,x=>.slice x.ptr x.len x.cap
 | .flt k,n=>.float k n
 | .cpx k,x=>.complex k x.1 x.2
 | .mp,r=>.map r
 | .fn,x=>.func (.func x.1) x.2.1 x.2.2
 | .any,v=>v
 | .adr,a=>.pointer (some a)
def CT:IntKind->IntKind->Bool
 | .i8,.i8| .i16,.i16| .i32,.i32| .i64,.i64| .u8,.u8| .u16,.u16| .u32,.u32| .u64,.u64=>true
 |_,_=>false
theorem JN:∀{a b:IntKind},CT a b=true->a=b:=by intro a b;cases a<;>cases b<;>simp[CT]
def Gu:FloatKind->FloatKind->Bool
 | .f32,.f32| .f64,.f64=>true
 |_,_=>false
theorem Gv:∀{a b:FloatKind},Gu a b=true->a=b:=by intro a b;cases a<;>cases b<;>simp[Gu]
def Sc.dec:(s:Sc)->Value->Option s.den
 | .int k,.int k' n=>bif CT k k' then some n else none
 | .bool,.bool x=>some x
 | .str,.string x=>some x
 | .ptr,.pointer a=>some a
 | .slc,.slice a l c=>some ⟨a,l,c⟩
 | .flt k,.float k' n=>bif Gu k k' then some n else none
 | .cpx k,.complex k' a b=>bif Gu k k' then some (a,b)else none
 | .mp,.map r=>some r
 | .fn,.func (.func g) f c=>some (g,f,c)
 | .any,v=>some v
 | .adr,.pointer (some a)=>some a
 |_,_=>none
theorem Sc.sk{s:Sc}{v:Value}{x:s.den}(h:s.dec v=some x):v=s.enc x:=by
 cases s<;>cases v<;>simp only[Sc.dec]at h<;>try(first|(cases h;done)|(cases h;rfl))
 case int.int k k' n=>
  cases hk:CT k k'<;>simp[hk]at h;have:=JN hk;subst this;subst h;rfl
 case flt.float k k' n=>
  cases hk:Gu k k'<;>simp[hk]at h;have:=Gv hk;subst this;subst h;rfl
 case cpx.complex k k' a b=>
  cases hk:Gu k k'<;>simp[hk]at h;have:=Gv hk;subst this;subst h;rfl
 case fn.func g f c=>
  cases g<;>first|(cases h;done)|skip
  obtain⟨l⟩:=f;cases l<;>first|(cases h;done)|(cases h;rfl)
 case adr.pointer a=>
  cases a<;>first|(cases h;done)|(cases h;rfl)
@[reducible] def Om:List Sc->Type
 |[]=>Unit
 |[s]=>s.den
 |s::t::r=>s.den×Om (t::r)
@[reducible] def Ci:(l:List Sc)->Om l->List Value
 |[],_=>[]
 |[s],x=>[s.enc x]
 |s::t::r,x=>s.enc x.1::Ci (t::r) x.2
def XK:(l:List Sc)->List Value->Option (Om l)
 |[],[]=>some ()
 |[s],[v]=>s.dec v
 |s::t::r,v::vs=>match s.dec v with
  |some x=>match XK (t::r) vs with
   |some y=>some (x,y)
   |none=>none
  |none=>none
 |_,_=>none
theorem ZP:∀{l:List Sc} {vs:List Value} {x:Om l},XK l vs=some x->vs=Ci l x:=by
 intro l vs
 fun_induction XK l vs with
 |case1=>intro x _;rfl
 |case2 s v=>intro x h;simp only[Ci];rw[Sc.sk h]
 |case3 s t r v vs x hx y hy ih=>intro z h;cases h;simp only[Ci];rw[Sc.sk hx,ih hy]
 |case4=>intro x h;cases h
 |case5=>intro x h;cases h
 |case6=>intro x h;cases h
inductive Ty where
 |sc (s:Sc)
 |agg (l:List Sc)
 |arr (s:Sc)
@[reducible] def Ty.den:Ty->Type
 | .sc s=>s.den
 | .agg l=>Om l
 | .arr s=>List s.den
@[reducible] def Ty.enc:(t:Ty)->t.den->Value
 | .sc s,x=>s.enc x
 | .agg l,x=>.agg (Ci l x).toArray
 | .arr s,x=>.agg (x.map s.enc).toArray
def Ty.dec:(t:Ty)->Value->Option t.den
 | .sc s,v=>s.dec v
 | .agg l,.agg ⟨cs⟩=>XK l cs
 |_,_=>none
theorem Ty.sk{t:Ty}{v:Value}{x:t.den}(h:t.dec v=some x):v=t.enc x:=by
 unfold Ty.dec at h;split at h
 ·exact Sc.sk h
 ·have:=ZP h;subst this;rfl
 ·cases h
@[reducible] def XL:List Ty->Type
 |[]=>Unit
 |[s]=>s.den
 |s::t::r=>s.den×XL (t::r)
@[reducible] def aeZ:(l:List Ty)->XL l->List Value
 |[],_=>[]
 |[s],x=>[s.enc x]
 |s::t::r,x=>s.enc x.1::aeZ (t::r) x.2
inductive Rt where
 |one (t:Ty)
 |many (l:List Ty)
@[reducible] def Rt.den:Rt->Type
 | .one t=>t.den
 | .many l=>XL l
@[reducible] def Rt.enc:(r:Rt)->r.den->Value
 | .one t,x=>t.enc x
 | .many l,x=>.tuple (aeZ l x).toArray
inductive bM where
 |val (t:Nat) (x:Value)
 |kil (lo hi:Nat)
abbrev Env:=List bM
def bM.fb:bM->Nat->Bool
 | .val s _,t=>wE s t
 | .kil lo hi,t=>xd lo t&&vM t hi
def Env.get:Env->Nat->Option Value
 |[],_=>none
 | .val s x::r,t=>bif wE s t then some x else Env.get r t
 | .kil lo hi::r,t=>bif xd lo t&&vM t hi then none else Env.get r t
def Env.fb:Env->Nat->Bool
 |[],_=>false
 |e::r,t=>e.fb t||Env.fb r t
theorem Env.acV(e:bM)(r:Env)(t:Nat)(h:e.fb t=false):Env.get (e::r) t=Env.get r t:=by
 cases e<;>simp only[bM.fb]at h<;>simp[Env.get,h]
theorem Env.get_append{δ ρ:Env}{t:Nat}(h:δ.fb t=false):Env.get (δ++ρ) t=Env.get ρ t:=by
 induction δ with
 |nil=>rfl
 |cons e r ih=>
  simp only[Env.fb,yl]at h;rw[zy,Env.acV _ _ _ h.1,ih h.2]
theorem Env.Cj{δ ρ:Env}{t:Nat}:Env.fb (δ++ρ) t=(δ.fb t||ρ.fb t):=by
 induction δ with
 |nil=>simp[Env.fb]
 |cons e r ih=>simp[Env.fb,ih,Bool.or_assoc]
structure Fits (n:Nat) (a:Act) (ρ:Env):Prop where
 size:a.tmps.size=n
 defers:a.defers=[]
 get:∀t x,ρ.get t=some x->a.tmps[t]?=some x
def Ext(ρ b:Env)(a c:Act):Prop:=∃δ:Env,b=δ++ρ/\∀t,δ.fb t=false->c.tmps[t]?=a.tmps[t]?
theorem Ext.refl(ρ:Env)(a:Act):Ext ρ ρ a a:=⟨[],rfl,λ_ _=>rfl⟩
theorem Ext.trans{ρ e b:Env}{a f c:Act}(h:Ext ρ e a f)(k:Ext e b f c):Ext ρ b a c:=by obtain⟨δ,rfl,h⟩:=h;obtain⟨g,rfl,k⟩:=k;refine⟨g++δ,by simp,λt d=>?_⟩;rw[Env.Cj,yl]at d;rw[k t d.1,h t d.2]
def Env.eval(ρ:Env):Operand->Option Value
 | .tmp t=>ρ.get t
 | .const v=>some v
 | .global g=>some (.pointer (some ⟨g,0,none⟩))
 | .func f=>some (.func (.func f) #[] #[])
theorem Fits.eval{n:Nat}{a:Act}{ρ:Env}(h:Fits n a ρ){x:Operand}{v:Value}(b:ρ.eval x=some v):a.eval x=v:=by
 cases x<;>simp only[Env.eval]at b<;>simp only[Act.eval]
 case tmp t=>have:=h.get t v b;simp[Array.getD_eq_getD_getElem?,this]
 all_goals (injection b)
theorem Fits.put{n:Nat}{a:Act}{ρ:Env}(h:Fits n a ρ){d:Nat}(f:vM d n=true)(v:Value):Fits n (a.put (some d) v) (.val d v::ρ):=by
 have c:d<n:=zK f;refine⟨by simp[Act.put,h.size],h.defers,λt x b=>?_⟩;simp only[Env.get]at b;simp only[Act.put,Array.getElem?_setIfInBounds];cases hb:wE d t with
 |true=>
  rw[hb]at b;have:d=t:=zL hb;subst this;simp at b;simp[h.size,c,b]
 |false=>
  rw[hb]at b;have:d≠t:=λe=>by subst e;simp at hb
  simp only[this,if_false];exact h.get t x b
theorem Ext.put{ρ:Env}{a:Act}{d:Nat}(v u:Value):Ext ρ (.val d u::ρ) a (a.put (some d) v):=by
 refine⟨[.val d u],rfl,λt b=>?_⟩;simp only[Env.fb,bM.fb,vX]at b;have:d≠t:=λe=>by subst e;simp at b
 simp[Act.put,this]
abbrev dV:=List (Nat×Ty)
@[reducible] def dV.den:dV->Type
 |[]=>Unit
 |[s]=>s.2.den
 |s::t::r=>s.2.den×dV.den (t::r)
def dV.vals:(σ:dV)->σ.den->Env->Env
 |[],_,ρ=>ρ
 |[s],x,ρ=>.val s.1 (s.2.enc x)::ρ
 |s::t::r,x,ρ=>.val s.1 (s.2.enc x.1)::dV.vals (t::r) x.2 ρ
def dV.read:(σ:dV)->Env->Option σ.den
 |[],_=>some ()
 |[s],ρ=>match ρ.get s.1 with
  |some v=>s.2.dec v
  |none=>none
 |s::t::r,ρ=>match ρ.get s.1 with
  |some v=>match s.2.dec v with
   |some x=>match dV.read (t::r) ρ with
    |some y=>some (x,y)
    |none=>none
   |none=>none
  |none=>none
def dV.has:dV->Nat->Bool
 |[],_=>false
 |s::r,t=>wE s.1 t||dV.has r t
abbrev dq:=List (Nat×Nat)
def dq.over:dq->Env->Env
 |[],ρ=>ρ
 |(lo,hi)::r,ρ=>.kil lo hi::dq.over r ρ
def dq.has:dq->Nat->Nat->Bool
 |[],_,_=>false
 |(lo,hi)::r,a,b=>(xd lo a&&xd b hi)||dq.has r a b
def within(σ:dV)(κ:dq):Env->Nat->Bool
 |_,0=>true
 |[],_+1=>true
 | .val t _::r,n+1=>(dV.has σ t||dq.has κ t (t+1))&&within σ κ r n
 | .kil lo hi::r,n+1=>dq.has κ lo hi&&within σ κ r n
theorem dq.acW{κ:dq}{a b:Nat}(h:κ.has a b=true){t:Nat}(e:a<=t)(f:t<b)(ρ:Env):∃δ:Env,κ.over ρ=δ++ρ/\δ.fb t=true:=by
 induction κ with
 |nil=>simp[dq.has]at h
 |cons p r ih=>
  obtain⟨c,d⟩:=p;simp only[dq.has,we,qz]at h;obtain⟨δ,j⟩:∃δ:Env,dq.over r ρ=δ++ρ:=by
   clear ih h
   induction r with
   |nil=>exact⟨[],rfl⟩
   |cons q r ih=>obtain⟨δ,h⟩:=ih;exact⟨.kil q.1 q.2::δ,by show bM.kil q.1 q.2::dq.over r ρ=_;rw[h];rfl⟩
  rcases h with h|h
  ·have k:=zK h.1;have l:=zK h.2;refine⟨.kil c d::δ,by simp[dq.over,j],?_⟩;have i:xd c t=true:=Nat.ble_eq_true_of_le (by omega);have x2:vM t d=true:=by unfold vM;exact Nat.ble_eq_true_of_le (by omega)
   simp[Env.fb,bM.fb,i,x2]
  ·obtain⟨g,e,f⟩:=ih h;exact⟨.kil c d::g,by simp[dq.over,e],by simp[Env.fb,f]⟩
theorem dq.Sb(κ:dq)(ρ:Env):κ.over ρ=κ.over []++ρ:=by
 induction κ with
 |nil=>rfl
 |cons p r ih=>obtain⟨b,a⟩:=p;simp[dq.over,ih]
theorem dV.KE:∀(σ:dV) (x:σ.den) (ρ:Env),σ.vals x ρ=σ.vals x []++ρ
 |[],_,ρ=>rfl
 |[s],x,ρ=>rfl
 |s::t::r,x,ρ=>by simp only[dV.vals];rw[dV.KE (t::r) x.2 ρ];rfl
theorem dV.Bu:∀(σ:dV) (x:σ.den) (t:Nat),(σ.vals x []).fb t=σ.has t
 |[],_,_=>rfl
 |[s],x,t=>by simp[dV.vals,Env.fb,bM.fb,dV.has]
 |s::u::r,x,t=>by
  have:=dV.Bu (u::r) x.2 t;simp only[dV.vals,Env.fb,bM.fb,this];rfl
theorem dV.Se:∀(σ:dV) (x:σ.den) (e:Env) (t:Nat),σ.has t=true->((σ.vals x [])++e).get t=(σ.vals x []).get t
 |[],_,_,_,h=>by cases h
 |[s],x,e,t,h=>by
  simp only[dV.has,vX]at h;simp[dV.vals,Env.get,h]
 |s::u::r,x,e,t,h=>by
  simp only[dV.vals,zy,Env.get];cases hb:wE s.1 t with
  |true=>rfl
  |false=>
   have h':dV.has (u::r) t=true:=by have a:(wE s.1 t||dV.has (u::r) t)=true:=h;rw[hb]at a;exact a
   simpa using dV.Se (u::r) x.2 e t h'
theorem dq.PB{κ:dq}{a b t:Nat}(h:κ.has a b=true)(c:a<=t)(f:t<b):(κ.over []).fb t=true:=by obtain⟨δ,d,e⟩:=dq.acW h c f [];rw[d];simpa using e
theorem fA{σ:dV}{κ:dq}:∀{δ ρ:Env},within σ κ (δ++ρ) δ.length=true->∀t,σ.has t=false->(κ.over []).fb t=false->δ.fb t=false
 |[],_,_,_,_,_=>rfl
 | .val s x::r,ρ,h,t,h1,h2=>by
  simp only[zy,zi,within,qz,we]at h;simp only[Env.fb,bM.fb,yl];refine⟨?_,fA h.2 t h1 h2⟩;cases hb:wE s t with
  |false=>rfl
  |true=>
   have:s=t:=zL hb;subst this;rcases h.1 with h|h
   ·rw[h]at h1;cases h1
   ·rw[dq.PB h (qk _) (Nat.lt_succ_self _)]at h2;cases h2
 | .kil lo hi::r,ρ,h,t,h1,h2=>by
  simp only[zy,zi,within,qz]at h;simp only[Env.fb,bM.fb,yl];refine⟨?_,fA h.2 t h1 h2⟩;cases hb:(xd lo t&&vM t hi)with
  |false=>rfl
  |true=>
   simp only[qz]at hb;have a:=zK hb.1;have b:t<hi:=zK hb.2;rw[dq.PB h.1 a b]at h2;cases h2
theorem dV.Sf:∀{σ:dV} {ρ:Env} {x:σ.den} {t:Nat} {v:Value},σ.read ρ=some x->(σ.vals x []).get t=some v->ρ.get t=some v∨False
 |[],_,_,_,_,_,h=>by simp[dV.vals,Env.get]at h
 |[s],ρ,x,t,v,h,hv=>by
  simp only[dV.read]at h;split at h
  ·rename_i u d;simp only[dV.vals,Env.get]at hv;cases hb:wE s.1 t with
   |true=>
    rw[hb]at hv;have:=zL hb;simp at hv;subst hv;rw[<-Ty.sk h,<-this];exact .inl d
   |false=>rw[hb]at hv;simp at hv
  ·cases h
 |s::u::r,ρ,x,t,v,h,hv=>by
  simp only[dV.read]at h;split at h
  ·rename_i z a;split at h
   ·rename_i y b;split at h
    ·rename_i w c;cases h;simp only[dV.vals,Env.get]at hv;cases hb:wE s.1 t with
     |true=>
      rw[hb]at hv;have:=zL hb;simp at hv;subst hv;rw[<-Ty.sk b,<-this];exact .inl a
     |false=>
      rw[hb]at hv;exact dV.Sf (σ:=u::r) c hv
    ·cases h
   ·cases h
  ·cases h
theorem Fits.sl{n:Nat}{a d:Act}{σ:dV}{κ:dq}{ρ g:Env}{x:σ.den}(k:Fits n a ρ)(h:Fits n d g)
  (b:∀t,σ.has t=false->(κ.over []).fb t=false->d.tmps[t]?=a.tmps[t]?) (i:σ.read g=some x):
  Fits n d (σ.vals x (κ.over ρ))/\Ext ρ (σ.vals x (κ.over ρ)) a d:=by
 rw[dV.KE,dq.Sb];refine⟨⟨h.size,h.defers,λt v c=>?_⟩,⟨σ.vals x []++κ.over [],by simp,λt f=>?_⟩⟩
 ·cases h1:σ.has t with
  |true=>
   have:∀(e:Env),((σ.vals x [])++e).get t=(σ.vals x []).get t:=λe=>dV.Se σ x e t h1;rw[this]at c;rcases dV.Sf i c with h2|h2
   ·exact h.get t v h2
   ·exact h2.elim
  |false=>
   rw[Env.get_append (by rw[dV.Bu];exact h1)]at c;cases h2:(κ.over []).fb t with
   |true=>
    have:∀(e:Env),((κ.over [])++e).get t=none:=by
     intro e;clear b c
     induction κ with
     |nil=>simp[dq.over,Env.fb]at h2
     |cons p r ih=>
      obtain⟨j,l⟩:=p;simp only[dq.over,Env.fb,bM.fb]at h2;simp only[dq.over,zy,Env.get];cases hb:(xd j t&&vM t l)with
      |true=>rfl
      |false=>rw[hb]at h2;simp at h2;simpa using ih h2
    rw[this]at c;cases c
   |false=>
    rw[Env.get_append h2]at c;rw[b t h1 h2];exact k.get t v c
 ·rw[Env.Cj,yl,dV.Bu]at f;exact b t f.1 f.2
theorem Ext.within{a d:Act}{σ:dV}{κ:dq}{ρ c:Env}(i:Ext ρ c a d)(e:within σ κ c (c.length-ρ.length)=true):
  ∀t,σ.has t=false->(κ.over []).fb t=false->d.tmps[t]?=a.tmps[t]?:=by
 obtain⟨δ,rfl,g⟩:=i;have b:(δ++ρ).length-ρ.length=δ.length:=by simp
 rw[b]at e;exactλt f h=>g t (fA e t f h)
theorem Ext.sl{a c:Act}{σ:dV}{κ:dq}{ρ:Env}{x:σ.den}(g:Ext ρ (σ.vals x (κ.over ρ)) a c):
  ∀t,σ.has t=false->(κ.over []).fb t=false->c.tmps[t]?=a.tmps[t]?:=by
 obtain⟨δ,b,e⟩:=g;rw[dV.KE,dq.Sb,<-List.append_assoc]at b;have:=List.append_cancel_right b;subst this;exactλt d f=>e t (by rw[Env.Cj,dV.Bu,d,f];rfl)
inductive Fp where
 |int (k:IntKind)|bool|str|flt|cpx|mp|fn|other
 |slice (e:TypeId)|array (n:Nat) (e:TypeId)|struct (fs:List (Nat×TypeId))|ptr (e:TypeId)
def jl:Option TypeDesc->Fp
 |some (.int k)=>.int k
 |some .bool=>.bool
 |some .string=>.str
 |some (.float _)=>.flt
 |some (.complex _)=>.cpx
 |some (.map ..)=>.mp
 |some (.func ..)=>.fn
 |some (.slice e)=>.slice e
 |some (.array n e)=>.array n e
 |some (.struct fs)=>.struct (fs.toList.map λf=>(f.offset,f.type))
 |some (.pointer e)=>.ptr e
 |_=>.other
structure TI where
 dc:Fp
 ty:Ty
 size:Nat
 bytes:Nat
 zero:List Value
abbrev kA:=List TI
def kA.seen(P:Program)(t:TypeId):Fp×Option (Nat×Nat×Option (List Value)):=
 (jl (P.underlying t),(P.info? t).map λi=>(i.size,i.bytes,i.zero.map (·.cells.toList)))
def kA.told(i:TI):Fp×Option (Nat×Nat×Option (List Value)):=(i.dc,some (i.size,i.bytes,some i.zero))
def kA.get:kA->Nat->Option TI
 |[],_=>none
 |i::_,0=>some i
 |_::r,t+1=>kA.get r t
structure CU where
 P:Program
 T:kA
structure CU.Ok (C:CU):Prop where
 tbl:(List.range C.T.length).map (kA.seen C.P)=C.T.map kA.told
 mixed:C.P.follows .mixedOrders=true
theorem kA.get_eq:∀(T:kA) (t:Nat),T.get t=T[t]?
 |[],_=>rfl
 |_::_,0=>rfl
 |_::r,t+1=>by simp[kA.get,kA.get_eq r t]
theorem CU.Ok.at{C:CU}(h:C.Ok){t:Nat}{i:TI}(b:C.T.get t=some i):kA.seen C.P t=kA.told i:=by rw[kA.get_eq]at b;have a:t<C.T.length:=(qn.1 b).1;have:=congrArg (·[t]?) h.tbl;simp[a]at this;rw[this,(qn.1 b).2]
def Br(b:Bool)(A B:Prop):Prop:=match b with
 |true=>A
 |false=>B
inductive PV:Type 1 where
 |no
 |val (v:Value)
 |cond (c:Prop) (v:Value)
 |ex (X:Type) (c:X->Prop) (v:X->Value)
 |br (b:Bool) (x y:Value)
def PV.holds(p:PV)(K:Value->Prop):Prop:=match p with
 | .no=>False
 | .val v=>K v
 | .cond c v=>c/\K v
 | .ex _ c v=>∃x,c x/\K (v x)
 | .br b x y=>Br b (K x) (K y)
def tC(P:Program)(s:Sem Next)(v:Value):Prop:=∀w,s.run P w=.ok (.value v) w
def aL{α:Type}(P:Program)(s:Sem α)(v:α):Prop:=∀w,s.run P w=.ok v w
def kB(P:Program)(op:BinOp)(t:TypeId)(x y:Operand)(a b r:Value):Prop:=aL P (do eqGuard op t x y a b;binOp op t a b) r
def afa:Operand->Bool
 | .tmp _=>true
 |_=>false
def acX(P:Program)(t:TypeId)(x y:Operand)(d:Option Fp)(op:BinOp):Value->Value->PV
 | .int k a,.int k' b=>
  match op with
  | .shl=>.cond (0<=b) (.int k (k.wrap (a*2^min b.toNat k.bits)))
  | .shr=>.cond (0<=b) (.int k (a.fdiv (2^min b.toNat k.bits)))
  |_=>bif CT k k' then
   match op with
   | .add=>.val (.int k (k.wrap (a+b)))
   | .sub=>.val (.int k (k.wrap (a-b)))
   | .mul=>.val (.int k (k.wrap (a*b)))
   | .quo=>.cond (b≠0) (.int k (k.wrap (a.tdiv b)))
   | .rem=>.cond (b≠0) (.int k (a.tmod b))
   | .and=>.val (.int k (k.wrap (qF k.bits a&&&qF k.bits b).toNat))
   | .or=>.val (.int k (k.wrap (qF k.bits a|||qF k.bits b).toNat))
   | .xor=>.val (.int k (k.wrap (qF k.bits a^^^qF k.bits b).toNat))
   | .andNot=>.val (.int k (k.wrap (qF k.bits a&&&~~~qF k.bits b).toNat))
   | .eql=>.val (.bool (a==b))
   | .neq=>.val (.bool (a !=b))
   | .lss=>.val (.bool (decide (a<b)))
   | .leq=>.val (.bool (decide (a<=b)))
   | .gtr=>.val (.bool (decide (a>b)))
   | .geq=>.val (.bool (decide (a>=b)))
   |_=>.no
  else .no
 | .float k a,.float k' b=>bif Gu k k' then
   match op with
   | .add=>.ex Nat (λr=>k.format.add a b=some r) (λr=>.float k r)
   | .sub=>.ex Nat (λr=>k.format.sub a b=some r) (λr=>.float k r)
   | .mul=>.ex Nat (λr=>k.format.mul a b=some r) (λr=>.float k r)
   | .quo=>.ex Nat (λr=>k.format.div a b=some r) (λr=>.float k r)
   | .eql=>.val (.bool (k.format.order a b==some .eq))
   | .neq=>.val (.bool (k.format.order a b !=some .eq))
   | .lss=>.val (.bool (k.format.order a b==some .lt))
   | .gtr=>.val (.bool (k.format.order a b==some .gt))
   |_=>.no
  else .no
 | .string a,.string b=>
  match op with
  | .eql=>.val (.bool (a.toList==b.toList))
  | .neq=>.val (.bool (!(a.toList==b.toList)))
  | .lss=>.val (.bool (Op.bytesLess a.toList b.toList))
  | .leq=>.val (.bool (Op.bytesLess a.toList b.toList||a.toList==b.toList))
  | .gtr=>.val (.bool (!(Op.bytesLess a.toList b.toList||a.toList==b.toList)))
  | .geq=>.val (.bool (!(Op.bytesLess a.toList b.toList)))
  | .add=>.cond (((a.size+b.size:Nat):Int)<=xo.max) (.string (a++b))
  |_=>.no
 | .bool a,.bool b=>
  match d with
  |some .bool=>match op with
   | .eql=>.val (.bool (a==b))
   | .neq=>.val (.bool (!(a==b)))
   |_=>.no
  |_=>.no
 | .pointer a,.pointer b=>bif afa y then .ex Bool (λr=>kB P op t x y (.pointer a) (.pointer b) (.bool r)) (λr=>.bool r)else
  match b with
  |none=>match d with
   |some (.ptr _)=>match op with
    | .eql=>.val (.bool a.isNone)
    | .neq=>.val (.bool (!a.isNone))
    |_=>.no
   |_=>.no
  |some _=>.no
 | .slice a _ _,.slice none _ _=>
  match d with
  |some (.slice _)=>match op with
   | .eql=>.val (.bool a.isNone)
   | .neq=>.val (.bool (!a.isNone))
   |_=>.no
  |_=>.no
 | .agg a,.agg b=>.ex Bool (λr=>kB P op t x y (.agg a) (.agg b) (.bool r)) (λr=>.bool r)
 | .complex k a b,.complex k' c e=>
  match op with
  | .eql| .neq=>.ex Bool (λr=>kB P op t x y (.complex k a b) (.complex k' c e) (.bool r)) (λr=>.bool r)
  |_=>.ex (Nat×Nat) (λr=>kB P op t x y (.complex k a b) (.complex k' c e) (.complex k r.1 r.2)) (λr=>.complex k r.1 r.2)
 |_,_=>.no
def acY(P:Program)(t:TypeId)(x y:Operand)(d:Option Fp)(op:BinOp)(a:Value):Value->PV
 | .nilIface=>.ex Bool (λr=>kB P op t x y a .nilIface (.bool r)) (λr=>.bool r)
 |b=>acX P t x y d op a b
def unV(op:UnOp):Value->PV
 | .bool b=>match op with
  | .not=>.val (.bool !b)
  |_=>.no
 | .int k n=>match op with
  | .neg=>.val (.int k (k.wrap (0-n)))
  | .xor=>.val (.int k (k.wrap (qF k.bits (if k.signed then-1 else k.max)^^^qF k.bits n).toNat))
  |_=>.no
 |_=>.no
def rR(ev:Operand->Option Value):List Operand->Option (List Value)
 |[]=>some []
 |x::r=>match ev x with
  |some v=>match rR ev r with
   |some vs=>some (v::vs)
   |none=>none
  |none=>none
def Gw(ev:Operand->Option Value):List (Nat×Operand)->Option (List (Nat×Value))
 |[]=>some []
 |(n,x)::r=>match ev x with
  |some v=>match Gw ev r with
   |some vs=>some ((n,v)::vs)
   |none=>none
  |none=>none
def placesOf(T:kA):List (Nat×TypeId)->Option (List (Nat×Nat))
 |[]=>some []
 |(off,t)::r=>match T.get t with
  |some j=>match placesOf T r with
   |some ps=>some ((off,j.size)::ps)
   |none=>none
  |none=>none
def LM(ev:Operand->Option Value):Option Operand->Option (Option Int)
 |none=>some none
 |some x=>match ev x with
  |some (.int _ n)=>some (some n)
  |_=>none
def ahg(d:Option Fp):Value->PV
 | .slice _ n _=>match d with
  |some (.slice _)=>.val (.int .i64 n)
  |_=>.no
 | .string s=>match d with
  |some .str=>.val (.int .i64 s.size)
  |_=>.no
 |_=>.no
def ahh(d:Option Fp):Value->PV
 | .slice _ _ n=>match d with
  |some (.slice _)=>.val (.int .i64 n)
  |_=>.no
 |_=>.no
def afb(d:Option Fp):Value->PV
 | .int _ n=>match d with
  |some (.int k)=>.val (.int k (k.wrap n))
  |_=>.no
 |_=>.no
def CV(P:Program)(T:kA)(op:Op)(ev:Operand->Option Value):PV:=
 match op with
 | .move x| .assign x=>match ev x with
  |some v=>.val v
  |none=>.no
 | .pick c a b=>match ev c,ev a,ev b with
  |some (.bool t),some x,some y=>.br t x y
  |_,_,_=>.no
 | .nilCheck x=>match ev x with
  |some (.pointer p)=>.ex Addr (λa=>p=some a) (λa=>.pointer (some a))
  |_=>.no
 | .fieldAddr s x f=>match ev x with
  |some (.pointer (some a))=>match T.get s with
   |some i=>match i.dc with
    | .struct fs=>match fs[f]? with
     |some (off,t)=>match T.get t with
      |some j=>bif wE j.size 0 then .no else .val (.pointer (some (a.add off)))
      |none=>.no
     |none=>.no
    |_=>.no
   |none=>.no
  |_=>.no
 | .indexAddr t x ix=>match ev ix with
  |some (.int _ n)=>match ev x with
   |some (.slice p len _)=>match T.get t with
    |some i=>match i.dc with
     | .slice e=>match T.get e with
      |some j=>.ex Addr (λa=>p=some a/\0<=n/\n<(len:Int)) (λa=>.pointer (some (a.add (n.toNat*j.size))))
      |none=>.no
     |_=>.no
    |none=>.no
   |some (.pointer (some a))=>match T.get t with
    |some i=>match i.dc with
     | .array m e=>match T.get e with
      |some j=>.cond (0<=n/\n<(m:Int)) (.pointer (some (a.add (n.toNat*j.size))))
      |none=>.no
     |_=>.no
    |none=>.no
   |_=>.no
  |_=>.no
 | .index t x ix=>match ev ix with
  |some (.int _ n)=>match ev x with
   |some (.string s)=>match T.get t with
    |some i=>match i.dc with
     | .str=>.ex UInt8 (λb=>0<=n/\s.data[n.toNat]?=some b) (λb=>.int .u8 b.toNat)
     |_=>.no
    |none=>.no
   |some (.agg cs)=>match T.get t with
    |some i=>match i.dc with
     | .array m e=>match T.get e with
      |some j=>match j.ty with
       | .sc s=>match j.dc with
        | .struct _=>.no
        | .array _ _=>.no
        | .other=>.no
        |_=>bif wE j.size 1 then .ex s.den (λy=>0<=n/\n<(m:Int)/\cs[n.toNat]?=some (s.enc y)) (λy=>s.enc y)else .no
       |_=>.no
      |none=>.no
     |_=>.no
    |none=>.no
   |_=>.no
  |_=>.no
 | .field s x f=>match ev x with
  |some (.agg ⟨cs⟩)=>match T.get s with
   |some i=>match i.dc with
    | .struct fs=>match fs[f]? with
     |some (off,t)=>match T.get t with
      |some j=>match j.dc with
       | .struct _=>.val (.agg ((cs.drop off).take j.size).toArray)
       | .array _ _=>.val (.agg ((cs.drop off).take j.size).toArray)
       | .other=>.no
       |_=>match cs[off]? with
        |some v=>.val v
        |none=>.no
      |none=>.no
     |none=>.no
    |_=>.no
   |none=>.no
  |_=>.no
 | .slice t x lo hi mx=>match mx with
  |some _=>.no
  |none=>match LM ev lo,LM ev hi with
   |some l,some r=>match ev x with
    |some (.slice p len cap)=>match T.get t with
     |some i=>match i.dc with
      | .slice e=>match T.get e with
       |some j=>match l,r with
        |none,none=>.val (.slice p len cap)
        |none,some r=>.cond (0<=r/\r<=(cap:Int)) (.slice p r.toNat cap)
        |some l,none=>.cond (0<=l/\l<=(len:Int)) (.slice (if cap=l.toNat then p else p.map (·.add (l.toNat*j.size))) (len-l.toNat) (cap-l.toNat))
        |some l,some r=>.cond (0<=l/\l<=r/\r<=(cap:Int)) (.slice (if cap=l.toNat then p else p.map (·.add (l.toNat*j.size))) (r.toNat-l.toNat) (cap-l.toNat))
       |none=>.no
      |_=>.no
     |none=>.no
    |some (.string s)=>match T.get t with
     |some i=>match i.dc with
      | .str=>match l,r with
       |none,none=>.val (.string (s.extract 0 s.size))
       |none,some r=>.cond (0<=r/\r<=(s.size:Int)) (.string (s.extract 0 r.toNat))
       |some l,none=>.cond (0<=l/\l<=(s.size:Int)) (.string (s.extract l.toNat s.size))
       |some l,some r=>.cond (0<=l/\l<=r/\r<=(s.size:Int)) (.string (s.extract l.toNat r.toNat))
      |_=>.no
     |none=>.no
    |some (.pointer (some a))=>match T.get t with
     |some i=>match i.dc with
      | .array n e=>match T.get e with
       |some j=>match l,r with
        |none,none=>.val (.slice (some a) n n)
        |none,some r=>.cond (0<=r/\r<=(n:Int)) (.slice (some a) r.toNat n)
        |some l,none=>.cond (0<=l/\l<=(n:Int)) (.slice (some (if n=l.toNat then a else a.add (l.toNat*j.size))) (n-l.toNat) (n-l.toNat))
        |some l,some r=>.cond (0<=l/\l<=r/\r<=(n:Int)) (.slice (some (if n=l.toNat then a else a.add (l.toNat*j.size))) (r.toNat-l.toNat) (n-l.toNat))
       |none=>.no
      |_=>.no
     |none=>.no
    |_=>.no
   |_,_=>.no
 | .extract x n=>match ev x with
  |some (.tuple ⟨vs⟩)=>match vs[n]? with
   |some v=>.val v
   |none=>.no
  |_=>.no
 | .binOp op t x y _=>match ev x,ev y with
  |some a,some b=>acY P t x y ((T.get t).map (·.dc)) op a b
  |_,_=>.no
 | .unOp op _ x=>match ev x with
  |some v=>unV op v
  |none=>.no
 | .convert src dst x=>match ev x,(T.get src).map TI.dc with
  |some v,some (Fp.int _)=>afb ((T.get dst).map (·.dc)) v
  |_,_=>.no
 | .build t parts=>match Gw ev parts.toList with
  |some vs=>match T.get t with
   |some i=>bif vM 24 i.size then .ex Value (λv=>aL P (vN t vs.toArray) v) (λv=>v)else match i.dc with
    | .struct fs=>match placesOf T fs with
     |some ps=>match wy (λn=>ps[n]?) i.zero.toArray vs with
      |some cells=>.val (.agg cells)
      |none=>.no
     |none=>.no
    | .array _ e=>match T.get e with
     |some j=>match wy (λn=>some (n*j.size,j.size)) i.zero.toArray vs with
      |some cells=>.val (.agg cells)
      |none=>.no
     |none=>.no
    |_=>.no
   |none=>.no
  |none=>.no
 | .makeFunc fn first captured=>match rR ev first.toList,rR ev captured.toList with
  |some a,some b=>.val (.func fn a.toArray b.toArray)
  |_,_=>.no
 | .call c=>match c.callee with
  | .builtin b=>match b with
   | .len=>match c.argTypes.toList,c.args.toList with
    |t::_,[x]=>match ev x with
     |some v=>ahg ((T.get t).map (·.dc)) v
     |none=>.no
    |_,_=>.no
   | .cap=>match c.argTypes.toList,c.args.toList with
    |t::_,[x]=>match ev x with
     |some v=>ahh ((T.get t).map (·.dc)) v
     |none=>.no
    |_,_=>.no
   | .min=>match rR ev c.args.toList with
    |some [.int k a,.int _ b]=>.val (.int k (if b<a then b else a))
    |_=>.no
   | .max=>match rR ev c.args.toList with
    |some [.int k a,.int _ b]=>.val (.int k (if b>a then b else a))
    |_=>.no
   | .real=>match rR ev c.args.toList with
    |some [.complex k a _]=>.val (.float k a)
    |_=>.no
   | .imag=>match rR ev c.args.toList with
    |some [.complex k _ b]=>.val (.float k b)
    |_=>.no
   |_=>.no
  |_=>.no
 |_=>.no
theorem aL.next{P:Program}{s:Sem Value}{v:Value}(h:aL P s v):tC P (do pure (.value (<-s))) v:=λw=>by
 rw[Sem.run_bind,h w];rfl
theorem aL.pure{α:Type}{P:Program}{v:α}:aL P (pure v) v:=λ_=>rfl
theorem aL.bind{α β:Type}{P:Program}{s:Sem α}{f:α->Sem β}{v:α}{u:β}(h:aL P s v)(k:aL P (f v) u):aL P (s>>=f) u:=λw=>by
 rw[Sem.run_bind,h w];exact k w
theorem IU{d:Option TypeDesc}{k:IntKind}(h:jl d=.int k):d=some (.int k):=by unfold jl at h;split at h<;>cases h;rfl
theorem acZ{d:Option TypeDesc}(h:jl d=.bool):d=some .bool:=by unfold jl at h;split at h<;>cases h;rfl
theorem xM{d:Option TypeDesc}(h:jl d=.str):d=some .string:=by unfold jl at h;split at h<;>cases h;rfl
theorem kC{d:Option TypeDesc}{e:TypeId}(h:jl d=.slice e):d=some (.slice e):=by unfold jl at h;split at h<;>cases h;rfl
theorem tE{d:Option TypeDesc}{n:Nat}{e:TypeId}(h:jl d=.array n e):d=some (.array n e):=by unfold jl at h;split at h<;>cases h;rfl
theorem afS{d:Option TypeDesc}{e:TypeId}(h:jl d=.ptr e):d=some (.pointer e):=by unfold jl at h;split at h<;>cases h;rfl
theorem pM{d:Option TypeDesc}{a:List (Nat×TypeId)}(h:jl d=.struct a):∃b,d=some (.struct b)/\a=b.toList.map λf=>(f.offset,f.type):=by unfold jl at h;split at h<;>cases h;exact⟨_,rfl,rfl⟩
section
variable {C:CU} {t:TypeId} {i:TI}
theorem CU.Ok.dc(h:C.Ok)(a:C.T.get t=some i):jl (C.P.underlying t)=i.dc:=congrArg Prod.fst (h.at a)
theorem CU.Ok.info(h:C.Ok)(d:C.T.get t=some i):∃f,C.P.info? t=some f/\f.size=i.size/\f.bytes=i.bytes/\∃z,f.zero=some z/\z.cells.toList=i.zero:=by
 have:=congrArg Prod.snd (h.at d);simp only[kA.seen,kA.told]at this;cases hf:C.P.info? t with
 |none=>rw[hf]at this;cases this
 |some f=>
  rw[hf]at this;simp only[qT,zT.injEq,Prod.mk.injEq]at this;obtain⟨a,b,c⟩:=this;cases hz:f.zero with
  |none=>rw[hz]at c;cases c
  |some z=>rw[hz]at c;simp at c;exact⟨f,rfl,a,b,z,hz,by simpa using c⟩
theorem aU{P:Program}{t:TypeId}{d:TypeDesc}(h:P.underlying t=some d):aL P (underlying t) d:=λw=>by
 simp[underlying,h]
theorem dv{P:Program}{t:TypeId}{d:TypeInfo}(h:P.info? t=some d):aL P (typeInfo t) d:=λw=>by
 simp[typeInfo,h]
theorem ee(h:C.Ok)(c:C.T.get t=some i):aL C.P (sizeOf t) i.size:=by obtain⟨f,a,b,_⟩:=h.info c;rw[<-b];exact(dv a).bind .pure
theorem sY(h:C.Ok)(c:C.T.get t=some i):∃z,aL C.P (zeroValue t) z/\z.cells.toList=i.zero:=by obtain⟨f,b,_,_,z,a,d⟩:=h.info c;refine⟨z,(dv b).bind ?_,d⟩;rw[a];exact .pure
theorem lD(h:C.Ok)(j:C.T.get t=some i):(∀b,i.dc=.struct b->aL C.P (isAgg t) true)/\(∀n e,i.dc=.array n e->aL C.P (isAgg t) true)/\
  ((∀b,i.dc≠.struct b)->(∀n e,i.dc≠.array n e)->i.dc≠.other->aL C.P (isAgg t) false):=by
 have a:=h.dc j;refine⟨λb c=>?_,λn e c=>?_,λf g h3=>?_⟩
 ·rw[c]at a;obtain⟨l,k,_⟩:=pM a;exact(aU k).bind .pure
 ·rw[c]at a;exact(aU (tE a)).bind .pure
 ·cases hu:C.P.underlying t with
  |none=>rw[hu]at a;exact absurd a.symm h3
  |some d=>
   refine(aU hu).bind ?_;rw[hu]at a;cases d<;>first|exact .pure|(exfalso;simp only[jl]at a;first|exact f _ a.symm|exact g _ _ a.symm)
end
theorem DX{ev:Operand->Option Value}{e:Operand->Value}(b:∀x v,ev x=some v->e x=v):∀{l:List Operand} {vs:List Value},rR ev l=some vs->l.map e=vs:=by
 intro l
 induction l with
 |nil=>intro vs h;cases h;rfl
 |cons x r ih=>
  intro vs h;simp only[rR]at h;split at h
  ·rename_i v c;split at h
   ·rename_i us a;cases h;simp[b _ _ c,ih a]
   ·cases h
  ·cases h
theorem JO{ev:Operand->Option Value}{e:Operand->Value}(b:∀x v,ev x=some v->e x=v):∀{l:List (Nat×Operand)} {vs:List (Nat×Value)},Gw ev l=some vs->l.map (λp=>(p.1,e p.2))=vs:=by
 intro l
 induction l with
 |nil=>intro vs h;cases h;rfl
 |cons x r ih=>
  intro vs h;obtain⟨n,x⟩:=x;simp only[Gw]at h;split at h
  ·rename_i v c;split at h
   ·rename_i us a;cases h;simp[b _ _ c,ih a]
   ·cases h
  ·cases h
section
variable {P:Program}
theorem KF(t:TypeId)(x y:Value):Op.equal t x y=Op.equalIn (9999+1) t x y:=rfl
theorem afT{t:TypeId}(c:P.underlying t=some .bool)(d:Nat)(a b:Bool):aL P (Op.equalIn (d+1) t (.bool a) (.bool b)) (a==b):=λw=>by
 simp[Op.equalIn,underlying,c]
theorem ahi{t e:TypeId}(b:P.underlying t=some (.pointer e))(d:Nat)(a:Option Addr):aL P (Op.equalIn (d+1) t (.pointer a) (.pointer none)) a.isNone:=λw=>by
 cases a<;>simp[Op.equalIn,underlying,b]
theorem ada{t e:TypeId}(b:P.underlying t=some (.slice e))(d:Nat)(a:Option Addr)(l c l' f:Nat):aL P (Op.equalIn (d+1) t (.slice a l c) (.slice none l' f)) a.isNone:=λw=>by
 cases a<;>simp[Op.equalIn,underlying,b]
theorem XM{t:TypeId}{d:Option Fp}{op:BinOp}{a b:Value}{x y:Operand}{K:Value->Prop}(o:∀q,d=some q->jl (P.underlying t)=q)
  (h:(acX P t x y d op a b).holds K):∃v,aL P (do eqGuard op t x y a b;binOp op t a b) v/\K v:=by
 have j:∀{a b:Value},¬(a=.nilIface/\b=.nilIface)->(∀u v,¬(a=.agg u/\b=.agg v))->aL P (eqGuard op t x y a b) ():=by
  intro a b f i w;simp only[eqGuard];cases op<;>simp only[Bool.not_true,Bool.not_false,zj,if_true,if_false]<;>
   first
    |rfl
    |(split<;>first|exact absurd ⟨rfl,rfl⟩ f|exact absurd ⟨rfl,rfl⟩ (i _ _)|rfl)
 unfold acX at h;split at h
 ·rename_i k a m b;have g:=j (a:=.int k a) (b:=.int m b) (by simp) (by simp);cases op<;>simp only at h
  case shl=>exact⟨_,g.bind λw=>by simp only[binOp,Op.shift];rw[if_neg (by have:=h.1;omega)];rfl,h.2⟩
  case shr=>exact⟨_,g.bind λw=>by simp only[binOp,Op.shift];rw[if_neg (by have:=h.1;omega)];rfl,h.2⟩
  all_goals
   cases hk:CT k m with
   |false=>rw[hk]at h;simp[PV.holds]at h
   |true=>
    rw[hk]at h;simp only[cond_true,PV.holds]at h;have e:=JN hk;subst e
    first
     |exact⟨_,g.bind λw=>by simp[binOp,Op.intArith,Op.intBits,Op.intCmp],h⟩
     |exact⟨_,g.bind λw=>by simp[binOp,Op.intDiv,h.1],h.2⟩
     |exact h.elim
 ·rename_i k a m b;have g:=j (a:=.float k a) (b:=.float m b) (by simp) (by simp);cases hk:Gu k m with
  |false=>rw[hk]at h;simp[PV.holds]at h
  |true=>
   rw[hk]at h;have e:=Gv hk;subst e;cases op<;>simp only[cond_true,PV.holds]at h<;>
    first
     |(obtain⟨r,f,i⟩:=h;exact⟨_,g.bind λw=>by simp[binOp,Op.floatArith,f],i⟩)
     |exact⟨_,g.bind λw=>by simp[binOp,Op.floatCmp],h⟩
     |exact h.elim
 ·rename_i a b;have g:=j (a:=.string a) (b:=.string b) (by simp) (by simp);cases op<;>simp only[PV.holds]at h<;>
   first
    |exact⟨_,g.bind λw=>by simp[binOp,Op.stringOp],h⟩
    |exact⟨_,g.bind λw=>by simp only[binOp,Op.stringOp];rw[if_neg (by have:=h.1;omega)];rfl,h.2⟩
    |exact h.elim
 ·rename_i a b;have g:=j (a:=.bool a) (b:=.bool b) (by simp) (by simp);split at h
  ·have n:=acZ (o _ rfl);cases op<;>simp only[PV.holds]at h<;>
    first
     |exact⟨_,g.bind (by simp only[binOp,KF];exact(afT n _ a b).bind .pure),h⟩
     |exact h.elim
  ·exact h.elim
 ·rename_i a b;cases hy:afa y with
  |true=>
   rw[hy]at h;obtain⟨r,f,i⟩:=h;exact⟨_,f,i⟩
  |false=>
   rw[hy]at h;cases b with
   |some _=>exact h.elim
   |none=>
    have g:=j (a:=.pointer a) (b:=.pointer none) (by simp) (by simp);simp only[cond_false]at h;split at h
    ·rename_i e;have n:=afS (o _ rfl);cases op<;>simp only[PV.holds]at h<;>
      first
       |exact⟨_,g.bind (by simp only[binOp,KF];exact(ahi n _ a).bind .pure),h⟩
       |exact h.elim
    ·exact h.elim
 ·rename_i a l c l' p;have g:=j (a:=.slice a l c) (b:=.slice none l' p) (by simp) (by simp);split at h
  ·rename_i e;have n:=kC (o _ rfl);cases op<;>simp only[PV.holds]at h<;>
    first
     |exact⟨_,g.bind (by simp only[binOp,KF];exact(ada n _ a l c l' p).bind .pure),h⟩
     |exact h.elim
  ·exact h.elim
 ·obtain⟨r,f,i⟩:=h;exact⟨_,f,i⟩
 ·split at h
  ·obtain⟨r,f,i⟩:=h;exact⟨_,f,i⟩
  ·obtain⟨r,f,i⟩:=h;exact⟨_,f,i⟩
  ·obtain⟨r,f,i⟩:=h;exact⟨_,f,i⟩
 ·exact h.elim
theorem XN{t:TypeId}{d:Option Fp}{op:BinOp}{a b:Value}{x y:Operand}{K:Value->Prop}(c:∀q,d=some q->jl (P.underlying t)=q)
  (h:(acY P t x y d op a b).holds K):∃v,aL P (do eqGuard op t x y a b;binOp op t a b) v/\K v:=by
 unfold acY at h;split at h
 ·obtain⟨r,e,f⟩:=h;exact⟨_,e,f⟩
 ·exact XM c h
end
theorem Sg(a:List Value)(off n:Nat):((a.drop off).take n).toArray=(a.toArray).extract off (off+n):=by apply yu;simp[List.extract_eq_take_drop]
section
variable {C:CU} {ev:Operand->Option Value} {e:Operand->Value}
theorem od(c:C.Ok):∀{b:List Field} {a:List (Nat×Nat)},placesOf C.T (b.map λf=>(f.offset,f.type))=some a->
  aL C.P (b.mapM λf=>(do pure (f.offset,<-sizeOf f.type):Sem (Nat×Nat))) a
 |[],a,h=>by cases h;exact .pure
 |f::r,a,h=>by
  simp only[List.map_cons,placesOf]at h;split at h
  ·rename_i j d;split at h
   ·rename_i g e;cases h;rw[List.mapM_cons];exact aL.bind ((ee c d).bind .pure) ((od c e).bind .pure)
   ·cases h
  ·cases h
theorem JP(f:C.Ok){t:TypeId}{j:TI}(c:C.T.get t=some j)(d:∀b,j.dc≠.struct b)(g:∀n e,j.dc≠.array n e)(h3:j.dc≠.other)
  {a:Array Value} {off:Nat} {v:Value} (h:a[off]?=some v):aL C.P (part t a off) v:=by
 refine((lD f c).2.2 d g h3).bind ?_;rw[h];exact .pure
theorem Sh(c:C.Ok){t:TypeId}{j:TI}(b:C.T.get t=some j)(h:(∃a,j.dc=.struct a)∨∃n e,j.dc=.array n e)
  {d:Array Value} {off:Nat}:aL C.P (part t d off) (.agg (d.extract off (off+j.size))):=by
 have f:aL C.P (isAgg t) true:=by
  rcases h with⟨a,h⟩|⟨n,e,h⟩
  ·exact(lD c b).1 a h
  ·exact(lD c b).2.1 n e h
 exact f.bind ((ee c b).bind .pure)
theorem LN(I:C.Ok)(G:∀x v,ev x=some v->e x=v){o:Oper}{K:Value->Prop}(h:(CV C.P C.T o.op ev).holds K):
  ∃v,tC C.P (execOp e o) v/\K v:=by
 have M:∀t q,(C.T.get t).map (·.dc)=some q->jl (C.P.underlying t)=q:=λt q h=>by
  cases F:C.T.get t with
  |none=>rw[F]at h;cases h
  |some i=>rw[F]at h;cases h;exact I.dc F
 cases hop:o.op<;>rw[hop]at h<;>simp only[CV]at h<;>simp only[execOp,hop]
 case move x=>
  split at h
  ·rename_i v A;rw[G _ _ A];exact⟨v,λ_=>rfl,h⟩
  ·exact h.elim
 case assign x=>
  split at h
  ·rename_i v A;rw[G _ _ A];exact⟨v,λ_=>rfl,h⟩
  ·exact h.elim
 case pick c a b=>
  split at h
  ·rename_i t x y Q h2 h3;rw[G _ _ Q,G _ _ h2,G _ _ h3];cases t
   ·exact⟨y,λ_=>rfl,h⟩
   ·exact⟨x,λ_=>rfl,h⟩
  ·exact h.elim
 case nilCheck x=>
  split at h
  ·rename_i p hp;obtain⟨a,rfl,B⟩:=h;rw[G _ _ hp];exact⟨_,λ_=>rfl,B⟩
  ·exact h.elim
 case fieldAddr s x f=>
  split at h
  ·rename_i a ha;rw[G _ _ ha];split at h
   ·rename_i i F;split at h
    ·rename_i fs Y;split at h
     ·rename_i off t ah;split at h
      ·rename_i j R;cases hz:wE j.size 0 with
       |true=>rw[hz]at h;exact h.elim
       |false=>
        rw[hz]at h;have E:=I.dc F;rw[Y]at E;obtain⟨gs,hg,rfl⟩:=pM E;simp only[qS,y6]at ah;obtain⟨g,a0,a6⟩:=ah;cases a6;refine⟨_,aL.next ((aU hg).bind ?_),h⟩;have ap:gs[f]?=some g:=by simpa using a0
        simp only[ap];refine aL.bind (v:=a) .pure (aL.bind (v:=a.add g.offset) ?_ .pure);unfold fieldPlace;refine(ee I R).bind ?_;have:j.size≠0:=λe=>by rw[e]at hz;cases hz
        rw[if_neg this];exact .pure
      ·exact h.elim
     ·exact h.elim
    ·exact h.elim
   ·exact h.elim
  ·exact h.elim
 case indexAddr t x ix=>
  split at h
  ·rename_i k n hn;rw[G _ _ hn];split at h
   ·rename_i p len cap U;rw[G _ _ U];split at h
    ·rename_i i F;split at h
     ·rename_i el D;split at h
      ·rename_i j R;obtain⟨a,⟨rfl,h0,Q⟩,B⟩:=h;have E:=I.dc F;rw[D]at E;have H:=kC E;refine⟨_,aL.next ?_,B⟩;unfold Instr.indexAt;refine aL.bind (v:=(k,n)) .pure ?_;refine(aU H).bind ?_;refine aL.bind (v:=(some a,len,el)) .pure ?_;intro w;have:=ee I R w;simp only[Sem.run_bind,aU H w,Result.andThen_ok];cases hl:decide (len<=1)<;>simp[h0,Q,this]
      ·exact h.elim
     ·exact h.elim
    ·exact h.elim
   ·rename_i a U;rw[G _ _ U];split at h
    ·rename_i i F;split at h
     ·rename_i m el D;split at h
      ·rename_i j R;obtain⟨⟨h0,Q⟩,B⟩:=h;have E:=I.dc F;rw[D]at E;have H:=tE E;refine⟨_,aL.next ?_,B⟩;unfold Instr.indexAt;refine aL.bind (v:=(k,n)) .pure ?_;refine(aU H).bind ?_;refine aL.bind (v:=(some a,m,el)) .pure ?_;intro w;have:=ee I R w;simp only[Sem.run_bind,aU H w,Result.andThen_ok];cases hl:decide (m<=1)<;>simp[h0,Q,this]
      ·exact h.elim
     ·exact h.elim
    ·exact h.elim
   ·exact h.elim
  ·exact h.elim
 case index t x ix=>
  split at h
  ·rename_i k n hn;rw[G _ _ hn];split at h
   ·rename_i s U;rw[G _ _ U];split at h
    ·rename_i i F;split at h
     ·rename_i D;obtain⟨b,⟨h0,Q⟩,B⟩:=h;have E:=I.dc F;rw[D]at E;have H:=xM E;refine⟨_,aL.next ?_,B⟩;unfold Instr.index;refine aL.bind (v:=(k,n)) .pure ?_;refine(aU H).bind ?_;have hb:s[n.toNat]?=some b:=by rw[Array.getElem?_eq_some_iff]at Q;obtain⟨bl,hg⟩:=Q;have a7:n.toNat<s.size:=bl;rw[getElem?_pos s n.toNat a7];exact congrArg some hg
      simp only[h0,if_true,hb];exact .pure
     ·exact h.elim
    ·exact h.elim
   ·rename_i cs U;rw[G _ _ U];split at h
    ·rename_i i F;split at h
     ·rename_i m el D;split at h
      ·rename_i j R;split at h
       ·rename_i s hs;have E:=I.dc F;rw[D]at E;have H:=tE E;have am:(∃y,(0<=n/\n<(m:Int)/\cs[n.toNat]?=some (s.enc y))/\K (s.enc y))->(∀fs,j.dc≠.struct fs)->(∀n e,j.dc≠.array n e)->j.dc≠.other->j.size=1->
          ∃v,tC C.P (do pure (.value (<-Instr.index t (.agg cs) (.int k n)))) v/\K v:=by
         rintro⟨y,⟨h0,Q,h2⟩,B⟩ d1 d2 d3 bq;refine⟨_,aL.next ?_,B⟩;unfold Instr.index;refine aL.bind (v:=(k,n)) .pure ?_;refine(aU H).bind ?_;simp only[h0,Q,and_self,if_true];refine(ee I R).bind ?_;rw[bq,Nat.mul_one];exact JP I R d1 d2 d3 h2
        split at h
        ·exact h.elim
        ·exact h.elim
        ·exact h.elim
        ·rename_i d1 d2 d3;cases hz:wE j.size 1 with
         |false=>rw[hz]at h;exact h.elim
         |true=>
          rw[hz]at h;exact am h d1 d2 d3 (zL hz)
       ·exact h.elim
      ·exact h.elim
     ·exact h.elim
    ·exact h.elim
   ·exact h.elim
  ·exact h.elim
 case field s x f=>
  split at h
  ·rename_i cs U;rw[G _ _ U];split at h
   ·rename_i i F;split at h
    ·rename_i fs Y;split at h
     ·rename_i off t ah;split at h
      ·rename_i j R;have E:=I.dc F;rw[Y]at E;obtain⟨gs,hg,rfl⟩:=pM E;simp only[qS,y6]at ah;obtain⟨g,a0,a6⟩:=ah;cases a6;have ap:gs[f]?=some g:=by simpa using a0
       have am:∀v,aL C.P (part g.type ⟨cs⟩ g.offset) v->K v->∃v,tC C.P (do pure (.value (<-Instr.field s (.agg ⟨cs⟩) f))) v/\K v:=by intro v A B;refine⟨v,aL.next ((aU hg).bind ?_),B⟩;simp only[ap];exact aL.bind (v:=(⟨cs⟩:Array Value)) .pure A
       split at h
       ·rename_i b1 ax;refine am _ (Sh I R (.inl ⟨_,ax⟩)) ?_;rw[<-Sg];exact h
       ·rename_i n' e' ax;refine am _ (Sh I R (.inr ⟨_,_,ax⟩)) ?_;rw[<-Sg];exact h
       ·exact h.elim
       ·rename_i d1 d2 d3;split at h
        ·rename_i v A;exact am v (JP I R d1 d2 d3 (by simpa using A)) h
        ·exact h.elim
      ·exact h.elim
     ·exact h.elim
    ·exact h.elim
   ·exact h.elim
  ·exact h.elim
 case slice t x W hi0 mx=>
  split at h
  ·exact h.elim
  ·split at h
   ·rename_i l r hl hr;have a4:(W=none/\l=none)∨∃y k m,W=some y/\e y=.int k m/\l=some m:=by
     cases W with
     |none=>cases hl;exact .inl ⟨rfl,rfl⟩
     |some y=>
      simp only[LM]at hl;split at hl
      ·rename_i k m hm;cases hl;exact .inr ⟨y,k,m,rfl,G _ _ hm,rfl⟩
      ·cases hl
    have ay:(hi0=none/\r=none)∨∃y k m,hi0=some y/\e y=.int k m/\r=some m:=by
     cases hi0 with
     |none=>cases hr;exact .inl ⟨rfl,rfl⟩
     |some y=>
      simp only[LM]at hr;split at hr
      ·rename_i k m hm;cases hr;exact .inr ⟨y,k,m,rfl,G _ _ hm,rfl⟩
      ·cases hr
    have J:∀(bb:Bool) (len cap:Nat) (W F:Option Value) (a b:Nat),(W=none->a=0)->(∀v,W=some v->∃k m,v=.int k m/\0<=m/\a=m.toNat/\m<=(b:Int))->
      (F=none->b=len)->(∀v,F=some v->∃k m,v=.int k m/\0<=m/\b=m.toNat/\m<=(cap:Int))->
      aL C.P (wB bb len cap W F none) (a,b,cap):=by
     intro bb len cap W F a b Q h2 h3 h4 w;cases F with
     |none=>
      have e1:=h3 rfl;subst e1;cases W with
      |none=>rw[Q rfl];simp[wB]
      |some v=>
       obtain⟨k,m,rfl,x1,rfl,x2⟩:=h2 v rfl;simp[wB,vI,asIntOf,x1,x2]
     |some u=>
      obtain⟨k',V,rfl,y1,rfl,y2⟩:=h4 u rfl;cases W with
      |none=>rw[Q rfl];simp[wB,vI,asIntOf,y1,y2]
      |some v=>
       obtain⟨k,m,rfl,x1,rfl,x2⟩:=h2 v rfl;have x3:¬max V 0<m:=by omega
       simp[wB,vI,asIntOf,x1,y1,y2,x3]
    split at h
    ·rename_i p len cap U;rw[G _ _ U];split at h
     ·rename_i i F;split at h
      ·rename_i el D;split at h
       ·rename_i j R;have E:=I.dc F;rw[D]at E;have H:=kC E;have fin:∀(a b:Nat) (v:Value),aL C.P (wB true len cap (W.map e) (hi0.map e) none) (a,b,cap)->
          v=.slice (if cap=a then p else p.map (·.add (a*j.size))) (b-a) (cap-a)->K v->
          ∃v,tC C.P (do pure (.value (<-yk t (.slice p len cap) (W.map e) (hi0.map e) (Option.map e none)))) v/\K v:=by
         intro a b v hb A B;refine⟨v,aL.next ?_,B⟩;unfold yk;refine(aU H).bind ?_;simp only[xg,Option.map_none];refine(aU H).bind ?_;refine hb.bind ?_;subst A;exact(ee I R).bind .pure
        have ad:(if cap=0 then p else p.map (·.add (0*j.size)))=p:=by
         cases p<;>simp[Addr.add]
        rcases a4 with⟨rfl,rfl⟩|⟨y,k,m,rfl,hy,rfl⟩<;>rcases ay with⟨rfl,rfl⟩|⟨y',k',V,rfl,hy',rfl⟩
        ·exact fin 0 len _ (J _ _ _ _ _ _ _ (λ_=>rfl) (by simp) (λ_=>rfl) (by simp)) (by rw[ad];rfl) h
        ·obtain⟨⟨S,Z⟩,B⟩:=h;exact fin 0 V.toNat _ (J _ _ _ _ _ _ _ (λ_=>rfl) (by simp) (by simp) λv A=>by cases A;exact⟨k',V,hy',S,rfl,Z⟩) (by rw[ad];rfl) B
        ·obtain⟨⟨S,Z⟩,B⟩:=h;exact fin m.toNat len _ (J _ _ _ _ _ _ _ (by simp) (λv A=>by cases A;exact⟨k,m,hy,S,rfl,Z⟩) (λ_=>rfl) (by simp)) rfl B
        ·obtain⟨⟨S,Z,a3⟩,B⟩:=h;exact fin m.toNat V.toNat _ (J _ _ _ _ _ _ _ (by simp) (λv A=>by cases A;exact⟨k,m,hy,S,rfl,by omega⟩) (by simp) λv A=>by cases A;exact⟨k',V,hy',by omega,rfl,a3⟩) rfl B
       ·exact h.elim
      ·exact h.elim
     ·exact h.elim
    ·rename_i s U;rw[G _ _ U];split at h
     ·rename_i i F;split at h
      ·rename_i D;have E:=I.dc F;rw[D]at E;have H:=xM E;have fin:∀(a b:Nat) (v:Value),aL C.P (wB false s.size s.size (W.map e) (hi0.map e) none) (a,b,s.size)->
         v=.string (s.extract a b)->K v->
         ∃v,tC C.P (do pure (.value (<-yk t (.string s) (W.map e) (hi0.map e) (Option.map e none)))) v/\K v:=by
        intro a b v hb A B;refine⟨v,aL.next ?_,B⟩;unfold yk;refine(aU H).bind ?_;simp only[xg,Option.map_none];refine(aU H).bind ?_;subst A;intro w;simp[hb w]
       rcases a4 with⟨rfl,rfl⟩|⟨y,k,m,rfl,hy,rfl⟩<;>rcases ay with⟨rfl,rfl⟩|⟨y',k',V,rfl,hy',rfl⟩
       ·exact fin 0 s.size _ (J _ _ _ _ _ _ _ (λ_=>rfl) (by simp) (λ_=>rfl) (by simp)) rfl h
       ·obtain⟨⟨S,Z⟩,B⟩:=h;exact fin 0 V.toNat _ (J _ _ _ _ _ _ _ (λ_=>rfl) (by simp) (by simp) λv A=>by cases A;exact⟨k',V,hy',S,rfl,Z⟩) rfl B
       ·obtain⟨⟨S,Z⟩,B⟩:=h;exact fin m.toNat s.size _ (J _ _ _ _ _ _ _ (by simp) (λv A=>by cases A;exact⟨k,m,hy,S,rfl,Z⟩) (λ_=>rfl) (by simp)) rfl B
       ·obtain⟨⟨S,Z,a3⟩,B⟩:=h;exact fin m.toNat V.toNat _ (J _ _ _ _ _ _ _ (by simp) (λv A=>by cases A;exact⟨k,m,hy,S,rfl,by omega⟩) (by simp) λv A=>by cases A;exact⟨k',V,hy',by omega,rfl,a3⟩) rfl B
      ·exact h.elim
     ·exact h.elim
    ·rename_i a U;rw[G _ _ U];split at h
     ·rename_i i F;split at h
      ·rename_i n el D;split at h
       ·rename_i j R;have E:=I.dc F;rw[D]at E;have H:=tE E;have fin:∀(a' b:Nat) (v:Value),aL C.P (wB false n n (W.map e) (hi0.map e) none) (a',b,n)->
          v=.slice (some (if n=a' then a else a.add (a'*j.size))) (b-a') (n-a')->K v->
          ∃v,tC C.P (do pure (.value (<-yk t (.pointer (some a)) (W.map e) (hi0.map e) (Option.map e none)))) v/\K v:=by
         intro a' b v hb A B;refine⟨v,aL.next ?_,B⟩;unfold yk;refine(aU H).bind ?_;simp only[Option.map_none];refine aL.bind (v:=a) .pure ?_;refine hb.bind ?_;subst A;exact(ee I R).bind .pure
        have ad:(if n=0 then a else a.add (0*j.size))=a:=by simp[Addr.add]
        rcases a4 with⟨rfl,rfl⟩|⟨y,k,m,rfl,hy,rfl⟩<;>rcases ay with⟨rfl,rfl⟩|⟨y',k',V,rfl,hy',rfl⟩
        ·exact fin 0 n _ (J _ _ _ _ _ _ _ (λ_=>rfl) (by simp) (λ_=>rfl) (by simp)) (by rw[ad];rfl) h
        ·obtain⟨⟨S,Z⟩,B⟩:=h;exact fin 0 V.toNat _ (J _ _ _ _ _ _ _ (λ_=>rfl) (by simp) (by simp) λv A=>by cases A;exact⟨k',V,hy',S,rfl,Z⟩) (by rw[ad];rfl) B
        ·obtain⟨⟨S,Z⟩,B⟩:=h;exact fin m.toNat n _ (J _ _ _ _ _ _ _ (by simp) (λv A=>by cases A;exact⟨k,m,hy,S,rfl,Z⟩) (λ_=>rfl) (by simp)) rfl B
        ·obtain⟨⟨S,Z,a3⟩,B⟩:=h;exact fin m.toNat V.toNat _ (J _ _ _ _ _ _ _ (by simp) (λv A=>by cases A;exact⟨k,m,hy,S,rfl,by omega⟩) (by simp) λv A=>by cases A;exact⟨k',V,hy',by omega,rfl,a3⟩) rfl B
       ·exact h.elim
      ·exact h.elim
     ·exact h.elim
    ·exact h.elim
   ·exact h.elim
 case extract x n=>
  split at h
  ·rename_i vs U;rw[G _ _ U];split at h
   ·rename_i v A;refine⟨v,aL.next ?_,h⟩;have:(⟨vs⟩:Array Value)[n]?=some v:=by simpa using A
    simp only[Instr.extract,this];exact .pure
   ·exact h.elim
  ·exact h.elim
 case binOp op t x y u=>
  split at h
  ·rename_i a b ha hb;rw[G _ _ ha,G _ _ hb];obtain⟨v,A,B⟩:=XN (P:=C.P) (x:=x) (y:=y) (M t) h;exact⟨v,A.next,B⟩
  ·exact h.elim
 case unOp op t x=>
  split at h
  ·rename_i v A;rw[G _ _ A];unfold unV at h;split at h
   ·split at h
    ·exact⟨_,aL.next .pure,h⟩
    ·exact h.elim
   ·split at h
    ·exact⟨_,aL.next .pure,h⟩
    ·exact⟨_,aL.next .pure,h⟩
    ·exact h.elim
   ·exact h.elim
  ·exact h.elim
 case convert s d x=>
  split at h
  ·rename_i v ks A a8;rw[G _ _ A];have hs:=IU (M _ _ a8);unfold afb at h;split at h
   ·split at h
    ·rename_i n _ k B;have H:=IU (M _ _ B);refine⟨_,aL.next ?_,h⟩;unfold convert;refine(aU hs).bind ((aU H).bind ?_);exact .pure
    ·exact h.elim
   ·exact h.elim
  ·exact h.elim
 case build t parts=>
  split at h
  ·rename_i vs br;have hp:(parts.map λ(i,x)=>(i,e x)).toList=vs:=by have:=JO G br;simpa using this
   split at h
   ·rename_i i F;obtain⟨z,hz,bk⟩:=sY I F;have ar:i.zero.toArray=z.cells:=by rw[<-bk]
    cases hbig:vM 24 i.size with
    |true=>
     rw[hbig]at h;obtain⟨v,A,B⟩:=h;have bd:(parts.map λ(i,x)=>(i,e x))=vs.toArray:=by rw[<-hp]
     refine⟨v,aL.next ?_,B⟩;show aL C.P (vN t (parts.map λ(i,x)=>(i,e x))) v;rw[bd];exact A
    |false=>
    rw[hbig]at h;simp only[cond_false]at h;split at h
    ·rename_i fs Y;have E:=I.dc F;rw[Y]at E;obtain⟨gs,hg,rfl⟩:=pM E;split at h
     ·rename_i ps b0;split at h
      ·rename_i cells N;refine⟨_,aL.next (hz.bind ((aU hg).bind ?_)),h⟩;have a9:aL C.P (gs.mapM λf=>(do pure (f.offset,<-sizeOf f.type):Sem (Nat×Nat))) ps.toArray:=by rw[vl];intro w;have:=od I b0 w;rw[map_eq_pure_bind,Sem.run_bind,this];rfl
       refine a9.bind ?_;have a5:wy (λn=>ps.toArray[n]?) z.cells (parts.map λ(i,x)=>(i,e x)).toList=some cells:=by rw[hp,<-ar];simpa using N
       rw[a5];exact .pure
      ·exact h.elim
     ·exact h.elim
    ·rename_i n el Y;have E:=I.dc F;rw[Y]at E;have H:=tE E;split at h
     ·rename_i j R;split at h
      ·rename_i cells N;refine⟨_,aL.next (hz.bind ((aU H).bind ((ee I R).bind ?_))),h⟩;have a5:wy (λi=>some (i*j.size,j.size)) z.cells (parts.map λ(i,x)=>(i,e x)).toList=some cells:=by rw[hp,<-ar];exact N
       rw[a5];exact .pure
      ·exact h.elim
     ·exact h.elim
    ·exact h.elim
   ·exact h.elim
  ·exact h.elim
 case makeFunc fn first captured=>
  split at h
  ·rename_i a b ha hb;have Q:first.map e=a.toArray:=by apply yu;simpa using DX G ha
   have h2:captured.map e=b.toArray:=by apply yu;simpa using DX G hb
   refine⟨_,aL.next ?_,h⟩;rw[Q,h2];exact .pure
  ·exact h.elim
 case call c=>
  split at h
  ·rename_i b hb;have L:∀{v:Value},aL C.P (builtin b c.argTypes o.type (c.args.map λ| .const _=>true|_=>false) (c.args.map e)) (.value v)->
     tC C.P (do let d<-resolve e c o.type;invoke d.target d.args) v:=by
    intro v A w;have:=A w;unfold resolve;rw[hb];exact this
   have O:∀{vs:List Value},rR ev c.args.toList=some vs->c.args.map e=vs.toArray:=λA=>by
    apply yu;simpa using DX G A
   have X:∀{s:Sem Value} {v:Value},aL C.P s v->aL C.P (do pure (Next.value (<-s))) (.value v):=λhs=>hs.bind .pure;split at h
   case h_1=>
    split at h
    ·rename_i t ts x Q h2;split at h
     ·rename_i v A;have ha:c.args.map e=#[v]:=by apply yu;rw[vJ,h2];simp[G _ _ A]
      have ht:c.argTypes[0]?=some t:=by rw[<-vG,Q];rfl
      unfold ahg at h;split at h
      ·rename_i p n cap;split at h
       ·rename_i el D;have H:=kC (M _ _ D);refine⟨_,L ?_,h⟩;rw[ha];refine X ?_;intro w;simp[Builtin.len_,ht,underlying,H,goInt]
       ·exact h.elim
      ·rename_i s;split at h
       ·rename_i D;have H:=xM (M _ _ D);refine⟨_,L ?_,h⟩;rw[ha];refine X ?_;intro w;simp[Builtin.len_,ht,underlying,H,goInt]
       ·exact h.elim
      ·exact h.elim
     ·exact h.elim
    ·exact h.elim
   case h_2=>
    split at h
    ·rename_i t ts x Q h2;split at h
     ·rename_i v A;have ha:c.args.map e=#[v]:=by apply yu;rw[vJ,h2];simp[G _ _ A]
      have ht:c.argTypes[0]?=some t:=by rw[<-vG,Q];rfl
      unfold ahh at h;split at h
      ·rename_i p n cap;split at h
       ·rename_i el D;have H:=kC (M _ _ D);refine⟨_,L ?_,h⟩;rw[ha];refine X ?_;intro w;simp[Builtin.cap_,ht,underlying,H,goInt]
       ·exact h.elim
      ·exact h.elim
     ·exact h.elim
    ·exact h.elim
   case h_3=>
    split at h
    ·rename_i k a k' b A;refine⟨_,L ?_,h⟩;rw[O A];refine X ?_;intro w;simp[Builtin.min_,Builtin.min2]
    ·exact h.elim
   case h_4=>
    split at h
    ·rename_i k a k' b A;refine⟨_,L ?_,h⟩;rw[O A];refine X ?_;intro w;simp[Builtin.max_,Builtin.max2]
    ·exact h.elim
   case h_5=>
    split at h
    ·rename_i k a b A;refine⟨_,L ?_,h⟩;rw[O A];exact X .pure
    ·exact h.elim
   case h_6=>
    split at h
    ·rename_i k a b A;refine⟨_,L ?_,h⟩;rw[O A];exact X .pure
    ·exact h.elim
   all_goals exact h.elim
  ·exact h.elim
 all_goals exact h.elim
end
def an(h:Heap)(a:Addr):Nat->List Value->Prop
 |_,[]=>True
 |n,v::r=>cellOf h (a.add n)=some v/\an h a (n+1) r
structure Bv where
 a:Addr
 ty:Ty
 n:Nat
def Bv.holds(r:Bv)(h:Heap)(y:r.ty.den):Prop:=
 match r.ty,y with
 | .sc s,y=>cellOf h r.a=some (s.enc y)
 | .agg l,y=>an h r.a 0 (Ci l y)
 | .arr s,y=>y.length=r.n/\an h r.a 0 (y.map s.enc)
def xV(T:kA)(op:Op)(ev:Operand->Option Value):Option Bv:=
 match op with
 | .load t x=>match ev x with
  |some (.pointer (some a))=>match T.get t with
   |some i=>match i.dc with
    | .struct _=>match i.ty with
     | .agg l=>bif wE l.length i.size then some ⟨a,i.ty,i.size⟩else none
     |_=>none
    | .array _ _=>match i.ty with
     | .arr _=>some ⟨a,i.ty,i.size⟩
     |_=>none
    | .other=>none
    |_=>match i.ty with
     | .sc _=>some ⟨a,i.ty,1⟩
     |_=>none
   |none=>none
  |_=>none
 |_=>none
theorem JQ:∀(l:List Sc) (x:Om l),(Ci l x).length=l.length
 |[],_=>rfl
 |[_],_=>rfl
 |_::t::r,x=>by simp only[Ci,zi];rw[JQ (t::r) x.2];rfl
theorem run_loadCells{P:Program}{w:World}{a:Addr}:∀(vs:List Value) (i:Nat) (b:Array Value),an w.heap a i vs->
  (loadCellsFrom a i vs.length b).run P w=.ok (b++vs.toArray) w
 |[],i,b,_=>by simp[loadCellsFrom]
 |v::r,i,b,h=>by
  simp only[zi,loadCellsFrom,Sem.run_bind,run_load,Oj,h.1,Result.andThen_ok];rw[run_loadCells r (i+1) (b.push v) h.2];simp
theorem DY{C:CU}(m:C.Ok){ev:Operand->Option Value}{e:Operand->Value}(G:∀x v,ev x=some v->e x=v){o:Oper}{r:Bv}
  (b:xV C.T o.op ev=some r) {y:r.ty.den} {w:World} (d:r.holds w.heap y):(execOp e o).run C.P w=.ok (.value (r.ty.enc y)) w:=by
 unfold xV at b;split at b
 ·rename_i t x q;simp only[execOp,q];split at b
  ·rename_i a A;rw[G _ _ A];split at b
   ·rename_i i p;have g:(∀v,(loadVar t a).run C.P w=.ok v w->(do let s<-vQ t (.pointer (some a));pure (Next.value s):Sem Next).run C.P w=.ok (.value v) w):=by intro v H;have:vQ t (.pointer (some a))=loadVar t a:=rfl;rw[this,Sem.run_bind,H];rfl
    split at b
    ·rename_i D h;split at b
     ·rename_i l f;cases hb:wE l.length i.size with
      |false=>rw[hb]at b;cases b
      |true=>
       rw[hb]at b;simp only[cond_true,zT.injEq]at b;subst b;have k:=zL hb;have c:∀(ty:Ty) (y:ty.den),ty=.agg l->Bv.holds ⟨a,ty,i.size⟩ w.heap y->(loadVar t a).run C.P w=.ok (ty.enc y) w:=by rintro ty y rfl d;unfold loadVar;rw[Sem.run_bind,(lD m p).1 D h w];simp only[Result.andThen_ok,if_true,Sem.run_bind,ee m p w];have j:=run_loadCells (P:=C.P) (w:=w) (a:=a) (Ci l y) 0 #[] d;rw[JQ,k]at j;unfold loadCells;rw[j];simp
       exact g _ (c i.ty y f d)
     ·cases b
    ·rename_i n B h;split at b
     ·rename_i s f;cases b;have c:∀(ty:Ty) (y:ty.den),ty=.arr s->Bv.holds ⟨a,ty,i.size⟩ w.heap y->(loadVar t a).run C.P w=.ok (ty.enc y) w:=by rintro ty y rfl ⟨f,d⟩;unfold loadVar;rw[Sem.run_bind,(lD m p).2.1 n B h w];simp only[Result.andThen_ok,if_true,Sem.run_bind,ee m p w];have j:=run_loadCells (P:=C.P) (w:=w) (a:=a) (y.map s.enc) 0 #[] d;rw[List.length_map,f]at j;unfold loadCells;rw[j];simp
      exact g _ (c i.ty y f d)
     ·cases b
    ·cases b
    ·rename_i z F E;split at b
     ·rename_i s f;cases b;have c:∀(ty:Ty) (y:ty.den),ty=.sc s->Bv.holds ⟨a,ty,1⟩ w.heap y->(loadVar t a).run C.P w=.ok (ty.enc y) w:=by rintro ty y rfl d;have u:cellOf w.heap a=some (s.enc y):=d;unfold loadVar;rw[Sem.run_bind,(lD m p).2.2 z F E w];simp[Oj,u]
      exact g _ (c i.ty y f d)
     ·cases b
   ·cases b
  ·cases b
 ·cases b
def Typed(t:Ty)(K:Value->Heap->Prop)(v:Value)(h:Heap):Prop:=∃x:t.den,v=t.enc x/\K (t.enc x) h
def LO(t:Rt)(K:Value->Heap->Prop)(v:Value)(h:Heap):Prop:=∃x:t.den,v=t.enc x/\K (t.enc x) h
def LP(K:Value->Heap->Prop)(v:Value)(h:Heap):Prop:=∃a:Addr,v=.pointer (some a)/\K (.pointer (some a)) h
def ahj(T:kA)(t:TypeId)(tup:List (TypeId×List Ty)):Option Rt:=
 match tup.find? (λp=>wE p.1 t)with
 |some p=>some (.many p.2)
 |none=>match T.get t with
  |some i=>some (.one i.ty)
  |none=>none
structure Ctx extends CU where
 tup:List (TypeId×List Ty)
 fns:List Bool
structure Ctx.Ok (C:Ctx):Prop extends CU.Ok C.toCU where
 fns:(C.P.funcs.toList.map λf=>!(f.name== "runtime.NumGoroutine")&&f.body.isSome)=C.fns
def XO(C:Ctx)(g:FuncId)(args:List Value)(t:TypeId)(K:Value->Heap->Prop)(h:Heap):Prop:=
 match C.fns[g]? with
 |some true=>match ahj C.T t C.tup with
  |some r=>ab C.P g args.toArray h (LO r K)
  |none=>False
 |_=>False
def LQ(C:Ctx)(o:Oper)(ev:Operand->Option Value)(K:Value->Heap->Prop)(h:Heap):Prop:=
 match o.op with
 | .store t a x=>match ev a,ev x with
  |some p,some v=>af C.P (Instr.storeAt t p v) h λ_ h'=>K undef h'
  |_,_=>False
 | .alloc t=>af C.P (Instr.alloc t true (.tuple #[])) h (LP K)
 | .box t x=>match ev x with
  |some v=>af C.P (Instr.box t v) h (LP K)
  |none=>False
 | .makeSlice t l c=>match ev l,ev c with
  |some l,some c=>af C.P (Instr.makeSlice t l c) h (Typed (.sc .slc) K)
  |_,_=>False
 | .buildSlice t n parts=>match Gw ev parts.toList with
  |some ps=>af C.P (Instr.buildSlice t n ps.toArray) h (Typed (.sc .slc) K)
  |none=>False
 | .makeMap t none=>af C.P (Instr.makeMap t none) h (Typed (.sc .mp) K)
 | .lookup t x ix ok=>match ev x,ev ix,ahj C.T o.type C.tup with
  |some m,some k,some r=>af C.P (Instr.lookup t m k ok) h (LO r K)
  |_,_,_=>False
 | .mapUpdate t m k x=>match ev m,ev k,ev x with
  |some m,some k,some v=>af C.P (Instr.mapUpdate t m k v) h λ_ h'=>K undef h'
  |_,_,_=>False
 | .insert t m k x=>match ev m,ev k,ev x with
  |some m,some k,some v=>af C.P (Instr.mapUpdate t m k v) h λ_ h'=>K undef h'
  |_,_,_=>False
 | .convert s d x=>match ev x,C.T.get o.type with
  |some v,some i=>af C.P (convert s d v) h (Typed i.ty K)
  |_,_=>False
 | .binOp op t x y _=>match ev x,ev y,C.T.get o.type with
  |some a,some b,some i=>af C.P (do eqGuard op t x y a b;binOp op t a b) h (Typed i.ty K)
  |some a,some b,none=>af C.P (do eqGuard op t x y a b;binOp op t a b) h (Typed (.sc .bool) K)
  |_,_,_=>False
 | .slice t x lo hi mx=>match optVal ev lo,optVal ev hi,optVal ev mx,ev x with
  |some l,some r,some m,some v=>af C.P (yk t v l r m) h (Typed (.sc .slc) K)
  |_,_,_,_=>False
 | .call c=>match c.callee with
  | .builtin .append=>match rR ev c.args.toList with
   |some vs=>af C.P (Builtin.append_ c.argTypes o.type vs.toArray) h (Typed (.sc .slc) K)
   |none=>False
  | .builtin .copy=>match rR ev c.args.toList with
   |some vs=>af C.P (Builtin.copy_ c.argTypes o.type vs.toArray) h (Typed (.sc (.int .i64)) K)
   |none=>False
  | .builtin .clear=>match rR ev c.args.toList with
   |some vs=>af C.P (Builtin.clear_ c.argTypes o.type vs.toArray) h K
   |none=>False
  | .builtin .len=>match rR ev c.args.toList with
   |some vs=>af C.P (Builtin.len_ c.argTypes o.type vs.toArray) h (Typed (.sc (.int .i64)) K)
   |none=>False
  | .builtin .unsafeString=>match rR ev c.args.toList with
   |some vs=>af C.P (Builtin.unsafeString_ c.argTypes o.type vs.toArray) h (Typed (.sc .str) K)
   |none=>False
  | .builtin .delete=>match rR ev c.args.toList with
   |some vs=>af C.P (Builtin.delete_ c.argTypes o.type vs.toArray) h K
   |none=>False
  | .value f=>match ev f,rR ev c.args.toList with
   |some (.func (.func g) ⟨first⟩ ⟨caps⟩),some vs=>XO C g (first++vs++caps) o.type K h
   |_,_=>False
  |_=>False
 |_=>False
where
 optVal (ev:Operand->Option Value):Option Operand->Option (Option Value)
  |none=>some none
  |some x=>match ev x with
   |some v=>some (some v)
   |none=>none
section
variable {P:Program} {h:Heap} {K:Value->Heap->Prop}
theorem gf{s:Sem Value}(a:af P s h K):CS P (do pure (.value (<-s))) h K:=
 af.bind (a.mono λ_ _ b=>af.pure' b)
theorem KG{s:Sem Unit}(b:af P s h λ_ h'=>K undef h'):CS P (do s;pure .skip) h K:=
 af.bind (b.mono λ_ _ a=>af.pure' a)
theorem Typed.out{t:Ty}{v:Value}{h:Heap}(x:Typed t K v h):K v h:=by obtain⟨y,rfl,a⟩:=x;exact a
theorem LO.out{t:Rt}{v:Value}{h:Heap}(x:LO t K v h):K v h:=by obtain⟨y,rfl,a⟩:=x;exact a
theorem LP.out{v:Value}{h:Heap}(x:LP K v h):K v h:=by obtain⟨y,rfl,a⟩:=x;exact a
end
theorem Vk{C:Ctx}(e:C.Ok){g:FuncId}{args:List Value}{t:TypeId}{K:Value->Heap->Prop}{h:Heap}(b:XO C g args t K h):
  CS C.P (callFunc g args.toArray) h K:=by
 unfold XO at b;split at b
 ·rename_i f;split at b
  ·rename_i r i;have a:=congrArg (·[g]?) e.fns;simp only[qS,f]at a;cases hf:C.P.funcs.toList[g]? with
   |none=>rw[hf]at a;cases a
   |some fn=>
    rw[hf]at a;simp only[qT,zT.injEq,qz,Bool.not_eq_true']at a;have c:C.P.funcs[g]?=some fn:=by simpa using hf
    have d:fn.body.isNone=false:=by cases hbb:fn.body<;>simp[hbb]at a⊢
    unfold callFunc;refine af.bind (af.acU ?_);simp only[c,a.1,d];exact af.pure' (b.mono λv h' x=>x.out)
  ·exact b.elim
 ·exact b.elim
theorem XP{C:Ctx}(Y:C.Ok){ev:Operand->Option Value}{e:Operand->Value}(A:∀x v,ev x=some v->e x=v){o:Oper}
  {K:Value->Heap->Prop} {h:Heap} (j:LQ C o ev K h):CS C.P (execOp e o) h K:=by
 have G:∀{x:Option Operand} {r:Option Value},LQ.optVal ev x=some r->x.map e=r:=by
  intro x r J;cases x with
  |none=>cases J;rfl
  |some y=>
   simp only[LQ.optVal]at J;split at J
   ·rename_i v B;cases J;rw[qT,A _ _ B]
   ·cases J
 unfold LQ at j;split at j
 ·rename_i t a x q;simp only[execOp,q];split at j
  ·rename_i p v S B;rw[A _ _ S,A _ _ B];exact KG j
  ·exact j.elim
 ·rename_i t q;simp only[execOp,q];exact gf (j.mono λ_ _ x=>x.out)
 ·rename_i t x q;simp only[execOp,q];split at j
  ·rename_i v B;rw[A _ _ B];exact gf (j.mono λ_ _ x=>x.out)
  ·exact j.elim
 ·rename_i t l c q;simp only[execOp,q];split at j
  ·rename_i v u B Z;rw[A _ _ B,A _ _ Z];exact gf (j.mono λ_ _ x=>x.out)
  ·exact j.elim
 ·rename_i t n parts q;simp only[execOp,q];split at j
  ·rename_i W M;have:(parts.map λ(i,x)=>(i,e x))=W.toArray:=by apply yu;have:=JO A M;simpa using this
   rw[this];exact gf (j.mono λ_ _ x=>x.out)
  ·exact j.elim
 ·rename_i t q;simp only[execOp,q];exact gf (j.mono λ_ _ x=>x.out)
 ·rename_i t x ix ok q;simp only[execOp,q];split at j
  ·rename_i m k r H E R;rw[A _ _ H,A _ _ E];exact gf (j.mono λ_ _ x=>x.out)
  ·exact j.elim
 ·rename_i t m k x q;simp only[execOp,q];split at j
  ·rename_i X V v H E B;rw[A _ _ H,A _ _ E,A _ _ B];exact KG j
  ·exact j.elim
 ·rename_i t m k x q;simp only[execOp,q];split at j
  ·rename_i X V v H E B;rw[A _ _ H,A _ _ E,A _ _ B];exact KG j
  ·exact j.elim
 ·rename_i s d x q;simp only[execOp,q];split at j
  ·rename_i v i B Q;rw[A _ _ B];exact gf (j.mono λ_ _ x=>x.out)
  ·exact j.elim
 ·rename_i op t x y u q;simp only[execOp,q];split at j
  ·rename_i a b i N O Q;rw[A _ _ N,A _ _ O];exact gf (j.mono λ_ _ x=>x.out)
  ·rename_i a b N O Q;rw[A _ _ N,A _ _ O];exact gf (j.mono λ_ _ x=>x.out)
  ·exact j.elim
 ·rename_i t x lo Q mx q;simp only[execOp,q];split at j
  ·rename_i l r m v U R H B;rw[G U,G R,G H,A _ _ B];exact gf (j.mono λ_ _ x=>x.out)
  ·exact j.elim
 ·rename_i c q;simp only[execOp,q];have w:∀{vs:List Value},rR ev c.args.toList=some vs->c.args.map e=vs.toArray:=λB=>by
   apply yu;simpa using DX A B
  split at j
  ·rename_i D;split at j
   ·rename_i vs z;unfold resolve;rw[D,w z];exact gf (j.mono λ_ _ x=>x.out)
   ·exact j.elim
  ·rename_i D;split at j
   ·rename_i vs z;unfold resolve;rw[D,w z];exact gf (j.mono λ_ _ x=>x.out)
   ·exact j.elim
  ·rename_i D;split at j
   ·rename_i vs z;unfold resolve;rw[D,w z];exact gf j
   ·exact j.elim
  ·rename_i D;split at j
   ·rename_i vs z;unfold resolve;rw[D,w z];exact gf (j.mono λ_ _ x=>x.out)
   ·exact j.elim
  ·rename_i D;split at j
   ·rename_i vs z;unfold resolve;rw[D,w z];exact gf (j.mono λ_ _ x=>x.out)
   ·exact j.elim
  ·rename_i D;split at j
   ·rename_i vs z;unfold resolve;rw[D,w z];exact gf j
   ·exact j.elim
  ·rename_i f D;split at j
   ·rename_i g first F vs T z
    unfold resolve;rw[D,w z];simp only[A _ _ T];have:=Vk Y j;have I:(⟨first⟩:Array Value)++vs.toArray++(⟨F⟩:Array Value)=(first++vs++F).toArray:=by simp
    have L:CS C.P (callFunc g ((⟨first⟩:Array Value)++vs.toArray++(⟨F⟩:Array Value))) h K:=by rw[I];exact this
    simp only[Deferred.ofValue];exact L
   ·exact j.elim
  ·exact j.elim
 ·exact j.elim
def put(n:Nat)(a:Option Tmp)(K:Env->Heap->Prop)(ρ:Env)(v:Value)(h:Heap):Prop:=
 match a with
 |some d=>bif vM d n then K (.val d v::ρ) h else False
 |none=>K ρ h
theorem xW{n:Nat}{b:Option Tmp}{K:Env->Heap->Prop}{ρ:Env}{v:Value}{h:Heap}(c:put n b K ρ v h){a:Act}(e:Fits n a ρ):
  ∃ρ',Fits n (a.put b v) ρ'/\Ext ρ ρ' a (a.put b v)/\K ρ' h:=by
 unfold put at c;cases b with
 |none=>exact⟨ρ,e,Ext.refl _ _,c⟩
 |some d=>
  simp only at c;cases hb:vM d n with
  |false=>rw[hb]at c;exact c.elim
  |true=>rw[hb]at c;exact⟨_,e.put hb v,Ext.put v v,c⟩
def adb(C:Ctx)(n:Nat)(o:Oper)(K:Env->Heap->Prop)(ρ:Env)(h:Heap):Prop:=
 match CV C.P C.T o.op ρ.eval with
 | .no=>match xV C.T o.op ρ.eval with
  |some r=>∃y:r.ty.den,r.holds h y/\put n o.dst K ρ (r.ty.enc y) h
  |none=>LQ C o ρ.eval (put n o.dst K ρ) h
 |p=>p.holds λv=>put n o.dst K ρ v h
def LR(ops:Array Oper)(o:Oper)(ρ:Env)(a skip:Env->Prop):Prop:=
 match o.guard with
 |none=>a ρ
 |some (j,want)=>match(ops[j]?).bind (·.dst)with
  |some d=>match ρ.get d with
   |some (.bool b)=>Br b (bif want then a (.val d (.bool true)::ρ)else skip (.val d (.bool true)::ρ)) (bif want then skip (.val d (.bool false)::ρ)else a (.val d (.bool false)::ρ))
   |some (.tuple _)=>skip ρ
   |_=>False
  |none=>False
theorem Fits.known{n:Nat}{a:Act}{ρ:Env}(c:Fits n a ρ){d:Nat}{v:Value}(e:ρ.get d=some v):Fits n a (.val d v::ρ)/\Ext ρ (.val d v::ρ) a a:=by
 refine⟨⟨c.size,c.defers,λt x b=>?_⟩,⟨[.val d v],rfl,λ_ _=>rfl⟩⟩;simp only[Env.get]at b;cases hb:wE d t with
 |false=>rw[hb]at b;exact c.get t x b
 |true=>
  rw[hb]at b;have:=zL hb;subst this;rw[cond_true]at b;exact c.get _ x (e.trans b)
theorem JR{ops:Array Oper}{o:Oper}{ρ:Env}{g skip:Env->Prop}{n:Nat}{a:Act}(f:Fits n a ρ)(c:LR ops o ρ g skip):
  ∃ρ',Fits n a ρ'/\Ext ρ ρ' a a/\((Region.wanted o (yielded ops a.tmps)=true/\g ρ')∨(Region.wanted o (yielded ops a.tmps)=false/\skip ρ')):=by
 unfold LR at c;unfold Region.wanted;split at c
 ·rename_i l;rw[l];exact⟨ρ,f,Ext.refl _ _,.inl ⟨rfl,c⟩⟩
 ·rename_i j e l;rw[l];split at c
  ·rename_i d p;split at c
   ·rename_i b i;have m:yielded ops a.tmps j=some b:=by unfold yielded;rw[p];simp[f.get _ _ i]
    simp only[m];obtain⟨h,k⟩:=f.known i;cases b<;>cases e<;>simp only[Br,cond_true,cond_false]at c
    ·exact⟨_,h,k,.inl ⟨rfl,c⟩⟩
    ·exact⟨_,h,k,.inr ⟨rfl,c⟩⟩
    ·exact⟨_,h,k,.inr ⟨rfl,c⟩⟩
    ·exact⟨_,h,k,.inl ⟨rfl,c⟩⟩
   ·rename_i vs i;have m:yielded ops a.tmps j=none:=by unfold yielded;rw[p];simp[f.get _ _ i]
    simp only[m];exact⟨ρ,f,Ext.refl _ _,.inr ⟨by simp,c⟩⟩
   ·exact c.elim
  ·exact c.elim
theorem ZQ{C:Ctx}(g:C.Ok){n:Nat}{o:Oper}{K:Env->Heap->Prop}{ρ:Env}{a:Act}{w:World}(j:Fits n a ρ)(d:adb C n o K ρ w.heap)
  {Q:Exit->Act->World->Prop} {next:Act->World->Prop}
  (m:∀a' w' ρ',Fits n a' ρ'->Ext ρ ρ' a a'->dm w w'->K ρ' w'.heap->next a' w'):o.wp C.P a w next Q:=by
 have i:∀x v,ρ.eval x=some v->a.eval x=v:=λx v h=>j.eval h;have b:∀v w',dm w w'->put n o.dst K ρ v w'.heap->next (a.put o.dst v) w':=λv w' l k=>by
  obtain⟨ρ',p,s,h3⟩:=xW k j;exact m _ _ _ p s l h3
 have c:(CV C.P C.T o.op ρ.eval).holds (λv=>put n o.dst K ρ v w.heap)->o.wp C.P a w next Q:=λh=>by
  obtain⟨v,t,f⟩:=LN g.toOk i h;unfold Oper.wp;rw[t w];exact b v w (dm.refl w) f
 unfold adb at d;split at d
 ·split at d
  ·rename_i r e;obtain⟨y,q,f⟩:=d;unfold Oper.wp;rw[DY g.toOk i e q];exact b _ w (dm.refl w) f
  ·exact aiF (XP g i d) b
 ·exact c d
def IV(C:Ctx)(n:Nat)(ops:Array Oper)(o:Oper)(K:Env->Heap->Prop)(ρ:Env)(h:Heap):Prop:=
 LR ops o ρ (λρ=>adb C n o K ρ h) (λρ=>put n o.dst K ρ undef h)
theorem LS{C:Ctx}(p:C.Ok){n:Nat}{ops:Array Oper}{o:Oper}{i:Nat}(q:ops[i]?=some o){K:Env->Heap->Prop}{ρ:Env}{a:Act}{w:World}
  (g:Fits n a ρ) (h:IV C n ops o K ρ w.heap) {Q:Exit->Act->World->Prop} {next:Act->World->Prop}
  (c:∀a' w' ρ',Fits n a' ρ'->Ext ρ ρ' a a'->dm w w'->K ρ' w'.heap->next a' w'):wpOp C.P ops Q i next a w:=by
 obtain⟨ρ',d,e,h3⟩:=JR g h;unfold wpOp;simp only[q];rcases h3 with⟨hw,hr⟩|⟨hw,hr⟩
 ·simp only[hw,if_true];exact .inl (ZQ p d hr λa' w' b f x2 x3 m=>c _ _ _ f (e.trans x2) x3 m)
 ·simp only[hw,zj,if_false];obtain⟨b,l,j,k⟩:=xW hr d;exact c _ _ _ l (e.trans j) (dm.refl w) k
def adc(C:Ctx)(n:Nat)(ops:Array Oper)(K:Env->Heap->Prop):List Oper->Env->Heap->Prop
 |[],ρ,h=>K ρ h
 |o::r,ρ,h=>IV C n ops o (adc C n ops K r) ρ h
def Out(n:Nat)(Q:Exit->Env->Heap->Prop)(ρ:Env)(a:Act)(w:World):Exit->Act->World->Prop:=λe a' w'=>
 ∃ρ',Fits n a' ρ'/\Ext ρ ρ' a a'/\dm w w'/\Q e ρ' w'.heap
theorem PC{C:Ctx}(c:C.Ok){n:Nat}{ops:Array Oper}{K:Env->Heap->Prop}{Q:Exit->Act->World->Prop}{ρ0:Env}{a0:Act}{w0:World}
  (b:∀a w ρ,Fits n a ρ->Ext ρ0 ρ a0 a->dm w0 w->K ρ w.heap->Q .normal a w):
  ∀(r:List Oper) (i:Nat),(∀j,r[j]?=ops[i+j]?)->∀(ρ:Env) (a:Act) (w:World),Fits n a ρ->Ext ρ0 ρ a0 a->dm w0 w->adc C n ops K r ρ w.heap->
   wpOps C.P ops Q (List.range' i r.length) a w
 |[],i,_,ρ,a,w,hf,hx,hl,hs=>b a w ρ hf hx hl hs
 |o::r,i,hr,ρ,a,w,hf,hx,hl,hs=>by
  have f:ops[i]?=some o:=by simpa using(hr 0).symm
  rw[zi,List.range'_succ,wpOps_cons];refine LS c f hf hs λa' w' ρ' d e h3 g=>?_;exact PC c b r (i+1) (λj=>by have:=hr (j+1);simpa[Nat.add_assoc,Nat.add_comm 1 j]using this) ρ' a' w' d (hx.trans e) (hl.trans h3) g
abbrev av:=List (Addr×Value)
def av.ok:av->Heap->Prop
 |[],_=>True
 |p::r,h=>cellOf h p.1=some p.2/\av.ok r h
def na(a:Addr):Nat->List Value->av->av
 |_,[],L=>L
 |n,v::r,L=>(a.add n,v)::na a (n+1) r L
theorem oe{a:Addr}{h:Heap}:∀{vs:List Value} {n:Nat} {L:av},(na a n vs L).ok h↔an h a n vs/\L.ok h
 |[],_,L=>by simp[na,an]
 |v::r,n,L=>by simp only[na,av.ok,an,oe (vs:=r),and_assoc]
def Bv.held(r:Bv)(y:r.ty.den)(L:av):av:=
 match r.ty,y with
 | .sc s,y=>(r.a,s.enc y)::L
 | .agg l,y=>na r.a 0 (Ci l y) L
 | .arr s,y=>na r.a 0 (y.map s.enc) L
theorem Bv.afU{r:Bv}{y:r.ty.den}{L:av}{b:Heap}(c:r.holds b y){m:Heap}:(r.held y L).ok m↔r.holds m y/\L.ok m:=by
 obtain⟨a,ty,n⟩:=r;cases ty with
 |sc s=>exact Iff.rfl
 |agg l=>exact oe
 |arr s=>exact oe.trans ⟨λx=>⟨⟨c.1,x.1⟩,x.2⟩,λx=>⟨x.1.2,x.2⟩⟩
structure go where
 op:Nat
 r:Bv
 y:r.ty.den
def flat:List go->av
 |[]=>[]
 |p::r=>p.r.held p.y (flat r)
def go.ok(p:go)(w:World):Prop:=p.r.holds w.heap p.y
def waits(ops:Array Oper)(j i:Nat):Bool:=match ops[j]? with
 |some o=>o.after.any λe=>Region.binds .any e&&wE e.on i
 |none=>false
def keep(ops:Array Oper)(j:Nat):List go->List go
 |[]=>[]
 |p::r=>bif waits ops j p.op then keep ops j r else p::keep ops j r
theorem sn{ops:Array Oper}{j:Nat}:∀{L:List go},∀p∈keep ops j L,p∈L
 |[],p,h=>by cases h
 |q::r,p,h=>by
  unfold keep at h;cases hw:waits ops j q.op with
  |true=>rw[hw]at h;exact qC _ (sn p h)
  |false=>
   rw[hw]at h;rcases qX.1 h with rfl|h
   ·exact qH
   ·exact qC _ (sn p h)
theorem DZ{ops:Array Oper}{j:Nat}:∀{L:List go} {p:go},p∈L->waits ops j p.op=false->p∈keep ops j L
 |q::r,p,h,hw=>by
  unfold keep;rcases qX.1 h with rfl|h
  ·rw[hw];exact qH
  ·cases hq:waits ops j q.op with
   |true=>exact DZ h hw
   |false=>exact qC _ (DZ h hw)
theorem KH{ops:Array Oper}{j:Nat}{p:go}:∀{M:List go},p∈keep ops j M->waits ops j p.op=false
 |[],h=>by cases h
 |q::r,h=>by
  unfold keep at h;cases hq:waits ops j q.op with
  |true=>rw[hq]at h;exact KH h
  |false=>
   rw[hq]at h;rcases qX.1 h with rfl|h
   ·exact hq
   ·exact KH h
theorem Gx{ops:Array Oper}{j:Nat}{L b:List go}(c:∀p∈b,p∈L):∀p∈keep ops j b,p∈keep ops j L:=
 λp a=>DZ (c p (sn p a)) (KH a)
def mE(P:Program)(ops:Array Oper)(Q:Exit->Act->World->Prop):Nat->List go->Array Bool->Act->World->Prop
 |0,_,listed,a,w=>Region.ready .any ops listed=[]/\Q .normal a w
 |fuel+1,L,listed,a,w=>
  (Region.ready .any ops listed=[]->Q .normal a w)/\
  ∀i∈Region.ready .any ops listed,wpOp P ops Q i (λa' w'=>(∀p∈keep ops i L,p.ok w')/\mE P ops Q fuel (keep ops i L) (listed.setIfInBounds i true) a' w') a w
theorem LU{P:Program}{ops:Array Oper}{Q:Exit->Act->World->Prop}:∀(b:Nat) (L:List go) (c:Array Bool) (a:Act) (w:World),mE P ops Q b L c a w->wpAny P .any ops Q b c a w
 |0,_,_,_,_,h=>h
 |b+1,_,_,_,_,h=>⟨h.1,λi d=>wpOp_mono (λa' w' h'=>LU b _ _ a' w' h'.2) (h.2 i d)⟩
theorem Ea{P:Program}{ops:Array Oper}{Q:Exit->Act->World->Prop}:∀(b:Nat) {L d:List go} (c:Array Bool) (a:Act) (w:World),(∀p∈d,p∈L)->mE P ops Q b L c a w->mE P ops Q b d c a w
 |0,_,_,_,_,_,_,h=>h
 |b+1,_,_,_,_,_,hs,h=>⟨h.1,λi f=>wpOp_mono (λa' w' h'=>⟨λp e=>h'.1 p (Gx hs p e),Ea b _ a' w' (Gx hs) h'.2⟩) (h.2 i f)⟩
theorem Si{P:Program}{ops:Array Oper}{Q:Exit->Act->World->Prop}{i:Nat}{s:Oper}{v:Value}{T:World->Prop}{N:List go}(Y:ops[i]?=some s)(x:∀(j:Nat) (o:Oper) cs b,ops[j]?=some o->o.op≠.select cs b)
  (hQ:∀c a w,Q (.panic c) (a.put s.dst v) w->Q (.panic c) a w) (hN:∀p∈N,p.op=i) (hT:∀w,(∀p∈N,p.ok w)->T w):
  ∀(f:Nat) (L:List go) (d:Array Bool) (a:Act) (w:World),
   (∀j t,ops[j]?=some t->j≠i->d.getD j true=false->(∀e∈t.after,Region.binds .any e=true->e.on≠i)->s.apart ops t=true)->
   i∈Region.ready .any ops d->YieldsIf P ops T s v a->(∀p∈N,p.ok w)->(∀p∈L,p.ok w)->
   mE P ops Q f (N++L) (d.setIfInBounds i true) (a.put s.dst v) w->mE P ops Q (f+1) L d a w:=by
 intro f;have z:∀(f:Nat) (L:List go) (d:Array Bool) (a:Act) (w:World),YieldsIf P ops T s v a->(∀p∈N,p.ok w)->(∀p∈L,p.ok w)->
   mE P ops Q f (N++L) (d.setIfInBounds i true) (a.put s.dst v) w->
   wpOp P ops Q i (λa' w'=>(∀p∈keep ops i L,p.ok w')/\mE P ops Q f (keep ops i L) (d.setIfInBounds i true) a' w') a w:=λf L d a w G n J H=>
  G.wpOp Y (hT w n) ⟨λp g=>J p (sn p g),Ea f _ _ _ (λp g=>zM _ (sn p g)) H⟩
 induction f with
 |zero=>
  intro L d a w _ D G n J H;refine⟨λh=>(by rw[h]at D;cases D),λj S=>?_⟩;by_cases l:j=i
  ·subst l;exact z 0 L d a w G n J H
  ·have:=ready_mono S l;rw[H.1]at this;cases this
 |succ f ih=>
  intro L d a w q D G n J H;refine⟨λh=>(by rw[h]at D;cases D),λj S=>?_⟩;by_cases l:j=i
  ·subst l;exact z (f+1) L d a w G n J H
  ·have E:=H.2 j (ready_mono S l);obtain⟨y,t,u,I⟩:=mem_ready.1 S;have B:∀e∈t.after,Region.binds .any e=true->e.on≠i:=λe he M W=>by
    have E:=I e he M;have Z:=(mem_ready.1 D).1;rw[W]at E;rcases Nat.lt_or_ge i d.size with h'|h'
    ·simp[h']at Z E;rw[Z]at E;cases E
    ·simp[Array.getElem?_eq_none h']at E
   have R:(t.after.any λe=>Region.binds .any e&&wE e.on i)=false:=by
    cases hc:t.after.any λe=>Region.binds .any e&&wE e.on i with
    |false=>rfl
    |true=>
     obtain⟨k,V,M⟩:=Array.any_eq_true.1 hc;simp only[qz]at M;exact absurd (zL M.2) (B _ (Array.getElem_mem V) M.1)
   have F:waits ops j i=false:=by unfold waits;rw[u];exact R
   have A:∀p,p∈N->p∈keep ops j (N++L):=λp g=>DZ (List.mem_append_left _ g) (by rw[hN p g];exact F);have m:∀p,p∈keep ops j L->p∈keep ops j (N++L):=Gx λp g=>zM _ g;have h2:=wpOp_putIf u (q j t u l y B) (λcs b=>x i s cs b Y) (λcs b=>x j t cs b u) hQ G E;have r:∀k ok,ops[k]?=some ok->k≠i->(d.setIfInBounds j true).getD k true=false->
     (∀e∈ok.after,Region.binds .any e=true->e.on≠i)->s.apart ops ok=true:=λk ok V U O X=>by
    refine q k ok V U ?_ X;by_cases K:j=k
    ·subst K;exact y
    ·rw[getD_set_ne true K]at O;exact O
   refine wpOp_mono (λa' w' h3=>⟨λp g=>h3.2.1 p (m p g),ih (keep ops j L) (d.setIfInBounds j true) a' w' r (ready_mono D (Ne.symm l)) h3.1 (λp g=>h3.2.1 p (A p g)) (λp g=>h3.2.1 p (m p g)) ?_⟩) h2;rw[Array.setIfInBounds_comm _ _ l];refine Ea _ _ _ _ (λp g=>?_) h3.2.2;rcases List.mem_append.1 g with g|g
   ·exact A p g
   ·exact m p g
theorem Ck{P:Program}{ops:Array Oper}{Q:Exit->Act->World->Prop}{i:Nat}{e:Oper}{v:Value}{T:World->Prop}{N:List go}{d:Nat}{L:List go}{b:Array Bool}{a:Act}{w:World}(g:ops[i]?=some e)
  (l:Region.noSelect ops=true) (j:Region.free .any ops b i=true) (k:(Region.ready .any ops b).contains i=true)
  (q:∀c a w,Q (.panic c) (a.put e.dst v) w->Q (.panic c) a w) (r:∀p∈N,p.op=i) (n:∀w,(∀p∈N,p.ok w)->T w) (o:YieldsIf P ops T e v a) (f:∀p∈N,p.ok w) (m:∀p∈L,p.ok w)
  (h:mE P ops Q d (N++L) (b.setIfInBounds i true) (a.put e.dst v) w):mE P ops Q (d+1) L b a w:=
 Si g (Region.noSelect_spec l) q r n d L b a w (Region.free_spec g j) (by simpa using k) o f m h
theorem On:∀{L:List go} {w0:World},(∀p∈L,p.ok w0)->∀{m:Heap},(flat L).ok m->∀p∈L,p.r.holds m p.y
 |[],_,_,_,_,p,a=>by cases a
 |q::r,w0,h0,m,h,p,a=>by
  have h:=(Bv.afU (h0 q qH)).1 h;rcases qX.1 a with rfl|a
  ·exact h.1
  ·exact On (λp a=>h0 p (qC _ a)) h.2 p a
def afc(T:kA)(t:TypeId):Bool:=match T.get t with
 |some i=>match i.ty with
  | .sc .slc=>true
  |_=>false
 |none=>false
def afd(T:kA):Op->Bool
 | .convert s d _=>!(afc T s||afc T d)
 | .move _| .assign _| .pick .. | .nilCheck _| .fieldAddr .. | .indexAddr .. | .index .. | .field .. | .extract .. | .binOp .. | .unOp .. | .build .. | .makeFunc .. | .load .. =>true
 | .slice _ _ _ _ none=>true
 | .call c=>match c.callee with
  | .builtin .len| .builtin .cap| .builtin .min| .builtin .max| .builtin .real| .builtin .imag=>true
  |_=>false
 |_=>false
def oM(T:kA)(ops:Array Oper)(a:Array Bool):List Nat->Option Nat
 |[]=>none
 |i::r=>match ops[i]? with
  |some o=>bif afd T o.op&&Region.free .any ops a i then some i else oM T ops a r
  |none=>oM T ops a r
def XQ(C:Ctx)(n:Nat)(ops:Array Oper)(i:Nat)(o:Oper)(L:List go)(K:List go->Env->Heap->Prop)(ρ:Env)(h:Heap):Prop:=
 LR ops o ρ (λρ=>match CV C.P C.T o.op ρ.eval with
  | .no=>match xV C.T o.op ρ.eval with
   |some r=>∃y:r.ty.den,r.holds h y/\put n o.dst (K (⟨i,r,y⟩::L)) ρ (r.ty.enc y) h
   |none=>False
  |p=>p.holds λv=>put n o.dst (K L) ρ v h) (λρ=>put n o.dst (K L) ρ undef h)
def Sj(C:Ctx)(n:Nat)(ops:Array Oper)(K:Nat->Env->Heap->Prop)(ρ:Env)(h:Heap):List Nat->Prop
 |[]=>True
 |[i]=>match ops[i]? with
  |some o=>IV C n ops o (K i) ρ h
  |none=>False
 |i::j::r=>(match ops[i]? with
  |some o=>IV C n ops o (K i) ρ h
  |none=>False)/\Sj C n ops K ρ h (j::r)
def xX(C:Ctx)(n:Nat)(ops:Array Oper)(K:Env->Heap->Prop):Nat->Array Bool->List go->Env->Heap->Prop
 |0,listed,_,ρ,h=>bif (Region.ready .any ops listed).isEmpty then K ρ h else False
 |k+1,listed,L,ρ,h=>match oM C.T ops listed (Region.ready .any ops listed)with
  |some i=>match ops[i]? with
   |some o=>XQ C n ops i o L (xX C n ops K k (listed.setIfInBounds i true)) ρ h
   |none=>False
  |none=>match Region.ready .any ops listed with
   |[]=>K ρ h
   |i::r=>Sj C n ops (λi ρ h=>(flat (keep ops i L)).ok h/\xX C n ops K k (listed.setIfInBounds i true) (keep ops i L) ρ h) ρ h (i::r)
theorem uw{T:kA}{ops:Array Oper}{a:Array Bool}:∀{rs:List Nat} {i:Nat},oM T ops a rs=some i->i∈rs/\Region.free .any ops a i=true
 |[],_,h=>by cases h
 |j::r,i,h=>by
  simp only[oM]at h;split at h
  ·rename_i o b;cases hb:(afd T o.op&&Region.free .any ops a j)with
   |true=>
    rw[hb]at h;cases h;simp only[qz]at hb;exact⟨qH,hb.2⟩
   |false=>
    rw[hb]at h;have:=uw h;exact⟨qC _ this.1,this.2⟩
  ·have:=uw h;exact⟨qC _ this.1,this.2⟩
theorem PD{C:Ctx}{n:Nat}{ops:Array Oper}{K:Nat->Env->Heap->Prop}{ρ:Env}{h:Heap}:∀{l:List Nat},Sj C n ops K ρ h l->∀i∈l,∃o,ops[i]?=some o/\IV C n ops o (K i) ρ h
 |[],_,i,hi=>by cases hi
 |[j],ha,i,hi=>by
  simp only[qx]at hi;subst hi;simp only[Sj]at ha;split at ha
  ·rename_i o b;exact⟨o,b,ha⟩
  ·exact ha.elim
 |j::k::r,ha,i,hi=>by
  obtain⟨a,c⟩:=ha;rcases qX.1 hi with rfl|hi
  ·split at a
   ·rename_i o b;exact⟨o,b,a⟩
   ·exact a.elim
  ·exact PD c i hi
section
variable {C:Ctx} {n:Nat} {ops:Array Oper} {K:Env->Heap->Prop} {Q:Exit->Act->World->Prop} {ρ0:Env} {a0:Act} {w0:World}
theorem PE(J:C.Ok)(H:Region.noSelect ops=true)
  (U:∀a w ρ,Fits n a ρ->Ext ρ0 ρ a0 a->dm w0 w->K ρ w.heap->Q .normal a w) (u:∀c a w,¬Q (.panic c) a w):
  ∀(k:Nat) (b:Array Bool) (L:List go) (ρ:Env) (a:Act) (w:World),Fits n a ρ->Ext ρ0 ρ a0 a->dm w0 w->(∀p∈L,p.ok w)->
   xX C n ops K k b L ρ w.heap->mE C.P ops Q k L b a w
 |0,b,L,ρ,a,w,hf,hx,hl,hL,h=>by
  simp only[xX]at h;cases hb:(Region.ready .any ops b).isEmpty with
  |false=>rw[hb]at h;exact h.elim
  |true=>rw[hb]at h;exact⟨by simpa using hb,U _ _ _ hf hx hl h⟩
 |k+1,b,L,ρ,a,w,hf,hx,hl,hL,h=>by
  have G:=PE J H U u k;simp only[xX]at h;split at h
  ·rename_i i M;obtain⟨A,f⟩:=uw M;have e:(Region.ready .any ops b).contains i=true:=by simpa using A
   split at h
   ·rename_i o F;unfold XQ at h;obtain⟨ρ',I,V,h3⟩:=JR hf h;have q:∀c a w (v:Value),Q (.panic c) (Act.put a o.dst v) w->Q (.panic c) a w:=λc a w v hq=>absurd hq (u c _ w);have Z:∀x v,Env.eval ρ' x=some v->a.eval x=v:=λx v h=>I.eval h;rcases h3 with⟨t,g⟩|⟨t,g⟩
    ·have s:(CV C.P C.T o.op (Env.eval ρ')).holds (λv=>put n o.dst (xX C n ops K k (b.setIfInBounds i true) L) ρ' v w.heap)->
       mE C.P ops Q (k+1) L b a w:=λd=>by
      obtain⟨v,hv,S⟩:=LN J.toOk Z d;obtain⟨l,E,z,D⟩:=xW S I;exact Ck (N:=[]) (T:=λ_=>True) F H f e (λc a w=>q c a w v) (λp d=>by cases d) (λ_ _=>trivial) (.inl ⟨t,λw _=>hv w⟩) (λp d=>by cases d) hL
       (G _ L l _ w E (hx.trans (V.trans z)) hl hL D)
     split at g
     ·split at g
      ·rename_i r B;obtain⟨y,Y,S⟩:=g;obtain⟨l,E,z,D⟩:=xW S I;have R:∀p∈[(⟨i,r,y⟩:go)],p.ok w:=λp d=>by rw[qx]at d;subst d;exact Y
       refine Ck (N:=[⟨i,r,y⟩]) (T:=λw=>r.holds w.heap y) F H f e (λc a w=>q c a w _) (λp d=>by rw[qx]at d;subst d;rfl)
        (λw h=>h ⟨i,r,y⟩ (qx.2 rfl)) (.inl ⟨t,λw t=>DY J.toOk Z B t⟩) R hL ?_
       refine G _ (⟨i,r,y⟩::L) l _ w E (hx.trans (V.trans z)) hl (λp d=>?_) D;rcases qX.1 d with rfl|d
       ·exact Y
       ·exact hL p d
      ·exact g.elim
     ·exact s g
    ·obtain⟨l,E,z,D⟩:=xW g I;exact Ck (N:=[]) (T:=λ_=>True) F H f e (λc a w=>q c a w undef) (λp d=>by cases d) (λ_ _=>trivial) (.inr ⟨t,rfl⟩) (λp d=>by cases d) hL
      (G _ L l _ w E (hx.trans (V.trans z)) hl hL D)
   ·exact h.elim
  ·split at h
   ·rename_i g;exact⟨λ_=>U _ _ _ hf hx hl h,λi M=>by rw[g]at M;cases M⟩
   ·rename_i i r g;refine⟨λh0=>absurd (g▸h0) (by simp),λj X=>?_⟩;rw[g]at X;obtain⟨o,F,O⟩:=PD h j X;have m:∀p∈keep ops j L,p.ok w:=λp d=>hL p (sn p d);exact LS J F hf O λa' w' ρ' x1 x2 x3 W=>⟨On m W.1,G _ (keep ops j L) ρ' a' w' x1 (hx.trans x2) (hl.trans x3) (On m W.1) W.2⟩
end
def sched(T:kA)(ops:Array Oper):Nat->Array Bool->Option (List (Nat×Bool))
 |0,listed=>bif (Region.ready .any ops listed).isEmpty then some []else none
 |k+1,listed=>match oM T ops listed (Region.ready .any ops listed)with
  |some i=>(sched T ops k (listed.setIfInBounds i true)).map ((i,true)::·)
  |none=>match Region.ready .any ops listed with
   |[]=>some []
   |[i]=>(sched T ops k (listed.setIfInBounds i true)).map ((i,false)::·)
   |_::_::_=>none
def tG(C:Ctx)(n:Nat)(ops:Array Oper)(K:Env->Heap->Prop):List (Nat×Bool)->List go->Env->Heap->Prop
 |[],_,ρ,h=>K ρ h
 |(i,true)::r,L,ρ,h=>match ops[i]? with
  |some o=>XQ C n ops i o L (tG C n ops K r) ρ h
  |none=>False
 |(i,false)::r,L,ρ,h=>match ops[i]? with
  |some o=>IV C n ops o (λρ h=>(flat (keep ops i L)).ok h/\tG C n ops K r (keep ops i L) ρ h) ρ h
  |none=>False
theorem PF{C:Ctx}{n:Nat}{ops:Array Oper}{K:Env->Heap->Prop}:∀(k:Nat) (a:Array Bool) (l:List (Nat×Bool)),sched C.T ops k a=some l->
  xX C n ops K k a=tG C n ops K l
 |0,a,l,hs=>by
  simp only[sched]at hs;cases hb:(Region.ready .any ops a).isEmpty with
  |false=>rw[hb]at hs;cases hs
  |true=>
   rw[hb]at hs;cases hs;funext L ρ h;simp only[xX,hb,tG,cond_true]
 |k+1,a,l,hs=>by
  have c:=λi=>PF (C:=C) (n:=n) (ops:=ops) (K:=K) k (a.setIfInBounds i true);funext L ρ h;unfold sched at hs;unfold xX;cases hi:oM C.T ops a (Region.ready .any ops a)with
  |some i=>
   rw[hi]at hs;obtain⟨l',b,rfl⟩:=y6.1 hs;simp only[tG,c i l' b]
  |none=>
   rw[hi]at hs;generalize d:Region.ready .any ops a=rd at hs
   match rd,hs with
   |[],hs=>cases hs;simp only[tG]
   |[i],hs=>
    obtain⟨l',b,rfl⟩:=y6.1 hs;simp only[Sj,tG,c i l' b]
def Oo(C:Ctx)(n:Nat)(ops:Array Oper)(a:Bool)(K:Env->Heap->Prop)(ρ:Env)(h:Heap):Prop:=
 match a with
 |false=>adc C n ops K ops.toList ρ h
 |true=>bif Region.noSelect ops then(match sched C.T ops ops.size (vu ops.size false)with
  |some l=>tG C n ops K l [] ρ h
  |none=>xX C n ops K ops.size (vu ops.size false) [] ρ h)else False
theorem Sk{C:Ctx}(g:C.Ok){n:Nat}{id:Nat}{ops:Array Oper}{b:Bool}{Q:Exit->Env->Heap->Prop}{ρ:Env}{a:Act}{w:World}(i:Fits n a ρ)
  (h:Oo C n ops b (Q .normal) ρ w.heap):(Code.region id ops b).wp C.P (λe a' w'=>(∀c,e≠.panic c)/\Out n Q ρ a w e a' w') a w:=by
 cases b with
 |false=>
  refine wp_region ?_;have:=PC g (Q:=λe a' w'=>(∀c,e≠.panic c)/\Out n Q ρ a w e a' w') (K:=Q .normal) (ρ0:=ρ) (a0:=a) (w0:=w) (λa' w' ρ' d x2 x3 f=>⟨λc e=>(by cases e),ρ',d,x2,x3,f⟩)
   ops.toList 0 (λj=>by simp) ρ a w i (Ext.refl _ _) (dm.refl _) h
  rw[List.range_eq_range'];simpa using this
 |true=>
  simp only[Oo]at h;cases hb:Region.noSelect ops with
  |false=>rw[hb]at h;exact h.elim
  |true=>
   rw[hb]at h;have h:xX C n ops (Q .normal) ops.size (vu ops.size false) [] ρ w.heap:=by
    simp only[cond_true]at h;split at h
    ·rename_i l m;rw[PF _ _ _ m];exact h
    ·exact h
   refine wp_region_any g.mixed (LU _ [] _ _ _ ?_);exact PE g hb (Q:=λe a' w'=>(∀c,e≠.panic c)/\Out n Q ρ a w e a' w') (ρ0:=ρ) (a0:=a) (w0:=w) (λa' w' ρ' d x2 x3 f=>⟨λc e=>(by cases e),ρ',d,x2,x3,f⟩)
    (λc a w o=>o.1 c rfl) _ _ [] ρ a {w with drawn:=w.drawn+1} i (Ext.refl _ _) ⟨rfl,rfl,rfl,Nat.le_succ _⟩ (λp k=>by cases k) h
def bg{σ:Type}(rest:σ->Heap->Prop)(B:(σ->Heap->Prop)->Prop):Prop:=∃R:σ->Heap->Prop,(∀s h,R s h->rest s h)/\B R
def aJ{σ:Type}(B:σ->(σ->Heap->Prop)->Heap->Prop)(s:σ)(h:Heap):Prop:=
 ∃(τ:Type) (V:τ->σ) (I:τ->Heap->Prop) (μ:τ->Nat) (t0:τ),s=V t0/\I t0 h/\∀t h,I t h->B (V t) (λb h'=>∃a,b=V a/\I a h'/\μ a<μ t) h
theorem ZR{P:Program}{c:Code}{Q:Exit->Act->World->Prop}{a:Act}{w:World}{σ:Type}(R:σ->Act->World->Prop)(μ:σ->World->Nat)(t:σ)(y:R t a w)
  (i:∀s a w,R s a w->c.wp P (Exit.then (λa' w'=>∃m,R m a' w'/\μ m w'<μ s w) Q) a w):(Code.loop c).wp P Q a w:=by
 intro b k cs;have p:∀n s a w,μ s w=n->R s a w->
   ∃e a' w',Q e a' w'/\Arrives P (lone (b.at a (.code c::.inLoop c::k)) cs w) b k cs e a' w':=by
  intro n
  induction n using Nat.strongRecOn with
  |_ n ih=>
   intro s a w v A;obtain⟨e,j,g,f,d⟩:=i s a w A b (.inLoop c::k) cs;cases e with
   |normal=>
    obtain⟨m,r,q⟩:=f;obtain⟨B,u,z,o,h⟩:=ih (μ m g) (v▸q) m j g rfl r;exact⟨B,u,z,o,.of_steps (Steps.trans d (.one step_inLoop)) h⟩
   |exit id=>exact⟨_,j,g,f,.pass (x:=.inLoop c) rfl (λ_ _=>.inl (by simp)) d⟩
   |goto l=>exact⟨_,j,g,f,.pass (x:=.inLoop c) rfl (λ_ _=>.inl (by simp)) d⟩
   |ret=>exact⟨_,j,g,f,.pass (x:=.inLoop c) rfl (λ_ _=>.inl (by simp)) d⟩
   |panic ch=>exact⟨_,j,g,f,.pass (x:=.inLoop c) rfl (λ_ _=>.inl (by simp)) d⟩
   |outgrown=>exact⟨_,j,g,f,.pass (x:=.inLoop c) rfl (λ_ _=>.inl (by simp)) d⟩
 obtain⟨e,a',w',f,d⟩:=p _ t a w rfl y;exact⟨e,a',w',f,.of_steps (.one step_loop) d⟩
inductive aj where
 |n
 |two (a b:aj)
 |inn (a:aj)
 |loop (σ:dV) (κ:dq) (a:aj)
 |join (σ:dV) (κ:dq) (a:aj)
 |scope (l:Nat) (σ:dV) (κ:dq) (pre rest:List aj) (fwd:List (Nat×List aj))
 |fwd (a:aj) (fwd:List (Nat×List aj))
def aj.fst:aj->aj
 | .two a _=>a
 |_=>.n
def aj.snd:aj->aj
 | .two _ b=>b
 |_=>.n
def aj.sub:aj->aj
 | .inn a=>a
 |_=>.n
abbrev QT:=Exit->Env->Heap->Prop
def LV(σ:dV)(κ:dq)(ρ:Env)(K:σ.den->Heap->Prop)(Q:QT):QT
 | .normal,ρ',h=>bif within σ κ ρ' (ρ'.length-ρ.length)then(match σ.read ρ' with|some s=>K s h|none=>False)else False
 |e,ρ',h=>Q e ρ' h
def IW(next:Env->Heap->Prop)(Q:QT):QT
 | .normal,ρ,h=>next ρ h
 |e,ρ,h=>Q e ρ h
def ZS(id:Nat)(Q:QT):QT
 | .exit i,ρ,h=>bif wE i id then Q .normal ρ h else Q (.exit i) ρ h
 |e,ρ,h=>Q e ρ h
abbrev Rec:=Code->aj->QT->Env->Heap->Prop
def Bw(rec:Rec):List Code->List aj->QT->Env->Heap->Prop
 |[],_,Q,ρ,h=>Q .normal ρ h
 |c::cs,[],Q,ρ,h=>rec c .n (IW (Bw rec cs [] Q) Q) ρ h
 |c::cs,x::xs,Q,ρ,h=>rec c x (IW (Bw rec cs xs Q) Q) ρ h
def chain:Code->Nat->Option (List Code×List Code)
 | .seq a b,l=>match chain a l with
  |some (p,r)=>some (p,r++[b])
  |none=>match chain b l with
   |some (p,r)=>some (a::p,r)
   |none=>none
 | .label l',l=>bif wE l' l then some ([],[])else none
 |_,_=>none
def afe(a:List (Nat×List aj))(l:Nat):Option (List aj):=
 match a with
 |[]=>none
 |p::r=>bif wE p.1 l then some p.2 else afe r l
def IX(rec:Rec)(c:Code)(a:List (Nat×List aj))(Q:QT):Nat->QT
 |0=>λ_ _ _=>False
 |g+1=>λe ρ h=>match e with
  | .goto l=>match afe a l with
   |some xs=>match chain c l with
    |some (_,r)=>Bw rec r xs (IX rec c a Q g) ρ h
    |none=>False
   |none=>Q (.goto l) ρ h
  |e=>Q e ρ h
def XR(l:Nat)(σ:dV)(κ:dq)(ρ:Env)(K:σ.den->Heap->Prop)(Q:QT):QT
 | .goto l',ρ',h=>bif wE l' l then(bif within σ κ ρ' (ρ'.length-ρ.length)then(match σ.read ρ' with|some s=>K s h|none=>False)else False)else Q (.goto l') ρ' h
 |e,ρ',h=>Q e ρ' h
def Sm(c:Code)(Q:QT):QT
 | .goto l,ρ,h=>match findLabel c l with
  |none=>Q (.goto l) ρ h
  |some _=>False
 |e,ρ,h=>Q e ρ h
def Sn(C:Ctx)(n:Nat)(rec:Rec)(c:Code)(d:aj)(Q:QT)(ρ:Env)(h:Heap):Prop:=
 match d with
 | .join σ κ a=>bg (λs h=>Q .normal (σ.vals s (κ.over ρ)) h) (λK=>rec c a (LV σ κ ρ K Q) ρ h)
 |d=>match c with
  | .skip=>Q .normal ρ h
  | .label _=>Q .normal ρ h
  | .region _ ops draw=>Oo C n ops draw (Q .normal) ρ h
  | .seq a b=>rec a d.fst (IW (rec b d.snd Q) Q) ρ h
  | .cond x a b=>match ρ.eval x with
   |some (.bool t)=>Br t (rec a d.fst Q ρ h) (rec b d.snd Q ρ h)
   |_=>False
  | .block id c=>rec c d.sub (ZS id Q) ρ h
  | .exit id=>Q (.exit id) ρ h
  | .goto l=>Q (.goto l) ρ h
  | .ret=>Q .ret ρ h
  | .loop c=>match d with
   | .loop σ κ a=>match σ.read ρ with
    |some s0=>aJ (λs K h=>rec c a (LV σ κ (σ.vals s (κ.over ρ)) K Q) (σ.vals s (κ.over ρ)) h) s0 h
    |none=>False
   |_=>False
  | .scope c=>match d with
   | .scope l σ κ pre rest fwd=>match chain c l with
    |some (p,r)=>Bw rec p pre (IW (λρ' h'=>match σ.read ρ' with
     |some s0=>aJ (λs K h=>Bw rec r rest (IX rec c fwd (XR l σ κ (σ.vals s (κ.over ρ')) K (Sm c Q)) 4) (σ.vals s (κ.over ρ')) h) s0 h'
     |none=>False) (Sm c Q)) ρ h
    |none=>False
   | .fwd a fwd=>rec c a (IX rec c fwd (Sm c Q) 4) ρ h
   |_=>False
  |_=>False
def vc(C:Ctx)(n:Nat):Nat->Rec
 |0=>λ_ _ _ _ _=>False
 |f+1=>Sn C n (vc C n f)
def IY(C:Ctx)(n:Nat)(rec:Rec):Prop:=∀(c:Code) (b:aj) (Q:QT) (ρ:Env) (a:Act) (w:World),Fits n a ρ->rec c b Q ρ w.heap->c.wp C.P (Out n Q ρ a w) a w
section
variable {C:Ctx} {n:Nat} {Q:QT} {ρ ρ':Env} {a a':Act} {w w':World}
theorem Out.base{e:Exit}{b:Act}{c:World}(j:Ext ρ ρ' a a')(i:dm w w')(h:Out n Q ρ' a' w' e b c):Out n Q ρ a w e b c:=by obtain⟨d,f,g,h3,k⟩:=h;exact⟨d,f,j.trans g,i.trans h3,k⟩
theorem Out.then{next:Env->Heap->Prop}{N:Act->World->Prop}{f:Exit->Act->World->Prop}{e:Exit}{b:Act}{c:World}(h:Out n (IW next Q) ρ a w e b c)
  (k:∀ρ',Fits n b ρ'->Ext ρ ρ' a b->dm w c->next ρ' c.heap->N b c) (l:Out n Q ρ a w e b c->e≠.normal->f e b c):Exit.then N f e b c:=by
 obtain⟨d,g,i,h3,j⟩:=h;cases e<;>first|exact k d g i h3 j|exact l ⟨d,g,i,h3,j⟩ (by simp)
def og(P:Program):List Code->(Exit->Act->World->Prop)->Act->World->Prop
 |[],Q,a,w=>Q .normal a w
 |c::cs,Q,a,w=>c.wp P (Exit.then (og P cs Q) Q) a w
theorem kU{P:Program}{Q d:Exit->Act->World->Prop}(b:∀e a w,Q e a w->d e a w):∀(l:List Code) (a:Act) (w:World),og P l Q a w->og P l d a w
 |[],_,_,h=>b _ _ _ h
 |c::cs,a,w,h=>wp_mono h λe a w h=>by
  cases e<;>first|exact kU b cs a w h|exact b _ _ _ h
theorem pN{rec:Rec}(d:IY C n rec):∀(l:List Code) (xs:List aj) (Q:QT) (ρ:Env) (a:Act) (w:World),Fits n a ρ->Bw rec l xs Q ρ w.heap->og C.P l (Out n Q ρ a w) a w
 |[],_,Q,ρ,a,w,hf,h=>⟨ρ,hf,Ext.refl _ _,dm.refl _,h⟩
 |c::cs,[],Q,ρ,a,w,hf,h=>by
  refine wp_mono (d c .n _ ρ a w hf h) λe a' w' b=>b.then (λρ' f x2 x3 g=>?_) λb _=>b;exact kU (λe a w h=>h.base x2 x3) cs a' w' (pN d cs [] Q ρ' a' w' f g)
 |c::cs,x::xs,Q,ρ,a,w,hf,h=>by
  refine wp_mono (d c x _ ρ a w hf h) λe a' w' b=>b.then (λρ' f x2 x3 g=>?_) λb _=>b;exact kU (λe a w h=>h.base x2 x3) cs a' w' (pN d cs xs Q ρ' a' w' f g)
end
theorem Cl{P:Program}{b:Code}{Q:Exit->Act->World->Prop}:∀(l:List Code) (a:Act) (w:World),og P (l++[b]) Q a w->og P l (Exit.then (b.wp P Q) Q) a w
 |[],a,w,h=>by
  refine wp_mono h λe a w h=>?_;cases e<;>exact h
 |c::cs,a,w,h=>wp_mono h λe a w h=>by
  cases e<;>first|exact Cl cs a w h|exact h
theorem sZ:∀{c:Code} {l:Nat} {p r:List Code},chain c l=some (p,r)->∃k,findLabel c l=some k/\
  (∀{P:Program} {Q:Exit->Act->World->Prop} {a:Act} {w:World},og P r Q a w->k.wp P Q a w)/\
  (∀{P:Program} {Q:Exit->Act->World->Prop} {a:Act} {w:World},og P p (Exit.then (og P r Q) Q) a w->c.wp P Q a w)
 | .seq x y,l,p,r,h=>by
  simp only[chain]at h;split at h
  ·rename_i s m d;cases h;obtain⟨k,i,j,h3⟩:=sZ d;refine⟨.seq k y,by simp[findLabel,i],λ{P Q a w} h=>wp_seq (j (Cl m a w h)),λ{P Q a w} h=>wp_seq (h3 ?_)⟩;refine kU (λe a w g=>?_) p a w h;cases e<;>first|exact Cl m a w g|exact g
  ·rename_i d;split at h
   ·rename_i s m n;cases h;obtain⟨k,i,j,h3⟩:=sZ n;have o:findLabel x l=none:=by
     clear i j h3 n
     induction x with
     |seq a b iha ihb=>
      simp only[chain]at d;split at d
      ·cases d
      ·rename_i q;split at d
       ·cases d
       ·rename_i f;simp[findLabel,iha q,ihb f]
     |label l'=>
      simp only[chain]at d;cases f:wE l' l with
      |true=>rw[f]at d;cases d
      |false=>
       have:¬l'=l:=λe=>by subst e;simp at f
       simp[findLabel,this]
     |_=>rfl
    refine⟨k,by simp[findLabel,o,i],j,λ{P Q a w} h=>wp_seq (wp_mono h λe a w g=>?_)⟩;cases e<;>first|exact h3 g|exact g
   ·cases h
 | .label l',l,p,r,h=>by
  simp only[chain]at h;cases f:wE l' l with
  |false=>rw[f]at h;cases h
  |true=>
   rw[f]at h;cases h;have:=zL f;subst this;exact⟨.skip,by simp[findLabel],λh=>wp_skip h,λh=>wp_label h⟩
 | .skip,_,_,_,h=>by cases h
 | .region ..,_,_,_,h=>by cases h
 | .cond ..,_,_,_,h=>by cases h
 | .block ..,_,_,_,h=>by cases h
 | .loop _,_,_,_,h=>by cases h
 | .rangeFunc ..,_,_,_,h=>by cases h
 | .exit _,_,_,_,h=>by cases h
 | .scope _,_,_,_,h=>by cases h
 | .goto _,_,_,_,h=>by cases h
 | .ret,_,_,_,h=>by cases h
 | .refuse _,_,_,_,h=>by cases h
section
variable {P:Program} {c:Code} {Q:Exit->Act->World->Prop} {b:Frame} {k:List Item} {cs:List Frame}
def Reach(P:Program)(c:Code)(Q:Exit->Act->World->Prop)(b:Frame)(k:List Item)(d:List Frame)(a:Act)(w:World)(r:Code):Prop:=
 ∃e a' w',Q e a' w'/\Arrives P (lone (b.at a (.code r::.inScope c::k)) d w) b k d e a' w'
def Good(P:Program)(c:Code)(Q:Exit->Act->World->Prop)(b:Frame)(k:List Item)(d:List Frame):Exit->Act->World->Prop
 | .goto l,a,w=>match findLabel c l with
  |some r=>Reach P c Q b k d a w r
  |none=>Q (.goto l) a w
 |e,a,w=>Q e a w
theorem So{m:Machine}{e:Exit}{a:Act}{w:World}(f:Good P c Q b k cs e a w)(d:Arrives P m b (.inScope c::k) cs e a w):
  ∃e a' w',Q e a' w'/\Arrives P m b k cs e a' w':=by
 cases e with
 |normal=>exact⟨.normal,a,w,f,Steps.trans d (.one step_inScope)⟩
 |exit id=>exact⟨.exit id,a,w,f,λh i=>d h (by simp[exitTo,i])⟩
 |goto l=>
  simp only[Good]at f;cases hf:findLabel c l with
  |none=>
   rw[hf]at f;exact⟨.goto l,a,w,f,λh i=>d h (by simp[gotoIn,hf,i])⟩
  |some r=>
   rw[hf]at f;obtain⟨o,n,p,j,g⟩:=f;exact⟨o,n,p,j,.of_steps (d _ (by simp[gotoIn,hf])) g⟩
 |ret=>exact⟨_,a,w,f,d⟩
 |panic ch=>exact⟨_,a,w,f,d⟩
 |outgrown=>exact⟨_,a,w,f,d⟩
theorem Sq{r:Code}{a:Act}{w:World}(h:r.wp P (Good P c Q b k cs) a w):Reach P c Q b k cs a w r:=by obtain⟨e,a',w',f,d⟩:=h b (.inScope c::k) cs;exact So f d
theorem Fq{a:Act}{w:World}(h:∀b k cs,c.wp P (Good P c Q b k cs) a w):(Code.scope c).wp P Q a w:=by intro b k cs;obtain⟨e,m,l,f,d⟩:=h b k cs b (.inScope c::k) cs;obtain⟨i,a',w',g,j⟩:=So f d;exact⟨i,a',w',g,.of_steps (.one step_scope) j⟩
end
section
variable {C:Ctx} {n:Nat} {rec:Rec}
theorem Eb(s:IY C n rec){c:Code}{o:List (Nat×List aj)}{u:QT}{t:Exit->Act->World->Prop}{b:Frame}{k:List Item}{q:List Frame}{ρ:Env}{a0:Act}{w0:World}
  (j:∀e d i f,Fits n i d->Ext ρ d a0 i->dm w0 f->u e d f.heap->Good C.P c t b k q e i f):
  ∀(g:Nat) (e:Exit) (d:Env) (i:Act) (f:World),Fits n i d->Ext ρ d a0 i->dm w0 f->IX rec c o u g e d f.heap->Good C.P c t b k q e i f
 |0,_,_,_,_,_,_,_,h=>h.elim
 |g+1,e,d,i,f,hf,hx,hl,h=>by
  cases e with
  |goto l=>
   simp only[IX]at h;split at h
   ·split at h
    ·rename_i p r m;obtain⟨F,z,A,_⟩:=sZ m;simp only[Good,z];refine Sq (A ?_);refine kU (λe a w E=>?_) _ _ _ (pN s _ _ _ d i f hf h);obtain⟨v,D,y,B,x⟩:=E;exact Eb s j g e v a w D (hx.trans y) (hl.trans B) x
    ·exact h.elim
   ·exact j _ _ _ _ hf hx hl h
  |normal=>exact j _ _ _ _ hf hx hl h
  |exit id=>exact j _ _ _ _ hf hx hl h
  |ret=>exact j _ _ _ _ hf hx hl h
  |panic ch=>exact j _ _ _ _ hf hx hl h
  |outgrown=>exact j _ _ _ _ hf hx hl h
theorem pc{c:Code}{Q:QT}{b:Frame}{k:List Item}{o:List Frame}{ρ:Env}{a0:Act}{w0:World}{e:Exit}{a:Env}{j:Act}{i:World}
  (d:Fits n j a) (g:Ext ρ a a0 j) (f:dm w0 i) (h:Sm c Q e a i.heap):Good C.P c (Out n Q ρ a0 w0) b k o e j i:=by
 cases e with
 |goto l=>
  simp only[Sm]at h;simp only[Good];split at h
  ·rename_i m;simp only[m];exact⟨a,d,g,f,h⟩
  ·exact h.elim
 |normal=>exact⟨a,d,g,f,h⟩
 |exit id=>exact⟨a,d,g,f,h⟩
 |ret=>exact⟨a,d,g,f,h⟩
 |panic ch=>exact⟨a,d,g,f,h⟩
 |outgrown=>exact⟨a,d,g,f,h⟩
theorem PG{a:Act}{σ:dV}{κ:dq}{ρ:Env}{s:σ.den}(b:Fits n a ρ)(c:σ.read ρ=some s):Fits n a (σ.vals s (κ.over ρ))/\Ext ρ (σ.vals s (κ.over ρ)) a a:=
 b.sl b (λ_ _ _=>rfl) c
theorem Vl(L:IY C n rec){c:Code}{l:Nat}{σ:dV}{κ:dq}{pre rest:List aj}{H:List (Nat×List aj)}{p r:List Code}(hc:chain c l=some (p,r)){Q:QT}{ρ:Env}{a:Act}{w:World}(hf:Fits n a ρ)
  (h:Bw rec p pre (IW (λρ' h'=>match σ.read ρ' with
     |some N=>aJ (λs K h=>Bw rec r rest (IX rec c H (XR l σ κ (σ.vals s (κ.over ρ')) K (Sm c Q)) 4) (σ.vals s (κ.over ρ')) h) N h'
     |none=>False) (Sm c Q)) ρ w.heap):(Code.scope c).wp C.P (Out n Q ρ a w) a w:=by
 refine Fq λb k cs=>?_;obtain⟨kk,Z,h2,h3⟩:=sZ hc;refine h3 (kU (λe a' w' y=>?_) _ _ _ (pN L _ _ _ ρ a w hf h));refine y.then (λρ' R x2 x3 E=>?_) (λy _=>?_)
 ·split at E
  ·rename_i N J;obtain⟨τ,V,I,μ,t0,U,hI,i⟩:=E;subst U;have g:=PG (κ:=κ) R J;have x:∀(m:Nat) (t:τ) (v:Act) (o:World),μ t=m->I t o.heap->Fits n v (σ.vals (V t) (κ.over ρ'))->Ext ρ' (σ.vals (V t) (κ.over ρ')) a' v->dm w' o->
     og C.P r (Good C.P c (Out n Q ρ a w) b k cs) v o:=by
    intro m
    induction m using Nat.strongRecOn with
    |_ m ih=>
     intro t v o hm G z d f;refine kU (λe a2 w2 y=>?_) _ _ _ (pN L _ _ _ _ v o z (i t o.heap G));obtain⟨ρ2,D,M,B,F⟩:=y;refine Eb L (ρ:=σ.vals (V t) (κ.over ρ')) (a0:=v) (w0:=o) (λe S a3 w3 u j z3 z4=>?_) 4 e ρ2 a2 w2 D M B F;cases e with
     |goto l'=>
      simp only[XR]at z4;cases hb:wE l' l with
      |false=>
       rw[hb]at z4;exact pc u (x2.trans (d.trans j)) (x3.trans (f.trans z3)) z4
      |true=>
       rw[hb]at z4;have:=zL hb;subst this;simp only[Good,Z];cases hw:within σ κ S (S.length-(σ.vals (V t) (κ.over ρ')).length)with
       |false=>rw[hw]at z4;exact z4.elim
       |true=>
        rw[hw]at z4;simp only[cond_true]at z4;split at z4
        ·rename_i s' A;have q:∀t,σ.has t=false->(κ.over []).fb t=false->a3.tmps[t]?=a'.tmps[t]?:=λt T O=>by
          rw[j.within hw t T O,d.sl t T O]
         obtain⟨u1,W⟩:=R.sl (κ:=κ) u q A;obtain⟨X,Y,i1,i2⟩:=z4;subst Y;exact Sq (h2 (ih _ (by rw[<-hm];exact i2) X a3 w3 rfl i1 u1 W (f.trans z3)))
        ·exact z4.elim
     |normal=>exact pc u (x2.trans (d.trans j)) (x3.trans (f.trans z3)) z4
     |exit id=>exact pc u (x2.trans (d.trans j)) (x3.trans (f.trans z3)) z4
     |ret=>exact pc u (x2.trans (d.trans j)) (x3.trans (f.trans z3)) z4
     |panic ch=>exact pc u (x2.trans (d.trans j)) (x3.trans (f.trans z3)) z4
     |outgrown=>exact pc u (x2.trans (d.trans j)) (x3.trans (f.trans z3)) z4
   exact x _ t0 a' w' rfl hI g.1 g.2 (dm.refl _)
  ·exact E.elim
 ·obtain⟨ρ1,D,M,B,F⟩:=y;exact pc D M B F
theorem afV(hC:C.Ok)(o:IY C n rec):IY C n (Sn C n rec):=by
 intro c ad Q ρ a w g h;have u:∀{σ:dV} {κ:dq} {K:σ.den->Heap->Prop} {e:Exit} {a':Act} {w':World},Out n (LV σ κ ρ K Q) ρ a w e a' w'->(∀s h,K s h->Q .normal (σ.vals s (κ.over ρ)) h)->Out n Q ρ a w e a' w':=by
  intro σ κ K e a' w' j T;obtain⟨ρ',f,x2,x3,d⟩:=j;cases e with
  |normal=>
   simp only[LV]at d;cases hw:within σ κ ρ' (ρ'.length-ρ.length)with
   |false=>rw[hw]at d;exact d.elim
   |true=>
    rw[hw]at d;simp only[cond_true]at d;split at d
    ·rename_i s P;obtain⟨F,H⟩:=g.sl (κ:=κ) f (x2.within hw) P;exact⟨_,F,H,x3,T _ _ d⟩
    ·exact d.elim
  |exit id=>exact⟨ρ',f,x2,x3,d⟩
  |goto l=>exact⟨ρ',f,x2,x3,d⟩
  |ret=>exact⟨ρ',f,x2,x3,d⟩
  |panic ch=>exact⟨ρ',f,x2,x3,d⟩
  |outgrown=>exact⟨ρ',f,x2,x3,d⟩
 unfold Sn at h;split at h
 ·rename_i σ κ x;obtain⟨K,W,hB⟩:=h;exact wp_mono (o c x _ ρ a w g hB) λe a' w' j=>u j W
 ·split at h
  ·exact wp_skip ⟨ρ,g,Ext.refl _ _,dm.refl _,h⟩
  ·exact wp_label ⟨ρ,g,Ext.refl _ _,dm.refl _,h⟩
  ·exact wp_mono (Sk hC g h) λe a' w' j=>j.2
  ·rename_i x y;refine wp_seq (wp_mono (o x _ _ ρ a w g h) λe a' w' j=>j.then (λρ' f x2 x3 d=>?_) λj _=>j);exact wp_mono (o y _ _ ρ' a' w' f d) λe X O j=>j.base x2 x3
  ·rename_i x y z;split at h
   ·rename_i t Y;refine wp_cond_split (g.eval Y) (λe=>?_) (λe=>?_)
    ·subst e;exact o y _ _ ρ a w g h
    ·subst e;exact o z _ _ ρ a w g h
   ·exact h.elim
  ·rename_i id x;refine wp_block (wp_mono (o x _ _ ρ a w g h) λe a' w' j=>?_);obtain⟨ρ',f,x2,x3,d⟩:=j;cases e with
   |exit i=>
    simp only[Exit.inBlock];simp only[ZS]at d;cases hb:wE i id with
    |true=>
     rw[hb]at d;rw[if_pos (zL hb)];exact⟨ρ',f,x2,x3,d⟩
    |false=>
     rw[hb]at d;rw[if_neg λe=>by subst e;simp at hb];exact⟨ρ',f,x2,x3,d⟩
   |normal=>exact⟨ρ',f,x2,x3,d⟩
   |goto l=>exact⟨ρ',f,x2,x3,d⟩
   |ret=>exact⟨ρ',f,x2,x3,d⟩
   |panic ch=>exact⟨ρ',f,x2,x3,d⟩
   |outgrown=>exact⟨ρ',f,x2,x3,d⟩
  ·exact wp_exit ⟨ρ,g,Ext.refl _ _,dm.refl _,h⟩
  ·exact wp_goto ⟨ρ,g,Ext.refl _ _,dm.refl _,h⟩
  ·exact wp_ret ⟨ρ,g,Ext.refl _ _,dm.refl _,h⟩
  ·rename_i x;split at h
   ·rename_i σ κ y _;split at h
    ·rename_i s0 E;obtain⟨τ,V,I,μ,t0,U,hI,q⟩:=h;subst U;have m:=PG (κ:=κ) g E;refine ZR (σ:=τ) (λt D B=>Fits n D (σ.vals (V t) (κ.over ρ))/\Ext ρ (σ.vals (V t) (κ.over ρ)) a D/\dm w B/\I t B.heap) (λt _=>μ t) t0 ⟨m.1,m.2,dm.refl _,hI⟩ ?_;rintro t D B ⟨J,v,z3,z4⟩;refine wp_mono (o x y _ _ D B J (q t _ z4)) λe a2 w2 j=>?_;obtain⟨ρ',f,x2,x3,d⟩:=j;cases e with
     |normal=>
      simp only[LV]at d;cases hw:within σ κ ρ' (ρ'.length-(σ.vals (V t) (κ.over ρ)).length)with
      |false=>rw[hw]at d;exact d.elim
      |true=>
       rw[hw]at d;simp only[cond_true]at d;split at d
       ·rename_i s' G;have A:∀t,σ.has t=false->(κ.over []).fb t=false->a2.tmps[t]?=a.tmps[t]?:=λt L M=>by
         rw[x2.within hw t L M,v.sl t L M]
        obtain⟨F,H⟩:=g.sl (κ:=κ) f A G;obtain⟨N,S,i1,Z⟩:=d;subst S;exact⟨N,⟨F,H,z3.trans x3,i1⟩,Z⟩
       ·exact d.elim
     |exit id=>exact⟨ρ',f,v.trans x2,z3.trans x3,d⟩
     |goto l=>exact⟨ρ',f,v.trans x2,z3.trans x3,d⟩
     |ret=>exact⟨ρ',f,v.trans x2,z3.trans x3,d⟩
     |panic ch=>exact⟨ρ',f,v.trans x2,z3.trans x3,d⟩
     |outgrown=>exact⟨ρ',f,v.trans x2,z3.trans x3,d⟩
    ·exact h.elim
   ·exact h.elim
  ·rename_i x;split at h
   ·split at h
    ·rename_i p r R;exact Vl o R g h
    ·exact h.elim
   ·refine Fq λb k cs=>wp_mono (o x _ _ ρ a w g h) λe a' w' j=>?_;obtain⟨ρ',f,x2,x3,d⟩:=j;exact Eb o (ρ:=ρ) (a0:=a) (w0:=w) (λe ρ3 a3 w3 J v z3 z4=>pc J v z3 z4) 4 e ρ' a' w' f x2 x3 d
   ·exact h.elim
  ·exact h.elim
theorem Sr(a:C.Ok):∀f,IY C n (vc C n f)
 |0=>λ_ _ _ _ _ _ _ h=>h.elim
 |f+1=>afV a (Sr a f)
end
def Gy(C:Ctx)(ρ:Env):List ResultVar->(List Value->Prop)->Heap->Prop
 |[],K,_=>K []
 | .tmp t::r,K,h=>match ρ.get t with
  |some v=>Gy C ρ r (λvs=>K (v::vs)) h
  |none=>False
 | .cell a t::r,K,h=>match xV C.T (.load t (.tmp a)) ρ.eval with
  |some q=>∃y:q.ty.den,q.holds h y/\Gy C ρ r (λvs=>K (q.ty.enc y::vs)) h
  |none=>False
def Gz:List Value->Value
 |[v]=>v
 |vs=>.tuple vs.toArray
def ajb(C:Ctx)(rs:List ResultVar)(R:Value->Heap->Prop):QT
 | .normal,ρ,h=>Gy C ρ rs (λvs=>R (Gz vs) h) h
 | .ret,ρ,h=>Gy C ρ rs (λvs=>R (Gz vs) h) h
 |_,_,_=>False
def GA:Nat->List Value->Env
 |_,[]=>[]
 |n,v::r=>.val n v::GA (n+1) r
def fnV(C:Ctx)(b:Func)(a:Nat)(d:aj)(args:List Value)(R:Value->Heap->Prop)(h:Heap):Prop:=
 match b.body with
 |some c=>vc C b.ntmps a c d (ajb C b.results.toList R) (GA 0 args) h
 |none=>False
theorem LW:∀{args:List Value} {n t:Nat} {v:Value},(GA n args).get t=some v->n<=t/\args[t-n]?=some v
 |[],_,_,_,h=>by cases h
 |u::r,n,t,v,h=>by
  simp only[GA,Env.get]at h;cases hb:wE n t with
  |true=>
   rw[hb]at h;have:=zL hb;subst this;simpa using h
  |false=>
   rw[hb]at h;obtain⟨c,b⟩:=LW (args:=r) h;refine⟨by omega,?_⟩;obtain⟨k,a⟩:∃k,t-n=k+1:=⟨t-(n+1),by omega⟩
   rw[a,List.getElem?_cons_succ];have:t-(n+1)=k:=by omega
   rw[<-this];exact b
theorem ade{C:CU}(g:C.Ok){ev:Operand->Option Value}{e:Operand->Value}(h:∀x v,ev x=some v->e x=v){t:TypeId}{x:Operand}{q:Bv}
  (d:xV C.T (.load t x) ev=some q) {y:q.ty.den} {w:World} (f:q.holds w.heap y):(vQ t (e x)).run C.P w=.ok (q.ty.enc y) w:=by
 have c:(do pure (Next.value (<-vQ t (e x))):Sem Next).run C.P w=.ok (.value (q.ty.enc y)) w:=DY g h (o:=⟨none,.load t x,0, "",#[],none⟩) d f;rw[Sem.run_bind]at c;cases hr:(vQ t (e x)).run C.P w with
 |halt a b=>rw[hr]at c;cases c
 |ok v w'=>
  rw[hr]at c;simp only[Result.andThen_ok]at c;cases c;rfl
theorem GB{C:Ctx}(l:C.Ok){n:Nat}{a:Act}{ρ:Env}(d:Fits n a ρ):∀{rs:List ResultVar} {K:List Value->Prop} {w:World},Gy C ρ rs K w.heap->
  ∃vs,(rs.mapM (λ| .tmp t=>pure (a.tmps.getD t undef)| .cell x t=>(do loadVar t (<-asAddr (a.tmps.getD x undef)):Sem Value)):Sem (List Value)).run C.P w=.ok vs w/\K vs
 |[],K,w,h=>⟨[],rfl,h⟩
 | .tmp t::r,K,w,h=>by
  simp only[Gy]at h;split at h
  ·rename_i v s;obtain⟨vs,i,j⟩:=GB l d h;refine⟨v::vs,?_,j⟩;have g:a.tmps.getD t undef=v:=by simp[Array.getD_eq_getD_getElem?,d.get t v s]
   rw[List.mapM_cons,Sem.run_bind,Sem.run_pure,Result.andThen_ok,Sem.run_bind,i,g];rfl
  ·exact h.elim
 | .cell x t::r,K,w,h=>by
  simp only[Gy]at h;split at h
  ·rename_i q f;obtain⟨y,o,h⟩:=h;obtain⟨vs,i,j⟩:=GB l d h;refine⟨q.ty.enc y::vs,?_,j⟩;have m:=ade l.toOk (e:=a.eval) (λx v h=>d.eval h) f o;have p:∃c,a.eval (.tmp x)=.pointer (some c):=by
    unfold xV at f;simp only at f;split at f
    ·rename_i c b;exact⟨c,d.eval b⟩
    ·cases f
   obtain⟨c,b⟩:=p;have g:a.tmps.getD x undef=.pointer (some c):=b;rw[b]at m;rw[List.mapM_cons,Sem.run_bind];simp only[g];have k:(do loadVar t (<-asAddr (.pointer (some c))):Sem Value).run C.P w=.ok (q.ty.enc y) w:=m;rw[k,Result.andThen_ok,Sem.run_bind,i];rfl
  ·exact h.elim
theorem afW{C:Ctx}(o:C.Ok){f:FuncId}{b:Func}(p:C.P.funcs[f]?=some b){a:Nat}{i:aj}{args:List Value}(z:args.length<=b.ntmps){R:Value->Heap->Prop}{h:Heap}
  (j:fnV C b a i args R h):ab C.P f args.toArray h R:=by
 rintro w rfl;unfold fnV at j;split at j
 ·rename_i c s;refine calls_of_wp p s ?_;have d:Fits b.ntmps {tmps:=args.toArray++vu (b.ntmps-args.toArray.size) undef,defers:=[]} (GA 0 args):=by refine⟨by simp;omega,rfl,λt v x=>?_⟩;obtain⟨_,g⟩:=LW x;rw[Nat.sub_zero]at g;have k:t<args.length:=(qn.1 g).1;simp only[Array.getElem?_append,List.size_toArray,k,if_true,List.getElem?_toArray];exact g
  refine wp_mono (Sr o a c i _ _ _ w d j) λe a' w' y=>?_;obtain⟨ρ',l,x2,x3,n⟩:=y;have fin:Gy C ρ' b.results.toList (λvs=>R (Gz vs) w'.heap) w'.heap->a'.defers=[]/\∃v,(results b a'.tmps).run C.P w'=.ok v w'/\(∃m,Ending.returned v=.returned m/\dm w w'/\R m w'.heap):=λq=>by
   obtain⟨vs,u,g⟩:=GB o l q;refine⟨l.defers,Gz vs,?_,Gz vs,rfl,x3,g⟩;unfold results;rw[vl,map_eq_pure_bind,bind_assoc,Sem.run_bind];refine(congrArg (λr=>Result.andThen r _) u).trans ?_;simp only[Result.andThen_ok,pure_bind,Sem.run_pure];cases vs with
   |nil=>rfl
   |cons v r=>cases r<;>rfl
  cases e<;>first|exact fin n|exact n.elim
 ·exact j.elim
theorem au{C:Ctx}(i:C.Ok){f:FuncId}{a:Func}(d:C.P.funcs[f]?=some a)(b:aj){args:List Value}{R:Value->Heap->Prop}{h:Heap}{Q:Prop}(g:Q)
  (c:xd args.length a.ntmps=true:=by kernel_rfl) (e:fnV C a 300 b args R h=Q:=by kernel_rfl):ab C.P f args.toArray h R:=afW i d (zK c) (cast e.symm g)
def aA(P:Program)(s:Sem Value)(r:Rt)(h:Heap)(K:r.den->Heap->Prop):Prop:=af P s h λv h'=>∃x:r.den,v=r.enc x/\K x h'
def aQ(P:Program)(s:Sem Value)(h:Heap)(K:Addr->Heap->Prop):Prop:=af P s h λv h'=>∃a:Addr,v=.pointer (some a)/\K a h'
def ae(P:Program)(f:FuncId)(args:Array Value)(r:Rt)(h:Heap)(K:r.den->Heap->Prop):Prop:=ab P f args h λv h'=>∃x:r.den,v=r.enc x/\K x h'
def iG(C:Ctx)(g:FuncId)(args:List Value)(r:Rt)(h:Heap)(K:r.den->Heap->Prop):Prop:=
 match C.fns[g]? with
 |some true=>ae C.P g args.toArray r h K
 |_=>False
theorem fe{C:Ctx}{g:FuncId}{args:List Value}{r:Rt}{h:Heap}{K:r.den->Heap->Prop}(b:C.fns[g]?=some true)(a:ae C.P g args.toArray r h K):iG C g args r h K:=by unfold iG;rw[b];exact a
end Go.Vc
abbrev cw:=List (List UInt8)
abbrev ba:=List UInt8
abbrev bV:=List (List Int)
abbrev az:=List Int
abbrev aO:=Option Go.Addr
abbrev bc:=List Go.Value
abbrev KI:=Go.Value->Go.Vc.Heap->Prop
abbrev cG:=Go.FuncId×Array Go.Value×Array Go.Value
abbrev Go.Vc.aj.tn(a:Go.Vc.aj):Go.Vc.aj:=.two .n a
universe u
theorem f9{c:Prop}{h:Decidable c}(hc:c){α:Sort u}{t e:α}:ite c t e=t:=if_pos hc
theorem g0{c:Prop}{h:Decidable c}(hnc:¬c){α:Sort u}{t e:α}:ite c t e=e:=if_neg hnc
theorem g9{p:Prop}[inst:Decidable p]:p->decide p=true:=decide_eq_true
theorem hZ{p:Prop}[inst:Decidable p]:¬p->decide p=false:=decide_eq_false
theorem ii{p:Prop}[inst:Decidable p]:decide p=true->p:=of_decide_eq_true
theorem i4{α:Sort u}{a:α}:a=a:=rfl
theorem i5{p:Prop}(h:p:=by omega):p:=h
theorem i6{p:Prop}(h:p:=by decide):p:=h
theorem i7{p:Prop}(h:p:=by dsimp only;omega):p:=h
theorem i9{p:Prop}(h:p:=by simp;omega):p:=h
theorem jj{p:Prop}(h:p:=by simp):p:=h
theorem js{p:Prop}(h:p:=by dsimp only;rw[ak _];rfl):p:=h
theorem j1{p:Prop}(h:p:=by rw[ak _];rfl):p:=h
theorem j3{p:Prop}(h:p:=by cases e):p:=h
theorem j4{p:Prop}(h:p:=by kernel_rfl):p:=h
theorem j5{p:Prop}(h:p:=by rw[ak _];omega):p:=h
theorem j6{p:Prop}(h:p:=by decide+kernel):p:=h
theorem j7{p:Prop}(h:p:=by simpa using h):p:=h
theorem j8{p:Prop}(h:p:=by rw[addr_add];exact hb.cell i4):p:=h
theorem j9{p:Prop}(h:p:=by simpa using a):p:=h
theorem k0{p:Prop}(h:p:=by simpa using b):p:=h
theorem k4{p:Prop}(h:p:=by simp at d;omega):p:=h
theorem k5{p:Prop}(h:p:=by cases h):p:=h
theorem k6{p:Prop}(h:p:=by simp[aK]):p:=h
theorem k7{p:Prop}(h:p:=by rw[bX];omega):p:=h
theorem k8{p:Prop}(h:p:=by rfl):p:=h
theorem k9{p:Prop}(h:p:=by simpa using g):p:=h
theorem lb{p:Prop}(h:p:=by simp[ga]):p:=h
theorem ld{p:Prop}(h:p:=by simp[bW];omega):p:=h
theorem ln{p:Prop}(h:p:=by simpa using H):p:=h
theorem l0{p:Prop}(h:p:=by simp[Value.cells]):p:=h
theorem l4{p:Prop}(h:p:=by rw[ze];omega):p:=h
theorem l5{p:Prop}(h:p:=by simpa using e):p:=h
theorem l6{p:Prop}(h:p:=by simp[cB];omega):p:=h
theorem l7{p:Prop}(h:p:=by simp[a]):p:=h
theorem l9{p:Prop}(h:p:=by dsimp only;simp;omega):p:=h
theorem mn{p:Prop}(h:p:=by simp[c]):p:=h
theorem m4{p:Prop}(h:p:=by simp[dI];omega):p:=h
theorem m5{p:Prop}(h:p:=by simp[dH];omega):p:=h
theorem m6{p:Prop}(h:p:=by simp at h):p:=h
theorem m7{p:Prop}(h:p:=by unfold je;rw[o.refl];rfl):p:=h
theorem m8{p:Prop}(h:p:=by rw[<-w];exact q.cell0 i4):p:=h
theorem m9{p:Prop}(h:p:=by simp[gC]):p:=h
theorem nn{p:Prop}(h:p:=by simp[f]):p:=h
theorem nq{p:Prop}(h:p:=by simpa using e2):p:=h
theorem ns{p:Prop}(h:p:=by rw[uo d];omega):p:=h
theorem n0{p:Prop}(h:p:=by simpa using o):p:=h
theorem n3{p:Prop}(h:p:=by rw[qi (qk _)]):p:=h
theorem n4{p:Prop}(h:p:=by rw[e1];decide):p:=h
theorem n5{p:Prop}(h:p:=by simpa using d):p:=h
theorem n7{p:Prop}(h:p:=by unfold fq;simp;omega):p:=h
theorem n8{p:Prop}(h:p:=by assumption):p:=h
theorem n9{p:Prop}(h:p:=by rw[e];rfl):p:=h
theorem oi{p:Prop}(h:p:=by simp[b]):p:=h
theorem oj{p:Prop}(h:p:=by rw[m]):p:=h
theorem oo{p:Prop}(h:p:=by simpa using c):p:=h
theorem o0{p:Prop}(h:p:=by rw[hZ b];rfl):p:=h
theorem o4{p:Prop}(h:p:=by rw[wrap_u64];omega):p:=h
theorem o5{p:Prop}(h:p:=by simpa using f):p:=h
theorem o6{p:Prop}(h:p:=by rw[qA];omega):p:=h
theorem o7{p:Prop}(h:p:=by simp[cB]):p:=h
theorem o8{p:Prop}(h:p:=by rw[zb];omega):p:=h
theorem o9{p:Prop}(h:p:=by simpa using q):p:=h
theorem pa{p:Prop}(h:p:=by simp[g]):p:=h
theorem pb{p:Prop}(h:p:=by simp[d]):p:=h
theorem pt{p:Prop}(h:p:=by simp[e]):p:=h
theorem p0{p:Prop}(h:p:=by rw[s];rfl):p:=h
theorem p5{p:Prop}(h:p:=by simp[iI];omega):p:=h
theorem p6{p:Prop}(h:p:=by simp[fH];omega):p:=h
theorem p7{p:Prop}(h:p:=by rw[F.wl];omega):p:=h
theorem p8{p:Prop}(h:p:=by rw[c.len];omega):p:=h
theorem p9{p:Prop}(h:p:=by simpa using u):p:=h
theorem qa{p:Prop}(h:p:=by rw[ok.la];omega):p:=h
theorem qb{p:Prop}(h:p:=by rw[L];exact E):p:=h
theorem qs{p:Prop}(h:p:=by rw[hG];rfl):p:=h
theorem q6{p:Prop}(h:p:=by simpa using p):p:=h
theorem rb{p:Prop}(h:p:=by rw[mj];omega):p:=h
theorem sb{p:Prop}(h:p:=by rw[gW];omega):p:=h
theorem sp{p:Prop}(h:p:=by simpa using n):p:=h
theorem sr{p:Prop}(h:p:=by simp[h]):p:=h
theorem sz{p:Prop}(h:p:=by cases a):p:=h
abbrev qk:=@Nat.le_refl
abbrev qz:=@Bool.and_eq_true
abbrev zj:=@Bool.false_eq_true
abbrev we:=@Bool.or_eq_true
abbrev zy:=@List.cons_append
abbrev qn:=@List.getElem?_eq_some_iff
abbrev qS:=@List.getElem?_map
abbrev zi:=@List.length_cons
abbrev zM:=@List.mem_append_right
abbrev qX:=@List.mem_cons
abbrev qC:=@List.mem_cons_of_mem
abbrev qH:=@List.mem_cons_self
abbrev qx:=@List.mem_singleton
abbrev qT:=@Option.map_some
abbrev w9:=@Nat.add_assoc
abbrev zq:=@Nat.add_sub_cancel_left
abbrev wV:=@Nat.add_zero
abbrev za:=@Nat.le_trans
abbrev q7:=@Nat.lt_of_lt_of_le
abbrev zo:=@Nat.lt_succ_iff_lt_or_eq
abbrev wM:=@Nat.lt_trichotomy
abbrev yw:=@Nat.mod_lt
abbrev z7:=@Nat.mul_le_mul
abbrev zt:=@Nat.mul_le_mul_right
abbrev zc:=@Nat.sub_self
abbrev zG:=@Nat.succ_mul
abbrev wJ:=@Nat.zero_add
abbrev yE:=@Array.ext_getElem?
abbrev wz:=@Array.getElem?_modify
abbrev qL:=@List.all_eq_true
abbrev qq:=@List.append_assoc
abbrev qN:=@List.append_nil
abbrev zN:=@List.drop_drop
abbrev qQ:=@List.drop_eq_getElem_cons
abbrev zf:=@List.drop_of_length_le
abbrev q8:=@List.eq_nil_of_length_eq_zero
abbrev wv:=@List.ext_getElem
abbrev zO:=@List.ext_getElem?
abbrev zl:=@List.filter_append
abbrev zr:=@List.filter_cons
abbrev wo:=@List.filter_eq_nil_iff
abbrev z8:=@List.find?_eq_none
abbrev zk:=@List.flatMap_append
abbrev zg:=@List.flatMap_cons
abbrev wC:=@List.foldl_append
abbrev zB:=@List.foldl_cons
abbrev wT:=@List.foldl_nil
abbrev qe:=@List.getD_eq_getElem?_getD
abbrev qo:=@List.getElem?_append_left
abbrev qj:=@List.getElem?_append_right
abbrev qB:=@List.getElem?_cons_succ
abbrev wH:=@List.getElem?_drop
abbrev qd:=@List.getElem?_eq_getElem
abbrev qV:=@List.getElem?_eq_none
abbrev zd:=@List.getElem?_set
abbrev zI:=@List.getElem?_set_ne
abbrev zp:=@List.getElem?_set_self
abbrev wc:=@List.getElem?_toArray
abbrev wA:=@List.getElem?_zipWith
abbrev wh:=@List.getElem_drop
abbrev qh:=@List.getElem_mem
abbrev qJ:=@List.getElem_of_mem
abbrev qy:=@List.length_append
abbrev ze:=@List.length_drop
abbrev qA:=@List.length_map
abbrev wO:=@List.length_mergeSort
abbrev zx:=@List.length_range
abbrev zA:=@List.length_set
abbrev zb:=@List.length_take
abbrev qD:=@List.mem_append
abbrev qI:=@List.mem_filter
abbrev zD:=@List.mem_flatMap
abbrev qt:=@List.mem_map
abbrev zS:=@List.mem_of_mem_take
abbrev qE:=@List.mem_range
abbrev yf:=@List.mergeSort_perm
abbrev z6:=@List.nil_append
abbrev wZ:=@List.pairwise_append
abbrev zC:=@List.pairwise_cons
abbrev zm:=@List.pairwise_iff_getElem
abbrev yq:=@List.pairwise_mergeSort
abbrev yN:=@List.range_eq_range'
abbrev zQ:=@List.range_succ
abbrev yO:=@List.set_set
abbrev yb:=@List.size_toArray
abbrev qK:=@List.take_append_drop
abbrev qW:=@List.take_length
abbrev qi:=@List.take_of_length_le
abbrev zH:=@List.take_succ_eq_append_getElem
abbrev yz:=@List.zipWith_append
abbrev ya:=@Bool.not_false
abbrev zJ:=@Bool.true_and
abbrev wW:=@Int.emod_lt_of_pos
abbrev yK:=@Int.emod_nonneg
abbrev vw:=@Int.tmod_lt_of_pos
abbrev qm:=@Int.toNat_natCast
abbrev yy:=@UInt8.toNat_inj
abbrev zW:=@UInt8.xor_zero
abbrev wq:=@UInt8.zero_xor
abbrev wY:=@BitVec.ofInt_natCast
abbrev wi:=@List.any_eq_false
abbrev zV:=@List.any_eq_true
abbrev zU:=@List.filter_eq_self
abbrev wK:=@List.findIdx_lt_length
abbrev wU:=@List.getElem_append_left
abbrev qR:=@List.length_filter_le
abbrev wD:=@List.map_map
abbrev zn:=@List.mem_append_left
abbrev wX:=@List.mem_replicate
abbrev yg:=@List.nodup_cons
abbrev wL:=@Bool.not_eq_true'
abbrev w6:=@Bool.not_true
abbrev vj:=@UInt8.xor_comm
abbrev yn:=@Int.mul_le_mul
abbrev vD:=@Int.mul_nonneg
abbrev wu:=@Int.natCast_mul
abbrev yG:=@Int.tmod_eq_emod_of_nonneg
abbrev yL:=@List.all_append
abbrev yp:=@List.all_eq_false
abbrev yM:=@List.any_append
abbrev va:=@List.filter_nil
abbrev zZ:=@List.flatMap_nil
abbrev zu:=@List.getElem?_range
abbrev wg:=@List.getElem?_replicate
abbrev yd:=@List.getElem_take
abbrev y0:=@List.getElem_zip
abbrev yh:=@List.length_nil
abbrev qU:=@List.map_append
abbrev vz:=@List.map_mergeSort
abbrev yF:=@List.mem_mergeSort
abbrev ye:=@List.replicate_succ
abbrev qZ:=@List.set_append_right
abbrev zP:=@List.set_cons_succ
abbrev zw:=@List.set_cons_zero
abbrev wF:=@Nat.mul_one
abbrev zE:=@Nat.zero_le
abbrev vp:=@Bool.false_or
abbrev y5:=@Prod.ext
abbrev zX:=@Int.natCast_nonneg
abbrev yS:=@Int.ofNat_le
abbrev vP:=@List.count_cons
abbrev wx:=@List.getElem_map
abbrev w7:=@List.map_cons
abbrev vF:=@List.map_nil
abbrev yQ:=@List.pairwise_map
abbrev wm:=@List.getElem_append_right
abbrev yH:=@List.mem_iff_getElem?
abbrev vb:=@Bool.eq_iff_iff
abbrev wP:=@List.length_replicate
