/- Lemmas for the proof of the law; no condition. -/
import Derived.Calls
import Derived.Orders
import Derived.Scope
import Derived.KernelRfl
import Derived.Laws.Sem
import Derived.OrdersHeld
set_option linter.unusedVariables false
set_option linter.unusedSimpArgs false
open Nat renaming beq -> wG, ble -> xm, blt -> vT, eq_of_beq_eq_true -> zM, le_of_ble_eq_true -> zL, le_refl -> qm
open Bool renaming and_eq_true -> qB, false_eq_true -> zj, or_eq_false_iff -> yu, or_eq_true -> wu, or_false -> vU
open List renaming cons_append -> zx, getElem?_eq_some_iff -> qn, getElem?_map -> qU, length_cons -> zn, mem_append_right -> wV, mem_cons -> zb, mem_cons_of_mem -> qH, mem_cons_self -> qO, mem_singleton -> qC
open BitVec renaming ofInt -> qD
open Go.IntKind renaming i64 -> xx
open Go.Instr renaming build -> vW, fill -> wC, loadAt -> xd, slice -> xo, sliceAt -> yp, sliceBound -> vQ, sliceBounds -> wE
open Option renaming map_eq_some_iff -> ve, map_some -> q7, some -> zR
open Array renaming ext' -> yE, mapM_eq_mapM_toList -> vu, replicate -> vA, toList_map -> vR
namespace Go.Vc
open Go
abbrev Heap:=Array Obj
def cellOf(h:Heap)(a:Addr):Option Value:=
 match h[a.block]? with
 |some (.cells c _ _)=>if a.spot.isSome then none else c[a.off]?
 |_=>none
def YC(h:Heap)(a:Addr):Bool:=
 match h[a.block]? with
 |some (.cells _ _ (lo,hi))=>lo<=a.off&&a.off<hi
 |_=>false
def YD(h:Heap)(a:Addr)(v:Value):Heap:=
 h.modify a.block λ
  | .cells c elem frozen=>.cells (if a.spot.isSome then c else c.setIfInBounds a.off v) elem frozen
  |o=>o
def shapeOf(h:Heap)(r:Nat):Option (TypeId×Nat):=match h[r]? with|some (.cells c elem _)=>some (elem,c.size)|_=>none
theorem aef(w:World)(r:Nat):w.shape? r=shapeOf w.heap r:=rfl
theorem OP(w:World)(a:Addr):w.cell? a=cellOf w.heap a:=rfl
theorem ahe(w:World)(a:Addr):w.frozen? a=YC w.heap a:=rfl
theorem ahf(w:World)(a:Addr)(v:Value):(w.setCell a v).heap=YD w.heap a v:=rfl
structure dC (w w':World):Prop where
 os:w'.os=w.os
 tape:w'.tape=w.tape
 output:w'.output=w.output
 drawn:w.drawn<=w'.drawn
theorem dC.refl(w:World):dC w w:=⟨rfl,rfl,rfl,qm _⟩
theorem dC.trans{a b c:World}(h:dC a b)(k:dC b c):dC a c:=⟨k.os.trans h.os,k.tape.trans h.tape,k.output.trans h.output,Nat.le_trans h.drawn k.drawn⟩
def ac(P:Program)(f:FuncId)(args:Array Value)(h:Heap)(R:Value->Heap->Prop):Prop:=
 ∀w,w.heap=h->Calls P f args w λe w'=>∃v,e=.returned v/\dC w w'/\R v w'.heap
theorem ac.mono{P:Program}{f:FuncId}{args:Array Value}{h:Heap}{R a:Value->Heap->Prop}(g:ac P f args h R)
  (c:∀v h',R v h'->a v h'):ac P f args h a:=λw b=>
 (g w b).mono λ_ _ ⟨v,e,d,r⟩=>⟨v,e,d,c _ _ r⟩
def ag{α:Type}(P:Program)(s:Sem α)(h:Heap)(K:α->Heap->Prop):Prop:=
 ∀w,w.heap=h->∃v w',s.run P w=.ok v w'/\dC w w'/\K v w'.heap
section
variable {α β:Type} {P:Program} {h:Heap}
theorem ag.pure'{K:α->Heap->Prop}{a:α}(c:K a h):ag P (Pure.pure a) h K:=λw b=>⟨a,w,rfl,dC.refl w,by rw[b];exact c⟩
theorem ag.bind{s:Sem α}{f:α->Sem β}{K:β->Heap->Prop}(l:ag P s h λv h'=>ag P (f v) h' K):ag P (s>>=f) h K:=by intro w e;obtain⟨v,w',g,k,j⟩:=l w e;obtain⟨i,b,a,c,d⟩:=j w' rfl;exact⟨i,b,by rw[Sem.run_bind,g];exact a,k.trans c,d⟩
theorem ag.mono{s:Sem α}{K d:α->Heap->Prop}(g:ag P s h K)(f:∀v h',K v h'->d v h'):ag P s h d:=λw e=>
 let⟨v,w',a,b,c⟩:=g w e;⟨v,w',a,b,f _ _ c⟩
theorem ag.aeg{K:Program->Heap->Prop}(b:K P h):ag P program h K:=λw a=>⟨P,w,rfl,dC.refl w,by rw[a];exact b⟩
theorem ag.aip{a:Addr}{v v0:Value}{m:Mode}{K:Unit->Heap->Prop}(e:v.oneCell'=true)(f:cellOf h a=some v0)(d:YC h a=false)(c:K () (YD h a v)):
  ag P (store a v m) h K:=λw b=>
 ⟨(),w.setCell a v,by rw[run_store _ _ _ _ _ e,OP,b,f];simp[ahe,b,d],⟨rfl,rfl,rfl,qm _⟩,by rw[ahf,b];exact c⟩
theorem ag.sQ{o:Obj}{K:Nat->Heap->Prop}(b:K h.size (h.push o)):ag P (newObj o) h K:=λw a=>
 ⟨w.heap.size,_,run_newObj P w o,⟨rfl,rfl,rfl,qm _⟩,by simp only[a];exact b⟩
theorem ag.KZ{n:Nat}{K:Unit->Heap->Prop}(b:K () h):ag P (askRoom n) h K:=λw a=>⟨(),w,run_askRoom P w n,dC.refl w,by rw[a];exact b⟩
theorem ag.OQ{q:Question}{K:Nat->Heap->Prop}(b:(q.forced=true->K 0 h)/\(q.forced=false->∀n,K (q.cut n) h)):ag P (choose q) h K:=by
 intro w a;cases hq:q.forced with
 |true=>exact⟨0,w,by rw[run_choose,hq];rfl,dC.refl w,by rw[a];exact b.1 hq⟩
 |false=>exact⟨q.cut (w.tape w.drawn q),{w with drawn:=w.drawn+1},by rw[run_choose,hq];rfl,⟨rfl,rfl,rfl,Nat.le_succ _⟩,by show K _ w.heap;rw[a];exact b.2 hq _⟩
theorem ag.aiq{r:Nat}{K:Option (TypeId×Nat)->Heap->Prop}(b:K (shapeOf h r) h):ag P (shape r) h K:=λw a=>
 ⟨_,w,run_shape P w r,dC.refl w,by rw[a,aef,a];exact b⟩
end
def Dp(P:Program)(s:Sem Next)(h:Heap)(K:Value->Heap->Prop):Prop:=
 ag P s h λa h'=>match a with
  | .value v=>K v h'
  | .skip=>K undef h'
  | .enter f args=>ac P f args h' K
  |_=>False
theorem ajT{P:Program}{o:Oper}{a:Act}{w:World}{K:Value->Heap->Prop}{Q:Exit->Act->World->Prop}
  (i:Dp P (execOp a.eval o) w.heap K) {next:Act->World->Prop}
  (d:∀v w',dC w w'->K v w'.heap->next (a.put o.dst v) w'):o.wp P a w next Q:=by
 obtain⟨j,w',h,g,b⟩:=i w rfl;unfold Oper.wp;rw[h];cases j<;>simp only at b<;>simp only[Oper.upon]
 case value v=>exact d _ _ g b
 case skip=>exact d _ _ g b
 case enter f args=>
  refine(b w' rfl).mono ?_;rintro e k ⟨v,rfl,c,r⟩;exact d _ _ (g.trans c) r
structure Sl where
 ptr:Option Addr
 len:Nat
 cap:Nat
 deriving Inhabited
inductive Sc where
 |int (k:IntKind)|bool|str|ptr|slc|flt (k:FloatKind)|cpx (k:FloatKind)|mp|fn|any|adr
@[reducible] def Sc.den:Sc->Type
 | .int _=>Int
 | .bool=>Bool
 | .str=>ByteArray
 | .ptr=>Option Addr
 | .slc=>Sl
 | .flt _=>Nat
 | .cpx _=>Nat×Nat
 | .mp=>Option Nat
 | .fn=>FuncId×Array Value×Array Value
 | .any=>Value
 | .adr=>Addr
@[reducible] def Sc.enc:(s:Sc)->s.den->Value
 | .int k,n=>.int k n
 | .bool,x=>.bool x
 | .str,x=>.string x
 | .ptr,a=>.pointer a
 | .slc,x=>.slice x.ptr x.len x.cap
 | .flt k,n=>.float k n
 | .cpx k,x=>.complex k x.1 x.2
 | .mp,r=>.map r
 | .fn,x=>.func (.func x.1) x.2.1 x.2.2
 | .any,v=>v
 | .adr,a=>.pointer (some a)
def Dq:IntKind->IntKind->Bool
 | .i8,.i8| .i16,.i16| .i32,.i32| .i64,.i64| .u8,.u8| .u16,.u16| .u32,.u32| .u64,.u64=>true
 |_,_=>false
theorem Kk:∀{a b:IntKind},Dq a b=true->a=b:=by intro a b;cases a<;>cases b<;>simp[Dq]
def GS:FloatKind->FloatKind->Bool
 | .f32,.f32| .f64,.f64=>true
 |_,_=>false
theorem GU:∀{a b:FloatKind},GS a b=true->a=b:=by intro a b;cases a<;>cases b<;>simp[GS]
def Sc.dec:(s:Sc)->Value->Option s.den
 | .int k,.int k' n=>bif Dq k k' then some n else none
 | .bool,.bool x=>some x
 | .str,.string x=>some x
 | .ptr,.pointer a=>some a
 | .slc,.slice a l c=>some ⟨a,l,c⟩
 | .flt k,.float k' n=>bif GS k k' then some n else none
 | .cpx k,.complex k' a b=>bif GS k k' then some (a,b)else none
 | .mp,.map r=>some r
 | .fn,.func (.func g) f c=>some (g,f,c)
 | .any,v=>some v
 | .adr,.pointer (some a)=>some a
 |_,_=>none
theorem Sc.sS{s:Sc}{v:Value}{x:s.den}(h:s.dec v=some x):v=s.enc x:=by
 cases s<;>cases v<;>simp only[Sc.dec]at h<;>try(first|(cases h;done)|(cases h;rfl))
 case int.int k k' n=>
  cases hk:Dq k k'<;>simp[hk]at h;have:=Kk hk;subst this;subst h;rfl
 case flt.float k k' n=>
  cases hk:GS k k'<;>simp[hk]at h;have:=GU hk;subst this;subst h;rfl
 case cpx.complex k k' a b=>
  cases hk:GS k k'<;>simp[hk]at h;have:=GU hk;subst this;subst h;rfl
 case fn.func g f c=>
  cases g<;>first|(cases h;done)|skip
  obtain⟨l⟩:=f;cases l<;>first|(cases h;done)|(cases h;rfl)
 case adr.pointer a=>
  cases a<;>first|(cases h;done)|(cases h;rfl)
@[reducible] def OR:List Sc->Type
 |[]=>Unit
 |[s]=>s.den
 |s::t::r=>s.den×OR (t::r)
@[reducible] def CC:(l:List Sc)->OR l->List Value
 |[],_=>[]
 |[s],x=>[s.enc x]
 |s::t::r,x=>s.enc x.1::CC (t::r) x.2
def YE:(l:List Sc)->List Value->Option (OR l)
 |[],[]=>some ()
 |[s],[v]=>s.dec v
 |s::t::r,v::vs=>match s.dec v with
  |some x=>match YE (t::r) vs with
   |some y=>some (x,y)
   |none=>none
  |none=>none
 |_,_=>none
theorem aaX:∀{l:List Sc} {vs:List Value} {x:OR l},YE l vs=some x->vs=CC l x:=by
 intro l vs
 fun_induction YE l vs with
 |case1=>intro x _;rfl
 |case2 s v=>intro x h;simp only[CC];rw[Sc.sS h]
 |case3 s t r v vs x hx y hy ih=>intro z h;cases h;simp only[CC];rw[Sc.sS hx,ih hy]
 |case4=>intro x h;cases h
 |case5=>intro x h;cases h
 |case6=>intro x h;cases h
inductive Ty where
 |sc (s:Sc)
 |agg (l:List Sc)
 |arr (s:Sc)
@[reducible] def Ty.den:Ty->Type
 | .sc s=>s.den
 | .agg l=>OR l
 | .arr s=>List s.den
@[reducible] def Ty.enc:(t:Ty)->t.den->Value
 | .sc s,x=>s.enc x
 | .agg l,x=>.agg (CC l x).toArray
 | .arr s,x=>.agg (x.map s.enc).toArray
def Ty.dec:(t:Ty)->Value->Option t.den
 | .sc s,v=>s.dec v
 | .agg l,.agg ⟨cs⟩=>YE l cs
 |_,_=>none
theorem Ty.sS{t:Ty}{v:Value}{x:t.den}(h:t.dec v=some x):v=t.enc x:=by
 unfold Ty.dec at h;split at h
 ·exact Sc.sS h
 ·have:=aaX h;subst this;rfl
 ·cases h
@[reducible] def YF:List Ty->Type
 |[]=>Unit
 |[s]=>s.den
 |s::t::r=>s.den×YF (t::r)
@[reducible] def agi:(l:List Ty)->YF l->List Value
 |[],_=>[]
 |[s],x=>[s.enc x]
 |s::t::r,x=>s.enc x.1::agi (t::r) x.2
inductive Rt where
 |one (t:Ty)
 |many (l:List Ty)
@[reducible] def Rt.den:Rt->Type
 | .one t=>t.den
 | .many l=>YF l
@[reducible] def Rt.enc:(r:Rt)->r.den->Value
 | .one t,x=>t.enc x
 | .many l,x=>.tuple (agi l x).toArray
inductive cw where
 |val (t:Nat) (x:Value)
 |kil (lo hi:Nat)
abbrev Env:=List cw
def cw.fa:cw->Nat->Bool
 | .val s _,t=>wG s t
 | .kil lo hi,t=>xm lo t&&vT t hi
def Env.get:Env->Nat->Option Value
 |[],_=>none
 | .val s x::r,t=>bif wG s t then some x else Env.get r t
 | .kil lo hi::r,t=>bif xm lo t&&vT t hi then none else Env.get r t
def Env.fa:Env->Nat->Bool
 |[],_=>false
 |e::r,t=>e.fa t||Env.fa r t
theorem Env.aeh(e:cw)(r:Env)(t:Nat)(h:e.fa t=false):Env.get (e::r) t=Env.get r t:=by
 cases e<;>simp only[cw.fa]at h<;>simp[Env.get,h]
theorem Env.get_append{δ ρ:Env}{t:Nat}(h:δ.fa t=false):Env.get (δ++ρ) t=Env.get ρ t:=by
 induction δ with
 |nil=>rfl
 |cons e r ih=>
  simp only[Env.fa,yu]at h;rw[zx,Env.aeh _ _ _ h.1,ih h.2]
theorem Env.CD{δ ρ:Env}{t:Nat}:Env.fa (δ++ρ) t=(δ.fa t||ρ.fa t):=by
 induction δ with
 |nil=>simp[Env.fa]
 |cons e r ih=>simp[Env.fa,ih,Bool.or_assoc]
structure Fits (n:Nat) (a:Act) (ρ:Env):Prop where
 size:a.tmps.size=n
 defers:a.defers=[]
 get:∀t x,ρ.get t=some x->a.tmps[t]?=some x
def Ext(ρ b:Env)(a c:Act):Prop:=∃δ:Env,b=δ++ρ/\∀t,δ.fa t=false->c.tmps[t]?=a.tmps[t]?
theorem Ext.refl(ρ:Env)(a:Act):Ext ρ ρ a a:=⟨[],rfl,λ_ _=>rfl⟩
theorem Ext.trans{ρ e b:Env}{a f c:Act}(h:Ext ρ e a f)(k:Ext e b f c):Ext ρ b a c:=by obtain⟨δ,rfl,h⟩:=h;obtain⟨g,rfl,k⟩:=k;refine⟨g++δ,by simp,λt d=>?_⟩;rw[Env.CD,yu]at d;rw[k t d.1,h t d.2]
def Env.eval(ρ:Env):Operand->Option Value
 | .tmp t=>ρ.get t
 | .const v=>some v
 | .global g=>some (.pointer (some ⟨g,0,none⟩))
 | .func f=>some (.func (.func f) #[] #[])
theorem Fits.eval{n:Nat}{a:Act}{ρ:Env}(h:Fits n a ρ){x:Operand}{v:Value}(b:ρ.eval x=some v):a.eval x=v:=by
 cases x<;>simp only[Env.eval]at b<;>simp only[Act.eval]
 case tmp t=>have:=h.get t v b;simp[Array.getD_eq_getD_getElem?,this]
 all_goals (injection b)
theorem Fits.put{n:Nat}{a:Act}{ρ:Env}(h:Fits n a ρ){d:Nat}(f:vT d n=true)(v:Value):Fits n (a.put (some d) v) (.val d v::ρ):=by
 have c:d<n:=zL f;refine⟨by simp[Act.put,h.size],h.defers,λt x b=>?_⟩;simp only[Env.get]at b;simp only[Act.put,Array.getElem?_setIfInBounds];cases hb:wG d t with
 |true=>
  rw[hb]at b;have:d=t:=zM hb;subst this;simp at b;simp[h.size,c,b]
 |false=>
  rw[hb]at b;have:d≠t:=λe=>by subst e;simp at hb
  simp only[this,if_false];exact h.get t x b
theorem Ext.put{ρ:Env}{a:Act}{d:Nat}(v u:Value):Ext ρ (.val d u::ρ) a (a.put (some d) v):=by
 refine⟨[.val d u],rfl,λt b=>?_⟩;simp only[Env.fa,cw.fa,vU]at b;have:d≠t:=λe=>by subst e;simp at b
 simp[Act.put,this]
abbrev dX:=List (Nat×Ty)
@[reducible] def dX.den:dX->Type
 |[]=>Unit
 |[s]=>s.2.den
 |s::t::r=>s.2.den×dX.den (t::r)
def dX.vals:(σ:dX)->σ.den->Env->Env
 |[],_,ρ=>ρ
 |[s],x,ρ=>.val s.1 (s.2.enc x)::ρ
 |s::t::r,x,ρ=>.val s.1 (s.2.enc x.1)::dX.vals (t::r) x.2 ρ
def dX.read:(σ:dX)->Env->Option σ.den
 |[],_=>some ()
 |[s],ρ=>match ρ.get s.1 with
  |some v=>s.2.dec v
  |none=>none
 |s::t::r,ρ=>match ρ.get s.1 with
  |some v=>match s.2.dec v with
   |some x=>match dX.read (t::r) ρ with
    |some y=>some (x,y)
    |none=>none
   |none=>none
  |none=>none
def dX.has:dX->Nat->Bool
 |[],_=>false
 |s::r,t=>wG s.1 t||dX.has r t
abbrev dm:=List (Nat×Nat)
def dm.over:dm->Env->Env
 |[],ρ=>ρ
 |(lo,hi)::r,ρ=>.kil lo hi::dm.over r ρ
def dm.has:dm->Nat->Nat->Bool
 |[],_,_=>false
 |(lo,hi)::r,a,b=>(xm lo a&&xm b hi)||dm.has r a b
def within(σ:dX)(κ:dm):Env->Nat->Bool
 |_,0=>true
 |[],_+1=>true
 | .val t _::r,n+1=>(dX.has σ t||dm.has κ t (t+1))&&within σ κ r n
 | .kil lo hi::r,n+1=>dm.has κ lo hi&&within σ κ r n
theorem dm.aei{κ:dm}{a b:Nat}(h:κ.has a b=true){t:Nat}(f:a<=t)(e:t<b)(ρ:Env):∃δ:Env,κ.over ρ=δ++ρ/\δ.fa t=true:=by
 induction κ with
 |nil=>simp[dm.has]at h
 |cons p r ih=>
  obtain⟨d,c⟩:=p;simp only[dm.has,wu,qB]at h;obtain⟨δ,j⟩:∃δ:Env,dm.over r ρ=δ++ρ:=by
   clear ih h
   induction r with
   |nil=>exact⟨[],rfl⟩
   |cons q r ih=>obtain⟨δ,h⟩:=ih;exact⟨.kil q.1 q.2::δ,by show cw.kil q.1 q.2::dm.over r ρ=_;rw[h];rfl⟩
  rcases h with h|h
  ·have k:=zL h.1;have l:=zL h.2;refine⟨.kil d c::δ,by simp[dm.over,j],?_⟩;have i:xm d t=true:=Nat.ble_eq_true_of_le (by omega);have x2:vT t c=true:=by unfold vT;exact Nat.ble_eq_true_of_le (by omega)
   simp[Env.fa,cw.fa,i,x2]
  ·obtain⟨g,f,e⟩:=ih h;exact⟨.kil d c::g,by simp[dm.over,f],by simp[Env.fa,e]⟩
theorem dm.SO(κ:dm)(ρ:Env):κ.over ρ=κ.over []++ρ:=by
 induction κ with
 |nil=>rfl
 |cons p r ih=>obtain⟨b,a⟩:=p;simp[dm.over,ih]
theorem dX.La:∀(σ:dX) (x:σ.den) (ρ:Env),σ.vals x ρ=σ.vals x []++ρ
 |[],_,ρ=>rfl
 |[s],x,ρ=>rfl
 |s::t::r,x,ρ=>by simp only[dX.vals];rw[dX.La (t::r) x.2 ρ];rfl
theorem dX.BJ:∀(σ:dX) (x:σ.den) (t:Nat),(σ.vals x []).fa t=σ.has t
 |[],_,_=>rfl
 |[s],x,t=>by simp[dX.vals,Env.fa,cw.fa,dX.has]
 |s::u::r,x,t=>by
  have:=dX.BJ (u::r) x.2 t;simp only[dX.vals,Env.fa,cw.fa,this];rfl
theorem dX.SP:∀(σ:dX) (x:σ.den) (e:Env) (t:Nat),σ.has t=true->((σ.vals x [])++e).get t=(σ.vals x []).get t
 |[],_,_,_,h=>by cases h
 |[s],x,e,t,h=>by
  simp only[dX.has,vU]at h;simp[dX.vals,Env.get,h]
 |s::u::r,x,e,t,h=>by
  simp only[dX.vals,zx,Env.get];cases hb:wG s.1 t with
  |true=>rfl
  |false=>
   have h':dX.has (u::r) t=true:=by have a:(wG s.1 t||dX.has (u::r) t)=true:=h;rw[hb]at a;exact a
   simpa using dX.SP (u::r) x.2 e t h'
theorem dm.Qn{κ:dm}{a b t:Nat}(h:κ.has a b=true)(f:a<=t)(c:t<b):(κ.over []).fa t=true:=by obtain⟨δ,e,d⟩:=dm.aei h f c [];rw[e];simpa using d
theorem ci{σ:dX}{κ:dm}:∀{δ ρ:Env},within σ κ (δ++ρ) δ.length=true->∀t,σ.has t=false->(κ.over []).fa t=false->δ.fa t=false
 |[],_,_,_,_,_=>rfl
 | .val s x::r,ρ,h,t,h1,h2=>by
  simp only[zx,zn,within,qB,wu]at h;simp only[Env.fa,cw.fa,yu];refine⟨?_,ci h.2 t h1 h2⟩;cases hb:wG s t with
  |false=>rfl
  |true=>
   have:s=t:=zM hb;subst this;rcases h.1 with h|h
   ·rw[h]at h1;cases h1
   ·rw[dm.Qn h (qm _) (Nat.lt_succ_self _)]at h2;cases h2
 | .kil lo hi::r,ρ,h,t,h1,h2=>by
  simp only[zx,zn,within,qB]at h;simp only[Env.fa,cw.fa,yu];refine⟨?_,ci h.2 t h1 h2⟩;cases hb:(xm lo t&&vT t hi)with
  |false=>rfl
  |true=>
   simp only[qB]at hb;have a:=zL hb.1;have b:t<hi:=zL hb.2;rw[dm.Qn h.1 a b]at h2;cases h2
theorem dX.SQ:∀{σ:dX} {ρ:Env} {x:σ.den} {t:Nat} {v:Value},σ.read ρ=some x->(σ.vals x []).get t=some v->ρ.get t=some v∨False
 |[],_,_,_,_,_,h=>by simp[dX.vals,Env.get]at h
 |[s],ρ,x,t,v,h,hv=>by
  simp only[dX.read]at h;split at h
  ·rename_i u c;simp only[dX.vals,Env.get]at hv;cases hb:wG s.1 t with
   |true=>
    rw[hb]at hv;have:=zM hb;simp at hv;subst hv;rw[<-Ty.sS h,<-this];exact .inl c
   |false=>rw[hb]at hv;simp at hv
  ·cases h
 |s::u::r,ρ,x,t,v,h,hv=>by
  simp only[dX.read]at h;split at h
  ·rename_i z d;split at h
   ·rename_i y a;split at h
    ·rename_i w b;cases h;simp only[dX.vals,Env.get]at hv;cases hb:wG s.1 t with
     |true=>
      rw[hb]at hv;have:=zM hb;simp at hv;subst hv;rw[<-Ty.sS a,<-this];exact .inl d
     |false=>
      rw[hb]at hv;exact dX.SQ (σ:=u::r) b hv
    ·cases h
   ·cases h
  ·cases h
theorem Fits.sT{n:Nat}{a d:Act}{σ:dX}{κ:dm}{ρ g:Env}{x:σ.den}(k:Fits n a ρ)(h:Fits n d g)
  (b:∀t,σ.has t=false->(κ.over []).fa t=false->d.tmps[t]?=a.tmps[t]?) (j:σ.read g=some x):
  Fits n d (σ.vals x (κ.over ρ))/\Ext ρ (σ.vals x (κ.over ρ)) a d:=by
 rw[dX.La,dm.SO];refine⟨⟨h.size,h.defers,λt v c=>?_⟩,⟨σ.vals x []++κ.over [],by simp,λt f=>?_⟩⟩
 ·cases h1:σ.has t with
  |true=>
   have:∀(e:Env),((σ.vals x [])++e).get t=(σ.vals x []).get t:=λe=>dX.SP σ x e t h1;rw[this]at c;rcases dX.SQ j c with h2|h2
   ·exact h.get t v h2
   ·exact h2.elim
  |false=>
   rw[Env.get_append (by rw[dX.BJ];exact h1)]at c;cases h2:(κ.over []).fa t with
   |true=>
    have:∀(e:Env),((κ.over [])++e).get t=none:=by
     intro e;clear b c
     induction κ with
     |nil=>simp[dm.over,Env.fa]at h2
     |cons p r ih=>
      obtain⟨l,i⟩:=p;simp only[dm.over,Env.fa,cw.fa]at h2;simp only[dm.over,zx,Env.get];cases hb:(xm l t&&vT t i)with
      |true=>rfl
      |false=>rw[hb]at h2;simp at h2;simpa using ih h2
    rw[this]at c;cases c
   |false=>
    rw[Env.get_append h2]at c;rw[b t h1 h2];exact k.get t v c
 ·rw[Env.CD,yu,dX.BJ]at f;exact b t f.1 f.2
theorem Ext.within{a e:Act}{σ:dX}{κ:dm}{ρ c:Env}(g:Ext ρ c a e)(d:within σ κ c (c.length-ρ.length)=true):
  ∀t,σ.has t=false->(κ.over []).fa t=false->e.tmps[t]?=a.tmps[t]?:=by
 obtain⟨δ,rfl,h⟩:=g;have b:(δ++ρ).length-ρ.length=δ.length:=by simp
 rw[b]at d;exactλt i f=>h t (ci d t i f)
theorem Ext.sT{a b:Act}{σ:dX}{κ:dm}{ρ:Env}{x:σ.den}(e:Ext ρ (σ.vals x (κ.over ρ)) a b):
  ∀t,σ.has t=false->(κ.over []).fa t=false->b.tmps[t]?=a.tmps[t]?:=by
 obtain⟨δ,c,f⟩:=e;rw[dX.La,dm.SO,<-List.append_assoc]at c;have:=List.append_cancel_right c;subst this;exactλt g d=>f t (by rw[Env.CD,dX.BJ,g,d];rfl)
inductive FM where
 |int (k:IntKind)|bool|str|flt|cpx|mp|fn|other
 |slice (e:TypeId)|array (n:Nat) (e:TypeId)|struct (fs:List (Nat×TypeId))|ptr (e:TypeId)
def jo:Option TypeDesc->FM
 |some (.int k)=>.int k
 |some .bool=>.bool
 |some .string=>.str
 |some (.float _)=>.flt
 |some (.complex _)=>.cpx
 |some (.map ..)=>.mp
 |some (.func ..)=>.fn
 |some (.slice e)=>.slice e
 |some (.array n e)=>.array n e
 |some (.struct fs)=>.struct (fs.toList.map λf=>(f.offset,f.type))
 |some (.pointer e)=>.ptr e
 |_=>.other
structure TI where
 cX:FM
 ty:Ty
 size:Nat
 bytes:Nat
 zero:List Value
abbrev kM:=List TI
def kM.seen(P:Program)(t:TypeId):FM×Option (Nat×Nat×Option (List Value)):=
 (jo (P.underlying t),(P.info? t).map λi=>(i.size,i.bytes,i.zero.map (·.cells.toList)))
def kM.told(i:TI):FM×Option (Nat×Nat×Option (List Value)):=(i.cX,some (i.size,i.bytes,some i.zero))
def kM.get:kM->Nat->Option TI
 |[],_=>none
 |i::_,0=>some i
 |_::r,t+1=>kM.get r t
structure Dr where
 P:Program
 T:kM
structure Dr.Ok (C:Dr):Prop where
 tbl:(List.range C.T.length).map (kM.seen C.P)=C.T.map kM.told
 mixed:C.P.follows .mixedOrders=true
theorem kM.get_eq:∀(T:kM) (t:Nat),T.get t=T[t]?
 |[],_=>rfl
 |_::_,0=>rfl
 |_::r,t+1=>by simp[kM.get,kM.get_eq r t]
theorem Dr.Ok.at{C:Dr}(h:C.Ok){t:Nat}{i:TI}(b:C.T.get t=some i):kM.seen C.P t=kM.told i:=by rw[kM.get_eq]at b;have a:t<C.T.length:=(qn.1 b).1;have:=congrArg (·[t]?) h.tbl;simp[a]at this;rw[this,(qn.1 b).2]
def Br(b:Bool)(A B:Prop):Prop:=match b with
 |true=>A
 |false=>B
inductive PV:Type 1 where
 |no
 |val (v:Value)
 |cond (c:Prop) (v:Value)
 |ex (X:Type) (c:X->Prop) (v:X->Value)
 |br (b:Bool) (x y:Value)
def PV.holds(p:PV)(K:Value->Prop):Prop:=match p with
 | .no=>False
 | .val v=>K v
 | .cond c v=>c/\K v
 | .ex _ c v=>∃x,c x/\K (v x)
 | .br b x y=>Br b (K x) (K y)
def ue(P:Program)(s:Sem Next)(v:Value):Prop:=∀w,s.run P w=.ok (.value v) w
def aP{α:Type}(P:Program)(s:Sem α)(v:α):Prop:=∀w,s.run P w=.ok v w
def kN(P:Program)(op:BinOp)(t:TypeId)(x y:Operand)(a b r:Value):Prop:=aP P (do eqGuard op t x y a b;binOp op t a b) r
def agj:Operand->Bool
 | .tmp _=>true
 |_=>false
def aej(P:Program)(t:TypeId)(x y:Operand)(d:Option FM)(op:BinOp):Value->Value->PV
 | .int k a,.int k' b=>
  match op with
  | .shl=>.cond (0<=b) (.int k (k.wrap (a*2^min b.toNat k.bits)))
  | .shr=>.cond (0<=b) (.int k (a.fdiv (2^min b.toNat k.bits)))
  |_=>bif Dq k k' then
   match op with
   | .add=>.val (.int k (k.wrap (a+b)))
   | .sub=>.val (.int k (k.wrap (a-b)))
   | .mul=>.val (.int k (k.wrap (a*b)))
   | .quo=>.cond (b≠0) (.int k (k.wrap (a.tdiv b)))
   | .rem=>.cond (b≠0) (.int k (a.tmod b))
   | .and=>.val (.int k (k.wrap (qD k.bits a&&&qD k.bits b).toNat))
   | .or=>.val (.int k (k.wrap (qD k.bits a|||qD k.bits b).toNat))
   | .xor=>.val (.int k (k.wrap (qD k.bits a^^^qD k.bits b).toNat))
   | .andNot=>.val (.int k (k.wrap (qD k.bits a&&&~~~qD k.bits b).toNat))
   | .eql=>.val (.bool (a==b))
   | .neq=>.val (.bool (a !=b))
   | .lss=>.val (.bool (decide (a<b)))
   | .leq=>.val (.bool (decide (a<=b)))
   | .gtr=>.val (.bool (decide (a>b)))
   | .geq=>.val (.bool (decide (a>=b)))
   |_=>.no
  else .no
 | .float k a,.float k' b=>bif GS k k' then
   match op with
   | .add=>.ex Nat (λr=>k.format.add a b=some r) (λr=>.float k r)
   | .sub=>.ex Nat (λr=>k.format.sub a b=some r) (λr=>.float k r)
   | .mul=>.ex Nat (λr=>k.format.mul a b=some r) (λr=>.float k r)
   | .quo=>.ex Nat (λr=>k.format.div a b=some r) (λr=>.float k r)
   | .eql=>.val (.bool (k.format.order a b==some .eq))
   | .neq=>.val (.bool (k.format.order a b !=some .eq))
   | .lss=>.val (.bool (k.format.order a b==some .lt))
   | .gtr=>.val (.bool (k.format.order a b==some .gt))
   |_=>.no
  else .no
 | .string a,.string b=>
  match op with
  | .eql=>.val (.bool (a.toList==b.toList))
  | .neq=>.val (.bool (!(a.toList==b.toList)))
  | .lss=>.val (.bool (Op.bytesLess a.toList b.toList))
  | .leq=>.val (.bool (Op.bytesLess a.toList b.toList||a.toList==b.toList))
  | .gtr=>.val (.bool (!(Op.bytesLess a.toList b.toList||a.toList==b.toList)))
  | .geq=>.val (.bool (!(Op.bytesLess a.toList b.toList)))
  | .add=>.cond (((a.size+b.size:Nat):Int)<=xx.max) (.string (a++b))
  |_=>.no
 | .bool a,.bool b=>
  match d with
  |some .bool=>match op with
   | .eql=>.val (.bool (a==b))
   | .neq=>.val (.bool (!(a==b)))
   |_=>.no
  |_=>.no
 | .pointer a,.pointer b=>bif agj y then .ex Bool (λr=>kN P op t x y (.pointer a) (.pointer b) (.bool r)) (λr=>.bool r)else
  match b with
  |none=>match d with
   |some (.ptr _)=>match op with
    | .eql=>.val (.bool a.isNone)
    | .neq=>.val (.bool (!a.isNone))
    |_=>.no
   |_=>.no
  |some _=>.no
 | .slice a _ _,.slice none _ _=>
  match d with
  |some (.slice _)=>match op with
   | .eql=>.val (.bool a.isNone)
   | .neq=>.val (.bool (!a.isNone))
   |_=>.no
  |_=>.no
 | .agg a,.agg b=>.ex Bool (λr=>kN P op t x y (.agg a) (.agg b) (.bool r)) (λr=>.bool r)
 | .complex k a b,.complex k' c e=>
  match op with
  | .eql| .neq=>.ex Bool (λr=>kN P op t x y (.complex k a b) (.complex k' c e) (.bool r)) (λr=>.bool r)
  |_=>.ex (Nat×Nat) (λr=>kN P op t x y (.complex k a b) (.complex k' c e) (.complex k r.1 r.2)) (λr=>.complex k r.1 r.2)
 |_,_=>.no
def aek(P:Program)(t:TypeId)(x y:Operand)(d:Option FM)(op:BinOp)(a:Value):Value->PV
 | .nilIface=>.ex Bool (λr=>kN P op t x y a .nilIface (.bool r)) (λr=>.bool r)
 |b=>aej P t x y d op a b
def unV(op:UnOp):Value->PV
 | .bool b=>match op with
  | .not=>.val (.bool !b)
  |_=>.no
 | .int k n=>match op with
  | .neg=>.val (.int k (k.wrap (0-n)))
  | .xor=>.val (.int k (k.wrap (qD k.bits (if k.signed then-1 else k.max)^^^qD k.bits n).toNat))
  |_=>.no
 |_=>.no
def sw(ev:Operand->Option Value):List Operand->Option (List Value)
 |[]=>some []
 |x::r=>match ev x with
  |some v=>match sw ev r with
   |some vs=>some (v::vs)
   |none=>none
  |none=>none
def GV(ev:Operand->Option Value):List (Nat×Operand)->Option (List (Nat×Value))
 |[]=>some []
 |(n,x)::r=>match ev x with
  |some v=>match GV ev r with
   |some vs=>some ((n,v)::vs)
   |none=>none
  |none=>none
def placesOf(T:kM):List (Nat×TypeId)->Option (List (Nat×Nat))
 |[]=>some []
 |(off,t)::r=>match T.get t with
  |some j=>match placesOf T r with
   |some ps=>some ((off,j.size)::ps)
   |none=>none
  |none=>none
def Mn(ev:Operand->Option Value):Option Operand->Option (Option Int)
 |none=>some none
 |some x=>match ev x with
  |some (.int _ n)=>some (some n)
  |_=>none
def air(d:Option FM):Value->PV
 | .slice _ n _=>match d with
  |some (.slice _)=>.val (.int .i64 n)
  |_=>.no
 | .string s=>match d with
  |some .str=>.val (.int .i64 s.size)
  |_=>.no
 |_=>.no
def ais(d:Option FM):Value->PV
 | .slice _ _ n=>match d with
  |some (.slice _)=>.val (.int .i64 n)
  |_=>.no
 |_=>.no
def agk(d:Option FM):Value->PV
 | .int _ n=>match d with
  |some (.int k)=>.val (.int k (k.wrap n))
  |_=>.no
 |_=>.no
def Ds(P:Program)(T:kM)(op:Op)(ev:Operand->Option Value):PV:=
 match op with
 | .move x| .assign x=>match ev x with
  |some v=>.val v
  |none=>.no
 | .pick c a b=>match ev c,ev a,ev b with
  |some (.bool t),some x,some y=>.br t x y
  |_,_,_=>.no
 | .nilCheck x=>match ev x with
  |some (.pointer p)=>.ex Addr (λa=>p=some a) (λa=>.pointer (some a))
  |_=>.no
 | .fieldAddr s x f=>match ev x with
  |some (.pointer (some a))=>match T.get s with
   |some i=>match i.cX with
    | .struct fs=>match fs[f]? with
     |some (off,t)=>match T.get t with
      |some j=>bif wG j.size 0 then .no else .val (.pointer (some (a.add off)))
      |none=>.no
     |none=>.no
    |_=>.no
   |none=>.no
  |_=>.no
 | .indexAddr t x ix=>match ev ix with
  |some (.int _ n)=>match ev x with
   |some (.slice p len _)=>match T.get t with
    |some i=>match i.cX with
     | .slice e=>match T.get e with
      |some j=>.ex Addr (λa=>p=some a/\0<=n/\n<(len:Int)) (λa=>.pointer (some (a.add (n.toNat*j.size))))
      |none=>.no
     |_=>.no
    |none=>.no
   |some (.pointer (some a))=>match T.get t with
    |some i=>match i.cX with
     | .array m e=>match T.get e with
      |some j=>.cond (0<=n/\n<(m:Int)) (.pointer (some (a.add (n.toNat*j.size))))
      |none=>.no
     |_=>.no
    |none=>.no
   |_=>.no
  |_=>.no
 | .index t x ix=>match ev ix with
  |some (.int _ n)=>match ev x with
   |some (.string s)=>match T.get t with
    |some i=>match i.cX with
     | .str=>.ex UInt8 (λb=>0<=n/\s.data[n.toNat]?=some b) (λb=>.int .u8 b.toNat)
     |_=>.no
    |none=>.no
   |some (.agg cs)=>match T.get t with
    |some i=>match i.cX with
     | .array m e=>match T.get e with
      |some j=>match j.ty with
       | .sc s=>match j.cX with
        | .struct _=>.no
        | .array _ _=>.no
        | .other=>.no
        |_=>bif wG j.size 1 then .ex s.den (λy=>0<=n/\n<(m:Int)/\cs[n.toNat]?=some (s.enc y)) (λy=>s.enc y)else .no
       |_=>.no
      |none=>.no
     |_=>.no
    |none=>.no
   |_=>.no
  |_=>.no
 | .field s x f=>match ev x with
  |some (.agg ⟨cs⟩)=>match T.get s with
   |some i=>match i.cX with
    | .struct fs=>match fs[f]? with
     |some (off,t)=>match T.get t with
      |some j=>match j.cX with
       | .struct _=>.val (.agg ((cs.drop off).take j.size).toArray)
       | .array _ _=>.val (.agg ((cs.drop off).take j.size).toArray)
       | .other=>.no
       |_=>match cs[off]? with
        |some v=>.val v
        |none=>.no
      |none=>.no
     |none=>.no
    |_=>.no
   |none=>.no
  |_=>.no
 | .slice t x lo hi mx=>match mx with
  |some _=>.no
  |none=>match Mn ev lo,Mn ev hi with
   |some l,some r=>match ev x with
    |some (.slice p len cap)=>match T.get t with
     |some i=>match i.cX with
      | .slice e=>match T.get e with
       |some j=>match l,r with
        |none,none=>.val (.slice p len cap)
        |none,some r=>.cond (0<=r/\r<=(cap:Int)) (.slice p r.toNat cap)
        |some l,none=>.cond (0<=l/\l<=(len:Int)) (.slice (if cap=l.toNat then p else p.map (·.add (l.toNat*j.size))) (len-l.toNat) (cap-l.toNat))
        |some l,some r=>.cond (0<=l/\l<=r/\r<=(cap:Int)) (.slice (if cap=l.toNat then p else p.map (·.add (l.toNat*j.size))) (r.toNat-l.toNat) (cap-l.toNat))
       |none=>.no
      |_=>.no
     |none=>.no
    |some (.string s)=>match T.get t with
     |some i=>match i.cX with
      | .str=>match l,r with
       |none,none=>.val (.string (s.extract 0 s.size))
       |none,some r=>.cond (0<=r/\r<=(s.size:Int)) (.string (s.extract 0 r.toNat))
       |some l,none=>.cond (0<=l/\l<=(s.size:Int)) (.string (s.extract l.toNat s.size))
       |some l,some r=>.cond (0<=l/\l<=r/\r<=(s.size:Int)) (.string (s.extract l.toNat r.toNat))
      |_=>.no
     |none=>.no
    |some (.pointer (some a))=>match T.get t with
     |some i=>match i.cX with
      | .array n e=>match T.get e with
       |some j=>match l,r with
        |none,none=>.val (.slice (some a) n n)
        |none,some r=>.cond (0<=r/\r<=(n:Int)) (.slice (some a) r.toNat n)
        |some l,none=>.cond (0<=l/\l<=(n:Int)) (.slice (some (if n=l.toNat then a else a.add (l.toNat*j.size))) (n-l.toNat) (n-l.toNat))
        |some l,some r=>.cond (0<=l/\l<=r/\r<=(n:Int)) (.slice (some (if n=l.toNat then a else a.add (l.toNat*j.size))) (r.toNat-l.toNat) (n-l.toNat))
       |none=>.no
      |_=>.no
     |none=>.no
    |_=>.no
   |_,_=>.no
 | .extract x n=>match ev x with
  |some (.tuple ⟨vs⟩)=>match vs[n]? with
   |some v=>.val v
   |none=>.no
  |_=>.no
 | .binOp op t x y _=>match ev x,ev y with
  |some a,some b=>aek P t x y ((T.get t).map (·.cX)) op a b
  |_,_=>.no
 | .unOp op _ x=>match ev x with
  |some v=>unV op v
  |none=>.no
 | .convert src dst x=>match ev x,(T.get src).map TI.cX with
  |some v,some (FM.int _)=>agk ((T.get dst).map (·.cX)) v
  |_,_=>.no
 | .build t parts=>match GV ev parts.toList with
  |some vs=>match T.get t with
   |some i=>bif vT 24 i.size then .ex Value (λv=>aP P (vW t vs.toArray) v) (λv=>v)else match i.cX with
    | .struct fs=>match placesOf T fs with
     |some ps=>match wC (λn=>ps[n]?) i.zero.toArray vs with
      |some cells=>.val (.agg cells)
      |none=>.no
     |none=>.no
    | .array _ e=>match T.get e with
     |some j=>match wC (λn=>some (n*j.size,j.size)) i.zero.toArray vs with
      |some cells=>.val (.agg cells)
      |none=>.no
     |none=>.no
    |_=>.no
   |none=>.no
  |none=>.no
 | .makeFunc fn first captured=>match sw ev first.toList,sw ev captured.toList with
  |some a,some b=>.val (.func fn a.toArray b.toArray)
  |_,_=>.no
 | .call c=>match c.callee with
  | .builtin b=>match b with
   | .len=>match c.argTypes.toList,c.args.toList with
    |t::_,[x]=>match ev x with
     |some v=>air ((T.get t).map (·.cX)) v
     |none=>.no
    |_,_=>.no
   | .cap=>match c.argTypes.toList,c.args.toList with
    |t::_,[x]=>match ev x with
     |some v=>ais ((T.get t).map (·.cX)) v
     |none=>.no
    |_,_=>.no
   | .min=>match sw ev c.args.toList with
    |some [.int k a,.int _ b]=>.val (.int k (if b<a then b else a))
    |_=>.no
   | .max=>match sw ev c.args.toList with
    |some [.int k a,.int _ b]=>.val (.int k (if b>a then b else a))
    |_=>.no
   | .real=>match sw ev c.args.toList with
    |some [.complex k a _]=>.val (.float k a)
    |_=>.no
   | .imag=>match sw ev c.args.toList with
    |some [.complex k _ b]=>.val (.float k b)
    |_=>.no
   |_=>.no
  |_=>.no
 |_=>.no
theorem aP.next{P:Program}{s:Sem Value}{v:Value}(h:aP P s v):ue P (do pure (.value (<-s))) v:=λw=>by
 rw[Sem.run_bind,h w];rfl
theorem aP.pure{α:Type}{P:Program}{v:α}:aP P (pure v) v:=λ_=>rfl
theorem aP.bind{α β:Type}{P:Program}{s:Sem α}{f:α->Sem β}{v:α}{u:β}(h:aP P s v)(k:aP P (f v) u):aP P (s>>=f) u:=λw=>by
 rw[Sem.run_bind,h w];exact k w
theorem Jw{d:Option TypeDesc}{k:IntKind}(h:jo d=.int k):d=some (.int k):=by unfold jo at h;split at h<;>cases h;rfl
theorem ael{d:Option TypeDesc}(h:jo d=.bool):d=some .bool:=by unfold jo at h;split at h<;>cases h;rfl
theorem xY{d:Option TypeDesc}(h:jo d=.str):d=some .string:=by unfold jo at h;split at h<;>cases h;rfl
theorem jQ{d:Option TypeDesc}{e:TypeId}(h:jo d=.slice e):d=some (.slice e):=by unfold jo at h;split at h<;>cases h;rfl
theorem uf{d:Option TypeDesc}{n:Nat}{e:TypeId}(h:jo d=.array n e):d=some (.array n e):=by unfold jo at h;split at h<;>cases h;rfl
theorem ahg{d:Option TypeDesc}{e:TypeId}(h:jo d=.ptr e):d=some (.pointer e):=by unfold jo at h;split at h<;>cases h;rfl
theorem rf{d:Option TypeDesc}{a:List (Nat×TypeId)}(h:jo d=.struct a):∃b,d=some (.struct b)/\a=b.toList.map λf=>(f.offset,f.type):=by unfold jo at h;split at h<;>cases h;exact⟨_,rfl,rfl⟩
section
variable {C:Dr} {t:TypeId} {i:TI}
theorem Dr.Ok.cX(h:C.Ok)(a:C.T.get t=some i):jo (C.P.underlying t)=i.cX:=congrArg Prod.fst (h.at a)
theorem Dr.Ok.info(h:C.Ok)(d:C.T.get t=some i):∃f,C.P.info? t=some f/\f.size=i.size/\f.bytes=i.bytes/\∃z,f.zero=some z/\z.cells.toList=i.zero:=by
 have:=congrArg Prod.snd (h.at d);simp only[kM.seen,kM.told]at this;cases hf:C.P.info? t with
 |none=>rw[hf]at this;cases this
 |some f=>
  rw[hf]at this;simp only[q7,zR.injEq,Prod.mk.injEq]at this;obtain⟨a,b,c⟩:=this;cases hz:f.zero with
  |none=>rw[hz]at c;cases c
  |some z=>rw[hz]at c;simp at c;exact⟨f,rfl,a,b,z,hz,by simpa using c⟩
theorem aW{P:Program}{t:TypeId}{d:TypeDesc}(h:P.underlying t=some d):aP P (underlying t) d:=λw=>by
 simp[underlying,h]
theorem dt{P:Program}{t:TypeId}{d:TypeInfo}(h:P.info? t=some d):aP P (typeInfo t) d:=λw=>by
 simp[typeInfo,h]
theorem dZ(h:C.Ok)(a:C.T.get t=some i):aP C.P (sizeOf t) i.size:=by obtain⟨f,b,c,_⟩:=h.info a;rw[<-c];exact(dt b).bind .pure
theorem tJ(h:C.Ok)(a:C.T.get t=some i):∃z,aP C.P (zeroValue t) z/\z.cells.toList=i.zero:=by obtain⟨f,b,_,_,z,c,d⟩:=h.info a;refine⟨z,(dt b).bind ?_,d⟩;rw[c];exact .pure
theorem lO(h:C.Ok)(g:C.T.get t=some i):(∀b,i.cX=.struct b->aP C.P (isAgg t) true)/\(∀n e,i.cX=.array n e->aP C.P (isAgg t) true)/\
  ((∀b,i.cX≠.struct b)->(∀n e,i.cX≠.array n e)->i.cX≠.other->aP C.P (isAgg t) false):=by
 have a:=h.cX g;refine⟨λb c=>?_,λn e c=>?_,λk f h3=>?_⟩
 ·rw[c]at a;obtain⟨l,j,_⟩:=rf a;exact(aW j).bind .pure
 ·rw[c]at a;exact(aW (uf a)).bind .pure
 ·cases hu:C.P.underlying t with
  |none=>rw[hu]at a;exact absurd a.symm h3
  |some d=>
   refine(aW hu).bind ?_;rw[hu]at a;cases d<;>first|exact .pure|(exfalso;simp only[jo]at a;first|exact k _ a.symm|exact f _ _ a.symm)
end
theorem Er{ev:Operand->Option Value}{e:Operand->Value}(c:∀x v,ev x=some v->e x=v):∀{l:List Operand} {vs:List Value},sw ev l=some vs->l.map e=vs:=by
 intro l
 induction l with
 |nil=>intro vs h;cases h;rfl
 |cons x r ih=>
  intro vs h;simp only[sw]at h;split at h
  ·rename_i v b;split at h
   ·rename_i us a;cases h;simp[c _ _ b,ih a]
   ·cases h
  ·cases h
theorem Kl{ev:Operand->Option Value}{e:Operand->Value}(c:∀x v,ev x=some v->e x=v):∀{l:List (Nat×Operand)} {vs:List (Nat×Value)},GV ev l=some vs->l.map (λp=>(p.1,e p.2))=vs:=by
 intro l
 induction l with
 |nil=>intro vs h;cases h;rfl
 |cons x r ih=>
  intro vs h;obtain⟨n,x⟩:=x;simp only[GV]at h;split at h
  ·rename_i v b;split at h
   ·rename_i us a;cases h;simp[c _ _ b,ih a]
   ·cases h
  ·cases h
section
variable {P:Program}
theorem Lb(t:TypeId)(x y:Value):Op.equal t x y=Op.equalIn (9999+1) t x y:=rfl
theorem ahh{t:TypeId}(c:P.underlying t=some .bool)(d:Nat)(a b:Bool):aP P (Op.equalIn (d+1) t (.bool a) (.bool b)) (a==b):=λw=>by
 simp[Op.equalIn,underlying,c]
theorem ait{t e:TypeId}(b:P.underlying t=some (.pointer e))(d:Nat)(a:Option Addr):aP P (Op.equalIn (d+1) t (.pointer a) (.pointer none)) a.isNone:=λw=>by
 cases a<;>simp[Op.equalIn,underlying,b]
theorem aem{t e:TypeId}(b:P.underlying t=some (.slice e))(d:Nat)(a:Option Addr)(l c l' f:Nat):aP P (Op.equalIn (d+1) t (.slice a l c) (.slice none l' f)) a.isNone:=λw=>by
 cases a<;>simp[Op.equalIn,underlying,b]
theorem YG{t:TypeId}{d:Option FM}{op:BinOp}{a b:Value}{x y:Operand}{K:Value->Prop}(o:∀q,d=some q->jo (P.underlying t)=q)
  (h:(aej P t x y d op a b).holds K):∃v,aP P (do eqGuard op t x y a b;binOp op t a b) v/\K v:=by
 have j:∀{a b:Value},¬(a=.nilIface/\b=.nilIface)->(∀u v,¬(a=.agg u/\b=.agg v))->aP P (eqGuard op t x y a b) ():=by
  intro a b f i w;simp only[eqGuard];cases op<;>simp only[Bool.not_true,Bool.not_false,zj,if_true,if_false]<;>
   first
    |rfl
    |(split<;>first|exact absurd ⟨rfl,rfl⟩ f|exact absurd ⟨rfl,rfl⟩ (i _ _)|rfl)
 unfold aej at h;split at h
 ·rename_i k a n b;have g:=j (a:=.int k a) (b:=.int n b) (by simp) (by simp);cases op<;>simp only at h
  case shl=>exact⟨_,g.bind λw=>by simp only[binOp,Op.shift];rw[if_neg (by have:=h.1;omega)];rfl,h.2⟩
  case shr=>exact⟨_,g.bind λw=>by simp only[binOp,Op.shift];rw[if_neg (by have:=h.1;omega)];rfl,h.2⟩
  all_goals
   cases hk:Dq k n with
   |false=>rw[hk]at h;simp[PV.holds]at h
   |true=>
    rw[hk]at h;simp only[cond_true,PV.holds]at h;have e:=Kk hk;subst e
    first
     |exact⟨_,g.bind λw=>by simp[binOp,Op.intArith,Op.intBits,Op.intCmp],h⟩
     |exact⟨_,g.bind λw=>by simp[binOp,Op.intDiv,h.1],h.2⟩
     |exact h.elim
 ·rename_i k a n b;have g:=j (a:=.float k a) (b:=.float n b) (by simp) (by simp);cases hk:GS k n with
  |false=>rw[hk]at h;simp[PV.holds]at h
  |true=>
   rw[hk]at h;have e:=GU hk;subst e;cases op<;>simp only[cond_true,PV.holds]at h<;>
    first
     |(obtain⟨r,f,i⟩:=h;exact⟨_,g.bind λw=>by simp[binOp,Op.floatArith,f],i⟩)
     |exact⟨_,g.bind λw=>by simp[binOp,Op.floatCmp],h⟩
     |exact h.elim
 ·rename_i a b;have g:=j (a:=.string a) (b:=.string b) (by simp) (by simp);cases op<;>simp only[PV.holds]at h<;>
   first
    |exact⟨_,g.bind λw=>by simp[binOp,Op.stringOp],h⟩
    |exact⟨_,g.bind λw=>by simp only[binOp,Op.stringOp];rw[if_neg (by have:=h.1;omega)];rfl,h.2⟩
    |exact h.elim
 ·rename_i a b;have g:=j (a:=.bool a) (b:=.bool b) (by simp) (by simp);split at h
  ·have m:=ael (o _ rfl);cases op<;>simp only[PV.holds]at h<;>
    first
     |exact⟨_,g.bind (by simp only[binOp,Lb];exact(ahh m _ a b).bind .pure),h⟩
     |exact h.elim
  ·exact h.elim
 ·rename_i a b;cases hy:agj y with
  |true=>
   rw[hy]at h;obtain⟨r,f,i⟩:=h;exact⟨_,f,i⟩
  |false=>
   rw[hy]at h;cases b with
   |some _=>exact h.elim
   |none=>
    have g:=j (a:=.pointer a) (b:=.pointer none) (by simp) (by simp);simp only[cond_false]at h;split at h
    ·rename_i e;have m:=ahg (o _ rfl);cases op<;>simp only[PV.holds]at h<;>
      first
       |exact⟨_,g.bind (by simp only[binOp,Lb];exact(ait m _ a).bind .pure),h⟩
       |exact h.elim
    ·exact h.elim
 ·rename_i a l c l' p;have g:=j (a:=.slice a l c) (b:=.slice none l' p) (by simp) (by simp);split at h
  ·rename_i e;have m:=jQ (o _ rfl);cases op<;>simp only[PV.holds]at h<;>
    first
     |exact⟨_,g.bind (by simp only[binOp,Lb];exact(aem m _ a l c l' p).bind .pure),h⟩
     |exact h.elim
  ·exact h.elim
 ·obtain⟨r,f,i⟩:=h;exact⟨_,f,i⟩
 ·split at h
  ·obtain⟨r,f,i⟩:=h;exact⟨_,f,i⟩
  ·obtain⟨r,f,i⟩:=h;exact⟨_,f,i⟩
  ·obtain⟨r,f,i⟩:=h;exact⟨_,f,i⟩
 ·exact h.elim
theorem YH{t:TypeId}{d:Option FM}{op:BinOp}{a b:Value}{x y:Operand}{K:Value->Prop}(e:∀q,d=some q->jo (P.underlying t)=q)
  (h:(aek P t x y d op a b).holds K):∃v,aP P (do eqGuard op t x y a b;binOp op t a b) v/\K v:=by
 unfold aek at h;split at h
 ·obtain⟨r,f,c⟩:=h;exact⟨_,f,c⟩
 ·exact YG e h
end
theorem SS(a:List Value)(off n:Nat):((a.drop off).take n).toArray=(a.toArray).extract off (off+n):=by apply yE;simp[List.extract_eq_take_drop]
section
variable {C:Dr} {ev:Operand->Option Value} {e:Operand->Value}
theorem oz(c:C.Ok):∀{b:List Field} {a:List (Nat×Nat)},placesOf C.T (b.map λf=>(f.offset,f.type))=some a->
  aP C.P (b.mapM λf=>(do pure (f.offset,<-sizeOf f.type):Sem (Nat×Nat))) a
 |[],a,h=>by cases h;exact .pure
 |f::r,a,h=>by
  simp only[List.map_cons,placesOf]at h;split at h
  ·rename_i j d;split at h
   ·rename_i g e;cases h;rw[List.mapM_cons];exact aP.bind ((dZ c d).bind .pure) ((oz c e).bind .pure)
   ·cases h
  ·cases h
theorem Km(h:C.Ok){t:TypeId}{j:TI}(c:C.T.get t=some j)(g:∀d,j.cX≠.struct d)(b:∀n e,j.cX≠.array n e)(h3:j.cX≠.other)
  {a:Array Value} {off:Nat} {v:Value} (f:a[off]?=some v):aP C.P (part t a off) v:=by
 refine((lO h c).2.2 g b h3).bind ?_;rw[f];exact .pure
theorem SU(c:C.Ok){t:TypeId}{j:TI}(a:C.T.get t=some j)(h:(∃b,j.cX=.struct b)∨∃n e,j.cX=.array n e)
  {d:Array Value} {off:Nat}:aP C.P (part t d off) (.agg (d.extract off (off+j.size))):=by
 have f:aP C.P (isAgg t) true:=by
  rcases h with⟨b,h⟩|⟨n,e,h⟩
  ·exact(lO c a).1 b h
  ·exact(lO c a).2.1 n e h
 exact f.bind ((dZ c a).bind .pure)
theorem Mo(I:C.Ok)(G:∀x v,ev x=some v->e x=v){o:Oper}{K:Value->Prop}(h:(Ds C.P C.T o.op ev).holds K):
  ∃v,ue C.P (execOp e o) v/\K v:=by
 have M:∀t q,(C.T.get t).map (·.cX)=some q->jo (C.P.underlying t)=q:=λt q h=>by
  cases F:C.T.get t with
  |none=>rw[F]at h;cases h
  |some i=>rw[F]at h;cases h;exact I.cX F
 cases hop:o.op<;>rw[hop]at h<;>simp only[Ds]at h<;>simp only[execOp,hop]
 case move x=>
  split at h
  ·rename_i v A;rw[G _ _ A];exact⟨v,λ_=>rfl,h⟩
  ·exact h.elim
 case assign x=>
  split at h
  ·rename_i v A;rw[G _ _ A];exact⟨v,λ_=>rfl,h⟩
  ·exact h.elim
 case pick c a b=>
  split at h
  ·rename_i t x y N h2 h3;rw[G _ _ N,G _ _ h2,G _ _ h3];cases t
   ·exact⟨y,λ_=>rfl,h⟩
   ·exact⟨x,λ_=>rfl,h⟩
  ·exact h.elim
 case nilCheck x=>
  split at h
  ·rename_i p hp;obtain⟨a,rfl,B⟩:=h;rw[G _ _ hp];exact⟨_,λ_=>rfl,B⟩
  ·exact h.elim
 case fieldAddr s x f=>
  split at h
  ·rename_i a ha;rw[G _ _ ha];split at h
   ·rename_i i F;split at h
    ·rename_i fs X;split at h
     ·rename_i off t am;split at h
      ·rename_i j R;cases hz:wG j.size 0 with
       |true=>rw[hz]at h;exact h.elim
       |false=>
        rw[hz]at h;have E:=I.cX F;rw[X]at E;obtain⟨gs,hg,rfl⟩:=rf E;simp only[qU,ve]at am;obtain⟨g,ap,a4⟩:=am;cases a4;refine⟨_,aP.next ((aW hg).bind ?_),h⟩;have ad:gs[f]?=some g:=by simpa using ap
        simp only[ad];refine aP.bind (v:=a) .pure (aP.bind (v:=a.add g.offset) ?_ .pure);unfold fieldPlace;refine(dZ I R).bind ?_;have:j.size≠0:=λe=>by rw[e]at hz;cases hz
        rw[if_neg this];exact .pure
      ·exact h.elim
     ·exact h.elim
    ·exact h.elim
   ·exact h.elim
  ·exact h.elim
 case indexAddr t x ix=>
  split at h
  ·rename_i k n hn;rw[G _ _ hn];split at h
   ·rename_i p len cap U;rw[G _ _ U];split at h
    ·rename_i i F;split at h
     ·rename_i el D;split at h
      ·rename_i j R;obtain⟨a,⟨rfl,h0,N⟩,B⟩:=h;have E:=I.cX F;rw[D]at E;have H:=jQ E;refine⟨_,aP.next ?_,B⟩;unfold Instr.indexAt;refine aP.bind (v:=(k,n)) .pure ?_;refine(aW H).bind ?_;refine aP.bind (v:=(some a,len,el)) .pure ?_;intro w;have:=dZ I R w;simp only[Sem.run_bind,aW H w,Result.andThen_ok];cases hl:decide (len<=1)<;>simp[h0,N,this]
      ·exact h.elim
     ·exact h.elim
    ·exact h.elim
   ·rename_i a U;rw[G _ _ U];split at h
    ·rename_i i F;split at h
     ·rename_i m el D;split at h
      ·rename_i j R;obtain⟨⟨h0,N⟩,B⟩:=h;have E:=I.cX F;rw[D]at E;have H:=uf E;refine⟨_,aP.next ?_,B⟩;unfold Instr.indexAt;refine aP.bind (v:=(k,n)) .pure ?_;refine(aW H).bind ?_;refine aP.bind (v:=(some a,m,el)) .pure ?_;intro w;have:=dZ I R w;simp only[Sem.run_bind,aW H w,Result.andThen_ok];cases hl:decide (m<=1)<;>simp[h0,N,this]
      ·exact h.elim
     ·exact h.elim
    ·exact h.elim
   ·exact h.elim
  ·exact h.elim
 case index t x ix=>
  split at h
  ·rename_i k n hn;rw[G _ _ hn];split at h
   ·rename_i s U;rw[G _ _ U];split at h
    ·rename_i i F;split at h
     ·rename_i D;obtain⟨b,⟨h0,N⟩,B⟩:=h;have E:=I.cX F;rw[D]at E;have H:=xY E;refine⟨_,aP.next ?_,B⟩;unfold Instr.index;refine aP.bind (v:=(k,n)) .pure ?_;refine(aW H).bind ?_;have hb:s[n.toNat]?=some b:=by rw[Array.getElem?_eq_some_iff]at N;obtain⟨bq,hg⟩:=N;have a5:n.toNat<s.size:=bq;rw[getElem?_pos s n.toNat a5];exact congrArg some hg
      simp only[h0,if_true,hb];exact .pure
     ·exact h.elim
    ·exact h.elim
   ·rename_i cs U;rw[G _ _ U];split at h
    ·rename_i i F;split at h
     ·rename_i m el D;split at h
      ·rename_i j R;split at h
       ·rename_i s hs;have E:=I.cX F;rw[D]at E;have H:=uf E;have ah:(∃y,(0<=n/\n<(m:Int)/\cs[n.toNat]?=some (s.enc y))/\K (s.enc y))->(∀fs,j.cX≠.struct fs)->(∀n e,j.cX≠.array n e)->j.cX≠.other->j.size=1->
          ∃v,ue C.P (do pure (.value (<-Instr.index t (.agg cs) (.int k n)))) v/\K v:=by
         rintro⟨y,⟨h0,N,h2⟩,B⟩ d1 d2 d3 a9;refine⟨_,aP.next ?_,B⟩;unfold Instr.index;refine aP.bind (v:=(k,n)) .pure ?_;refine(aW H).bind ?_;simp only[h0,N,and_self,if_true];refine(dZ I R).bind ?_;rw[a9,Nat.mul_one];exact Km I R d1 d2 d3 h2
        split at h
        ·exact h.elim
        ·exact h.elim
        ·exact h.elim
        ·rename_i d1 d2 d3;cases hz:wG j.size 1 with
         |false=>rw[hz]at h;exact h.elim
         |true=>
          rw[hz]at h;exact ah h d1 d2 d3 (zM hz)
       ·exact h.elim
      ·exact h.elim
     ·exact h.elim
    ·exact h.elim
   ·exact h.elim
  ·exact h.elim
 case field s x f=>
  split at h
  ·rename_i cs U;rw[G _ _ U];split at h
   ·rename_i i F;split at h
    ·rename_i fs X;split at h
     ·rename_i off t am;split at h
      ·rename_i j R;have E:=I.cX F;rw[X]at E;obtain⟨gs,hg,rfl⟩:=rf E;simp only[qU,ve]at am;obtain⟨g,ap,a4⟩:=am;cases a4;have ad:gs[f]?=some g:=by simpa using ap
       have ah:∀v,aP C.P (part g.type ⟨cs⟩ g.offset) v->K v->∃v,ue C.P (do pure (.value (<-Instr.field s (.agg ⟨cs⟩) f))) v/\K v:=by intro v A B;refine⟨v,aP.next ((aW hg).bind ?_),B⟩;simp only[ad];exact aP.bind (v:=(⟨cs⟩:Array Value)) .pure A
       split at h
       ·rename_i br ax;refine ah _ (SU I R (.inl ⟨_,ax⟩)) ?_;rw[<-SS];exact h
       ·rename_i n' e' ax;refine ah _ (SU I R (.inr ⟨_,_,ax⟩)) ?_;rw[<-SS];exact h
       ·exact h.elim
       ·rename_i d1 d2 d3;split at h
        ·rename_i v A;exact ah v (Km I R d1 d2 d3 (by simpa using A)) h
        ·exact h.elim
      ·exact h.elim
     ·exact h.elim
    ·exact h.elim
   ·exact h.elim
  ·exact h.elim
 case slice t x V hi0 mx=>
  split at h
  ·exact h.elim
  ·split at h
   ·rename_i l r hl hr;have ar:(V=none/\l=none)∨∃y k m,V=some y/\e y=.int k m/\l=some m:=by
     cases V with
     |none=>cases hl;exact .inl ⟨rfl,rfl⟩
     |some y=>
      simp only[Mn]at hl;split at hl
      ·rename_i k m hm;cases hl;exact .inr ⟨y,k,m,rfl,G _ _ hm,rfl⟩
      ·cases hl
    have a0:(hi0=none/\r=none)∨∃y k m,hi0=some y/\e y=.int k m/\r=some m:=by
     cases hi0 with
     |none=>cases hr;exact .inl ⟨rfl,rfl⟩
     |some y=>
      simp only[Mn]at hr;split at hr
      ·rename_i k m hm;cases hr;exact .inr ⟨y,k,m,rfl,G _ _ hm,rfl⟩
      ·cases hr
    have J:∀(bb:Bool) (len cap:Nat) (V F:Option Value) (a b:Nat),(V=none->a=0)->(∀v,V=some v->∃k m,v=.int k m/\0<=m/\a=m.toNat/\m<=(b:Int))->
      (F=none->b=len)->(∀v,F=some v->∃k m,v=.int k m/\0<=m/\b=m.toNat/\m<=(cap:Int))->
      aP C.P (wE bb len cap V F none) (a,b,cap):=by
     intro bb len cap V F a b N h2 h3 h4 w;cases F with
     |none=>
      have e1:=h3 rfl;subst e1;cases V with
      |none=>rw[N rfl];simp[wE]
      |some v=>
       obtain⟨k,m,rfl,x1,rfl,x2⟩:=h2 v rfl;simp[wE,vQ,asIntOf,x1,x2]
     |some u=>
      obtain⟨k',W,rfl,y1,rfl,y2⟩:=h4 u rfl;cases V with
      |none=>rw[N rfl];simp[wE,vQ,asIntOf,y1,y2]
      |some v=>
       obtain⟨k,m,rfl,x1,rfl,x2⟩:=h2 v rfl;have x3:¬max W 0<m:=by omega
       simp[wE,vQ,asIntOf,x1,y1,y2,x3]
    split at h
    ·rename_i p len cap U;rw[G _ _ U];split at h
     ·rename_i i F;split at h
      ·rename_i el D;split at h
       ·rename_i j R;have E:=I.cX F;rw[D]at E;have H:=jQ E;have fin:∀(a b:Nat) (v:Value),aP C.P (wE true len cap (V.map e) (hi0.map e) none) (a,b,cap)->
          v=.slice (if cap=a then p else p.map (·.add (a*j.size))) (b-a) (cap-a)->K v->
          ∃v,ue C.P (do pure (.value (<-yp t (.slice p len cap) (V.map e) (hi0.map e) (Option.map e none)))) v/\K v:=by
         intro a b v hb A B;refine⟨v,aP.next ?_,B⟩;unfold yp;refine(aW H).bind ?_;simp only[xo,Option.map_none];refine(aW H).bind ?_;refine hb.bind ?_;subst A;exact(dZ I R).bind .pure
        have ab:(if cap=0 then p else p.map (·.add (0*j.size)))=p:=by
         cases p<;>simp[Addr.add]
        rcases ar with⟨rfl,rfl⟩|⟨y,k,m,rfl,hy,rfl⟩<;>rcases a0 with⟨rfl,rfl⟩|⟨y',k',W,rfl,hy',rfl⟩
        ·exact fin 0 len _ (J _ _ _ _ _ _ _ (λ_=>rfl) (by simp) (λ_=>rfl) (by simp)) (by rw[ab];rfl) h
        ·obtain⟨⟨S,Z⟩,B⟩:=h;exact fin 0 W.toNat _ (J _ _ _ _ _ _ _ (λ_=>rfl) (by simp) (by simp) λv A=>by cases A;exact⟨k',W,hy',S,rfl,Z⟩) (by rw[ab];rfl) B
        ·obtain⟨⟨S,Z⟩,B⟩:=h;exact fin m.toNat len _ (J _ _ _ _ _ _ _ (by simp) (λv A=>by cases A;exact⟨k,m,hy,S,rfl,Z⟩) (λ_=>rfl) (by simp)) rfl B
        ·obtain⟨⟨S,Z,a3⟩,B⟩:=h;exact fin m.toNat W.toNat _ (J _ _ _ _ _ _ _ (by simp) (λv A=>by cases A;exact⟨k,m,hy,S,rfl,by omega⟩) (by simp) λv A=>by cases A;exact⟨k',W,hy',by omega,rfl,a3⟩) rfl B
       ·exact h.elim
      ·exact h.elim
     ·exact h.elim
    ·rename_i s U;rw[G _ _ U];split at h
     ·rename_i i F;split at h
      ·rename_i D;have E:=I.cX F;rw[D]at E;have H:=xY E;have fin:∀(a b:Nat) (v:Value),aP C.P (wE false s.size s.size (V.map e) (hi0.map e) none) (a,b,s.size)->
         v=.string (s.extract a b)->K v->
         ∃v,ue C.P (do pure (.value (<-yp t (.string s) (V.map e) (hi0.map e) (Option.map e none)))) v/\K v:=by
        intro a b v hb A B;refine⟨v,aP.next ?_,B⟩;unfold yp;refine(aW H).bind ?_;simp only[xo,Option.map_none];refine(aW H).bind ?_;subst A;intro w;simp[hb w]
       rcases ar with⟨rfl,rfl⟩|⟨y,k,m,rfl,hy,rfl⟩<;>rcases a0 with⟨rfl,rfl⟩|⟨y',k',W,rfl,hy',rfl⟩
       ·exact fin 0 s.size _ (J _ _ _ _ _ _ _ (λ_=>rfl) (by simp) (λ_=>rfl) (by simp)) rfl h
       ·obtain⟨⟨S,Z⟩,B⟩:=h;exact fin 0 W.toNat _ (J _ _ _ _ _ _ _ (λ_=>rfl) (by simp) (by simp) λv A=>by cases A;exact⟨k',W,hy',S,rfl,Z⟩) rfl B
       ·obtain⟨⟨S,Z⟩,B⟩:=h;exact fin m.toNat s.size _ (J _ _ _ _ _ _ _ (by simp) (λv A=>by cases A;exact⟨k,m,hy,S,rfl,Z⟩) (λ_=>rfl) (by simp)) rfl B
       ·obtain⟨⟨S,Z,a3⟩,B⟩:=h;exact fin m.toNat W.toNat _ (J _ _ _ _ _ _ _ (by simp) (λv A=>by cases A;exact⟨k,m,hy,S,rfl,by omega⟩) (by simp) λv A=>by cases A;exact⟨k',W,hy',by omega,rfl,a3⟩) rfl B
      ·exact h.elim
     ·exact h.elim
    ·rename_i a U;rw[G _ _ U];split at h
     ·rename_i i F;split at h
      ·rename_i n el D;split at h
       ·rename_i j R;have E:=I.cX F;rw[D]at E;have H:=uf E;have fin:∀(a' b:Nat) (v:Value),aP C.P (wE false n n (V.map e) (hi0.map e) none) (a',b,n)->
          v=.slice (some (if n=a' then a else a.add (a'*j.size))) (b-a') (n-a')->K v->
          ∃v,ue C.P (do pure (.value (<-yp t (.pointer (some a)) (V.map e) (hi0.map e) (Option.map e none)))) v/\K v:=by
         intro a' b v hb A B;refine⟨v,aP.next ?_,B⟩;unfold yp;refine(aW H).bind ?_;simp only[Option.map_none];refine aP.bind (v:=a) .pure ?_;refine hb.bind ?_;subst A;exact(dZ I R).bind .pure
        have ab:(if n=0 then a else a.add (0*j.size))=a:=by simp[Addr.add]
        rcases ar with⟨rfl,rfl⟩|⟨y,k,m,rfl,hy,rfl⟩<;>rcases a0 with⟨rfl,rfl⟩|⟨y',k',W,rfl,hy',rfl⟩
        ·exact fin 0 n _ (J _ _ _ _ _ _ _ (λ_=>rfl) (by simp) (λ_=>rfl) (by simp)) (by rw[ab];rfl) h
        ·obtain⟨⟨S,Z⟩,B⟩:=h;exact fin 0 W.toNat _ (J _ _ _ _ _ _ _ (λ_=>rfl) (by simp) (by simp) λv A=>by cases A;exact⟨k',W,hy',S,rfl,Z⟩) (by rw[ab];rfl) B
        ·obtain⟨⟨S,Z⟩,B⟩:=h;exact fin m.toNat n _ (J _ _ _ _ _ _ _ (by simp) (λv A=>by cases A;exact⟨k,m,hy,S,rfl,Z⟩) (λ_=>rfl) (by simp)) rfl B
        ·obtain⟨⟨S,Z,a3⟩,B⟩:=h;exact fin m.toNat W.toNat _ (J _ _ _ _ _ _ _ (by simp) (λv A=>by cases A;exact⟨k,m,hy,S,rfl,by omega⟩) (by simp) λv A=>by cases A;exact⟨k',W,hy',by omega,rfl,a3⟩) rfl B
       ·exact h.elim
      ·exact h.elim
     ·exact h.elim
    ·exact h.elim
   ·exact h.elim
 case extract x n=>
  split at h
  ·rename_i vs U;rw[G _ _ U];split at h
   ·rename_i v A;refine⟨v,aP.next ?_,h⟩;have:(⟨vs⟩:Array Value)[n]?=some v:=by simpa using A
    simp only[Instr.extract,this];exact .pure
   ·exact h.elim
  ·exact h.elim
 case binOp op t x y u=>
  split at h
  ·rename_i a b ha hb;rw[G _ _ ha,G _ _ hb];obtain⟨v,A,B⟩:=YH (P:=C.P) (x:=x) (y:=y) (M t) h;exact⟨v,A.next,B⟩
  ·exact h.elim
 case unOp op t x=>
  split at h
  ·rename_i v A;rw[G _ _ A];unfold unV at h;split at h
   ·split at h
    ·exact⟨_,aP.next .pure,h⟩
    ·exact h.elim
   ·split at h
    ·exact⟨_,aP.next .pure,h⟩
    ·exact⟨_,aP.next .pure,h⟩
    ·exact h.elim
   ·exact h.elim
  ·exact h.elim
 case convert s d x=>
  split at h
  ·rename_i v ks A a8;rw[G _ _ A];have hs:=Jw (M _ _ a8);unfold agk at h;split at h
   ·split at h
    ·rename_i n _ k B;have H:=Jw (M _ _ B);refine⟨_,aP.next ?_,h⟩;unfold convert;refine(aW hs).bind ((aW H).bind ?_);exact .pure
    ·exact h.elim
   ·exact h.elim
  ·exact h.elim
 case build t parts=>
  split at h
  ·rename_i vs bk;have hp:(parts.map λ(i,x)=>(i,e x)).toList=vs:=by have:=Kl G bk;simpa using this
   split at h
   ·rename_i i F;obtain⟨z,hz,bl⟩:=tJ I F;have ao:i.zero.toArray=z.cells:=by rw[<-bl]
    cases hbig:vT 24 i.size with
    |true=>
     rw[hbig]at h;obtain⟨v,A,B⟩:=h;have a7:(parts.map λ(i,x)=>(i,e x))=vs.toArray:=by rw[<-hp]
     refine⟨v,aP.next ?_,B⟩;show aP C.P (vW t (parts.map λ(i,x)=>(i,e x))) v;rw[a7];exact A
    |false=>
    rw[hbig]at h;simp only[cond_false]at h;split at h
    ·rename_i fs X;have E:=I.cX F;rw[X]at E;obtain⟨gs,hg,rfl⟩:=rf E;split at h
     ·rename_i ps bd;split at h
      ·rename_i cells O;refine⟨_,aP.next (hz.bind ((aW hg).bind ?_)),h⟩;have a6:aP C.P (gs.mapM λf=>(do pure (f.offset,<-sizeOf f.type):Sem (Nat×Nat))) ps.toArray:=by rw[vu];intro w;have:=oz I bd w;rw[map_eq_pure_bind,Sem.run_bind,this];rfl
       refine a6.bind ?_;have ay:wC (λn=>ps.toArray[n]?) z.cells (parts.map λ(i,x)=>(i,e x)).toList=some cells:=by rw[hp,<-ao];simpa using O
       rw[ay];exact .pure
      ·exact h.elim
     ·exact h.elim
    ·rename_i n el X;have E:=I.cX F;rw[X]at E;have H:=uf E;split at h
     ·rename_i j R;split at h
      ·rename_i cells O;refine⟨_,aP.next (hz.bind ((aW H).bind ((dZ I R).bind ?_))),h⟩;have ay:wC (λi=>some (i*j.size,j.size)) z.cells (parts.map λ(i,x)=>(i,e x)).toList=some cells:=by rw[hp,<-ao];exact O
       rw[ay];exact .pure
      ·exact h.elim
     ·exact h.elim
    ·exact h.elim
   ·exact h.elim
  ·exact h.elim
 case makeFunc fn first captured=>
  split at h
  ·rename_i a b ha hb;have N:first.map e=a.toArray:=by apply yE;simpa using Er G ha
   have h2:captured.map e=b.toArray:=by apply yE;simpa using Er G hb
   refine⟨_,aP.next ?_,h⟩;rw[N,h2];exact .pure
  ·exact h.elim
 case call c=>
  split at h
  ·rename_i b hb;have L:∀{v:Value},aP C.P (builtin b c.argTypes o.type (c.args.map λ| .const _=>true|_=>false) (c.args.map e)) (.value v)->
     ue C.P (do let d<-resolve e c o.type;invoke d.target d.args) v:=by
    intro v A w;have:=A w;unfold resolve;rw[hb];exact this
   have Q:∀{vs:List Value},sw ev c.args.toList=some vs->c.args.map e=vs.toArray:=λA=>by
    apply yE;simpa using Er G A
   have Y:∀{s:Sem Value} {v:Value},aP C.P s v->aP C.P (do pure (Next.value (<-s))) (.value v):=λhs=>hs.bind .pure;split at h
   case h_1=>
    split at h
    ·rename_i t ts x N h2;split at h
     ·rename_i v A;have ha:c.args.map e=#[v]:=by apply yE;rw[vR,h2];simp[G _ _ A]
      have ht:c.argTypes[0]?=some t:=by rw[<-Array.getElem?_toList,N];rfl
      unfold air at h;split at h
      ·rename_i p n cap;split at h
       ·rename_i el D;have H:=jQ (M _ _ D);refine⟨_,L ?_,h⟩;rw[ha];refine Y ?_;intro w;simp[Builtin.len_,ht,underlying,H,goInt]
       ·exact h.elim
      ·rename_i s;split at h
       ·rename_i D;have H:=xY (M _ _ D);refine⟨_,L ?_,h⟩;rw[ha];refine Y ?_;intro w;simp[Builtin.len_,ht,underlying,H,goInt]
       ·exact h.elim
      ·exact h.elim
     ·exact h.elim
    ·exact h.elim
   case h_2=>
    split at h
    ·rename_i t ts x N h2;split at h
     ·rename_i v A;have ha:c.args.map e=#[v]:=by apply yE;rw[vR,h2];simp[G _ _ A]
      have ht:c.argTypes[0]?=some t:=by rw[<-Array.getElem?_toList,N];rfl
      unfold ais at h;split at h
      ·rename_i p n cap;split at h
       ·rename_i el D;have H:=jQ (M _ _ D);refine⟨_,L ?_,h⟩;rw[ha];refine Y ?_;intro w;simp[Builtin.cap_,ht,underlying,H,goInt]
       ·exact h.elim
      ·exact h.elim
     ·exact h.elim
    ·exact h.elim
   case h_3=>
    split at h
    ·rename_i k a k' b A;refine⟨_,L ?_,h⟩;rw[Q A];refine Y ?_;intro w;simp[Builtin.min_,Builtin.min2]
    ·exact h.elim
   case h_4=>
    split at h
    ·rename_i k a k' b A;refine⟨_,L ?_,h⟩;rw[Q A];refine Y ?_;intro w;simp[Builtin.max_,Builtin.max2]
    ·exact h.elim
   case h_5=>
    split at h
    ·rename_i k a b A;refine⟨_,L ?_,h⟩;rw[Q A];exact Y .pure
    ·exact h.elim
   case h_6=>
    split at h
    ·rename_i k a b A;refine⟨_,L ?_,h⟩;rw[Q A];exact Y .pure
    ·exact h.elim
   all_goals exact h.elim
  ·exact h.elim
 all_goals exact h.elim
end
def aq(h:Heap)(a:Addr):Nat->List Value->Prop
 |_,[]=>True
 |n,v::r=>cellOf h (a.add n)=some v/\aq h a (n+1) r
structure BL where
 a:Addr
 ty:Ty
 n:Nat
def BL.holds(r:BL)(h:Heap)(y:r.ty.den):Prop:=
 match r.ty,y with
 | .sc s,y=>cellOf h r.a=some (s.enc y)
 | .agg l,y=>aq h r.a 0 (CC l y)
 | .arr s,y=>y.length=r.n/\aq h r.a 0 (y.map s.enc)
def Ah(T:kM)(op:Op)(ev:Operand->Option Value):Option BL:=
 match op with
 | .load t x=>match ev x with
  |some (.pointer (some a))=>match T.get t with
   |some i=>match i.cX with
    | .struct _=>match i.ty with
     | .agg l=>bif wG l.length i.size then some ⟨a,i.ty,i.size⟩else none
     |_=>none
    | .array _ _=>match i.ty with
     | .arr _=>some ⟨a,i.ty,i.size⟩
     |_=>none
    | .other=>none
    |_=>match i.ty with
     | .sc _=>some ⟨a,i.ty,1⟩
     |_=>none
   |none=>none
  |_=>none
 |_=>none
theorem Kn:∀(l:List Sc) (x:OR l),(CC l x).length=l.length
 |[],_=>rfl
 |[_],_=>rfl
 |_::t::r,x=>by simp only[CC,zn];rw[Kn (t::r) x.2];rfl
theorem run_loadCells{P:Program}{w:World}{a:Addr}:∀(vs:List Value) (i:Nat) (b:Array Value),aq w.heap a i vs->
  (loadCellsFrom a i vs.length b).run P w=.ok (b++vs.toArray) w
 |[],i,b,_=>by simp[loadCellsFrom]
 |v::r,i,b,h=>by
  simp only[zn,loadCellsFrom,Sem.run_bind,run_load,OP,h.1,Result.andThen_ok];rw[run_loadCells r (i+1) (b.push v) h.2];simp
theorem Es{C:Dr}(m:C.Ok){ev:Operand->Option Value}{e:Operand->Value}(A:∀x v,ev x=some v->e x=v){o:Oper}{r:BL}
  (b:Ah C.T o.op ev=some r) {y:r.ty.den} {w:World} (d:r.holds w.heap y):(execOp e o).run C.P w=.ok (.value (r.ty.enc y)) w:=by
 unfold Ah at b;split at b
 ·rename_i t x u;simp only[execOp,u];split at b
  ·rename_i a H;rw[A _ _ H];split at b
   ·rename_i i j;have f:(∀v,(loadVar t a).run C.P w=.ok v w->(do let s<-xd t (.pointer (some a));pure (Next.value s):Sem Next).run C.P w=.ok (.value v) w):=by intro v E;have:xd t (.pointer (some a))=loadVar t a:=rfl;rw[this,Sem.run_bind,E];rfl
    split at b
    ·rename_i z g;split at b
     ·rename_i l h;cases hb:wG l.length i.size with
      |false=>rw[hb]at b;cases b
      |true=>
       rw[hb]at b;simp only[cond_true,zR.injEq]at b;subst b;have p:=zM hb;have c:∀(ty:Ty) (y:ty.den),ty=.agg l->BL.holds ⟨a,ty,i.size⟩ w.heap y->(loadVar t a).run C.P w=.ok (ty.enc y) w:=by rintro ty y rfl d;unfold loadVar;rw[Sem.run_bind,(lO m j).1 z g w];simp only[Result.andThen_ok,if_true,Sem.run_bind,dZ m j w];have k:=run_loadCells (P:=C.P) (w:=w) (a:=a) (CC l y) 0 #[] d;rw[Kn,p]at k;unfold loadCells;rw[k];simp
       exact f _ (c i.ty y h d)
     ·cases b
    ·rename_i n G g;split at b
     ·rename_i s h;cases b;have c:∀(ty:Ty) (y:ty.den),ty=.arr s->BL.holds ⟨a,ty,i.size⟩ w.heap y->(loadVar t a).run C.P w=.ok (ty.enc y) w:=by rintro ty y rfl ⟨h,d⟩;unfold loadVar;rw[Sem.run_bind,(lO m j).2.1 n G g w];simp only[Result.andThen_ok,if_true,Sem.run_bind,dZ m j w];have k:=run_loadCells (P:=C.P) (w:=w) (a:=a) (y.map s.enc) 0 #[] d;rw[List.length_map,h]at k;unfold loadCells;rw[k];simp
      exact f _ (c i.ty y h d)
     ·cases b
    ·cases b
    ·rename_i F B D;split at b
     ·rename_i s h;cases b;have c:∀(ty:Ty) (y:ty.den),ty=.sc s->BL.holds ⟨a,ty,1⟩ w.heap y->(loadVar t a).run C.P w=.ok (ty.enc y) w:=by rintro ty y rfl d;have q:cellOf w.heap a=some (s.enc y):=d;unfold loadVar;rw[Sem.run_bind,(lO m j).2.2 F B D w];simp[OP,q]
      exact f _ (c i.ty y h d)
     ·cases b
   ·cases b
  ·cases b
 ·cases b
def Typed(t:Ty)(K:Value->Heap->Prop)(v:Value)(h:Heap):Prop:=∃x:t.den,v=t.enc x/\K (t.enc x) h
def Mp(t:Rt)(K:Value->Heap->Prop)(v:Value)(h:Heap):Prop:=∃x:t.den,v=t.enc x/\K (t.enc x) h
def Mq(K:Value->Heap->Prop)(v:Value)(h:Heap):Prop:=∃a:Addr,v=.pointer (some a)/\K (.pointer (some a)) h
def aiu(T:kM)(t:TypeId)(tup:List (TypeId×List Ty)):Option Rt:=
 match tup.find? (λp=>wG p.1 t)with
 |some p=>some (.many p.2)
 |none=>match T.get t with
  |some i=>some (.one i.ty)
  |none=>none
structure Ctx extends Dr where
 tup:List (TypeId×List Ty)
 fns:List Bool
structure Ctx.Ok (C:Ctx):Prop extends Dr.Ok C.toDr where
 fns:(C.P.funcs.toList.map λf=>!(f.name== "runtime.NumGoroutine")&&f.body.isSome)=C.fns
def YI(C:Ctx)(g:FuncId)(args:List Value)(t:TypeId)(K:Value->Heap->Prop)(h:Heap):Prop:=
 match C.fns[g]? with
 |some true=>match aiu C.T t C.tup with
  |some r=>ac C.P g args.toArray h (Mp r K)
  |none=>False
 |_=>False
def Mr(C:Ctx)(o:Oper)(ev:Operand->Option Value)(K:Value->Heap->Prop)(h:Heap):Prop:=
 match o.op with
 | .store t a x=>match ev a,ev x with
  |some p,some v=>ag C.P (Instr.storeAt t p v) h λ_ h'=>K undef h'
  |_,_=>False
 | .alloc t=>ag C.P (Instr.alloc t true (.tuple #[])) h (Mq K)
 | .box t x=>match ev x with
  |some v=>ag C.P (Instr.box t v) h (Mq K)
  |none=>False
 | .makeSlice t l c=>match ev l,ev c with
  |some l,some c=>ag C.P (Instr.makeSlice t l c) h (Typed (.sc .slc) K)
  |_,_=>False
 | .buildSlice t n parts=>match GV ev parts.toList with
  |some ps=>ag C.P (Instr.buildSlice t n ps.toArray) h (Typed (.sc .slc) K)
  |none=>False
 | .makeMap t none=>ag C.P (Instr.makeMap t none) h (Typed (.sc .mp) K)
 | .lookup t x ix ok=>match ev x,ev ix,aiu C.T o.type C.tup with
  |some m,some k,some r=>ag C.P (Instr.lookup t m k ok) h (Mp r K)
  |_,_,_=>False
 | .mapUpdate t m k x=>match ev m,ev k,ev x with
  |some m,some k,some v=>ag C.P (Instr.mapUpdate t m k v) h λ_ h'=>K undef h'
  |_,_,_=>False
 | .insert t m k x=>match ev m,ev k,ev x with
  |some m,some k,some v=>ag C.P (Instr.mapUpdate t m k v) h λ_ h'=>K undef h'
  |_,_,_=>False
 | .convert s d x=>match ev x,C.T.get o.type with
  |some v,some i=>ag C.P (convert s d v) h (Typed i.ty K)
  |_,_=>False
 | .binOp op t x y _=>match ev x,ev y,C.T.get o.type with
  |some a,some b,some i=>ag C.P (do eqGuard op t x y a b;binOp op t a b) h (Typed i.ty K)
  |some a,some b,none=>ag C.P (do eqGuard op t x y a b;binOp op t a b) h (Typed (.sc .bool) K)
  |_,_,_=>False
 | .slice t x lo hi mx=>match optVal ev lo,optVal ev hi,optVal ev mx,ev x with
  |some l,some r,some m,some v=>ag C.P (yp t v l r m) h (Typed (.sc .slc) K)
  |_,_,_,_=>False
 | .call c=>match c.callee with
  | .builtin .append=>match sw ev c.args.toList with
   |some vs=>ag C.P (Builtin.append_ c.argTypes o.type vs.toArray) h (Typed (.sc .slc) K)
   |none=>False
  | .builtin .copy=>match sw ev c.args.toList with
   |some vs=>ag C.P (Builtin.copy_ c.argTypes o.type vs.toArray) h (Typed (.sc (.int .i64)) K)
   |none=>False
  | .builtin .clear=>match sw ev c.args.toList with
   |some vs=>ag C.P (Builtin.clear_ c.argTypes o.type vs.toArray) h K
   |none=>False
  | .builtin .len=>match sw ev c.args.toList with
   |some vs=>ag C.P (Builtin.len_ c.argTypes o.type vs.toArray) h (Typed (.sc (.int .i64)) K)
   |none=>False
  | .builtin .unsafeString=>match sw ev c.args.toList with
   |some vs=>ag C.P (Builtin.unsafeString_ c.argTypes o.type vs.toArray) h (Typed (.sc .str) K)
   |none=>False
  | .builtin .delete=>match sw ev c.args.toList with
   |some vs=>ag C.P (Builtin.delete_ c.argTypes o.type vs.toArray) h K
   |none=>False
  | .value f=>match ev f,sw ev c.args.toList with
   |some (.func (.func g) ⟨first⟩ ⟨caps⟩),some vs=>YI C g (first++vs++caps) o.type K h
   |_,_=>False
  |_=>False
 |_=>False
where
 optVal (ev:Operand->Option Value):Option Operand->Option (Option Value)
  |none=>some none
  |some x=>match ev x with
   |some v=>some (some v)
   |none=>none
section
variable {P:Program} {h:Heap} {K:Value->Heap->Prop}
theorem gn{s:Sem Value}(b:ag P s h K):Dp P (do pure (.value (<-s))) h K:=
 ag.bind (b.mono λ_ _ a=>ag.pure' a)
theorem Lc{s:Sem Unit}(b:ag P s h λ_ h'=>K undef h'):Dp P (do s;pure .skip) h K:=
 ag.bind (b.mono λ_ _ a=>ag.pure' a)
theorem Typed.out{t:Ty}{v:Value}{h:Heap}(x:Typed t K v h):K v h:=by obtain⟨y,rfl,a⟩:=x;exact a
theorem Mp.out{t:Rt}{v:Value}{h:Heap}(x:Mp t K v h):K v h:=by obtain⟨y,rfl,a⟩:=x;exact a
theorem Mq.out{v:Value}{h:Heap}(x:Mq K v h):K v h:=by obtain⟨y,rfl,a⟩:=x;exact a
end
theorem Wf{C:Ctx}(f:C.Ok){g:FuncId}{args:List Value}{t:TypeId}{K:Value->Heap->Prop}{h:Heap}(b:YI C g args t K h):
  Dp C.P (callFunc g args.toArray) h K:=by
 unfold YI at b;split at b
 ·rename_i e;split at b
  ·rename_i r i;have a:=congrArg (·[g]?) f.fns;simp only[qU,e]at a;cases hf:C.P.funcs.toList[g]? with
   |none=>rw[hf]at a;cases a
   |some fn=>
    rw[hf]at a;simp only[q7,zR.injEq,qB,Bool.not_eq_true']at a;have c:C.P.funcs[g]?=some fn:=by simpa using hf
    have d:fn.body.isNone=false:=by cases hbb:fn.body<;>simp[hbb]at a⊢
    unfold callFunc;refine ag.bind (ag.aeg ?_);simp only[c,a.1,d];exact ag.pure' (b.mono λv h' x=>x.out)
  ·exact b.elim
 ·exact b.elim
theorem YJ{C:Ctx}(V:C.Ok){ev:Operand->Option Value}{e:Operand->Value}(A:∀x v,ev x=some v->e x=v){o:Oper}
  {K:Value->Heap->Prop} {h:Heap} (j:Mr C o ev K h):Dp C.P (execOp e o) h K:=by
 have H:∀{x:Option Operand} {r:Option Value},Mr.optVal ev x=some r->x.map e=r:=by
  intro x r J;cases x with
  |none=>cases J;rfl
  |some y=>
   simp only[Mr.optVal]at J;split at J
   ·rename_i v B;cases J;rw[q7,A _ _ B]
   ·cases J
 unfold Mr at j;split at j
 ·rename_i t a x q;simp only[execOp,q];split at j
  ·rename_i p v W B;rw[A _ _ W,A _ _ B];exact Lc j
  ·exact j.elim
 ·rename_i t q;simp only[execOp,q];exact gn (j.mono λ_ _ x=>x.out)
 ·rename_i t x q;simp only[execOp,q];split at j
  ·rename_i v B;rw[A _ _ B];exact gn (j.mono λ_ _ x=>x.out)
  ·exact j.elim
 ·rename_i t l c q;simp only[execOp,q];split at j
  ·rename_i v u B T;rw[A _ _ B,A _ _ T];exact gn (j.mono λ_ _ x=>x.out)
  ·exact j.elim
 ·rename_i t n parts q;simp only[execOp,q];split at j
  ·rename_i S Q;have:(parts.map λ(i,x)=>(i,e x))=S.toArray:=by apply yE;have:=Kl A Q;simpa using this
   rw[this];exact gn (j.mono λ_ _ x=>x.out)
  ·exact j.elim
 ·rename_i t q;simp only[execOp,q];exact gn (j.mono λ_ _ x=>x.out)
 ·rename_i t x ix ok q;simp only[execOp,q];split at j
  ·rename_i m k r G E R;rw[A _ _ G,A _ _ E];exact gn (j.mono λ_ _ x=>x.out)
  ·exact j.elim
 ·rename_i t m k x q;simp only[execOp,q];split at j
  ·rename_i Y X v G E B;rw[A _ _ G,A _ _ E,A _ _ B];exact Lc j
  ·exact j.elim
 ·rename_i t m k x q;simp only[execOp,q];split at j
  ·rename_i Y X v G E B;rw[A _ _ G,A _ _ E,A _ _ B];exact Lc j
  ·exact j.elim
 ·rename_i s d x q;simp only[execOp,q];split at j
  ·rename_i v i B L;rw[A _ _ B];exact gn (j.mono λ_ _ x=>x.out)
  ·exact j.elim
 ·rename_i op t x y u q;simp only[execOp,q];split at j
  ·rename_i a b i N O L;rw[A _ _ N,A _ _ O];exact gn (j.mono λ_ _ x=>x.out)
  ·rename_i a b N O L;rw[A _ _ N,A _ _ O];exact gn (j.mono λ_ _ x=>x.out)
  ·exact j.elim
 ·rename_i t x lo L mx q;simp only[execOp,q];split at j
  ·rename_i l r m v Z R G B;rw[H Z,H R,H G,A _ _ B];exact gn (j.mono λ_ _ x=>x.out)
  ·exact j.elim
 ·rename_i c q;simp only[execOp,q];have w:∀{vs:List Value},sw ev c.args.toList=some vs->c.args.map e=vs.toArray:=λB=>by
   apply yE;simpa using Er A B
  split at j
  ·rename_i D;split at j
   ·rename_i vs z;unfold resolve;rw[D,w z];exact gn (j.mono λ_ _ x=>x.out)
   ·exact j.elim
  ·rename_i D;split at j
   ·rename_i vs z;unfold resolve;rw[D,w z];exact gn (j.mono λ_ _ x=>x.out)
   ·exact j.elim
  ·rename_i D;split at j
   ·rename_i vs z;unfold resolve;rw[D,w z];exact gn j
   ·exact j.elim
  ·rename_i D;split at j
   ·rename_i vs z;unfold resolve;rw[D,w z];exact gn (j.mono λ_ _ x=>x.out)
   ·exact j.elim
  ·rename_i D;split at j
   ·rename_i vs z;unfold resolve;rw[D,w z];exact gn (j.mono λ_ _ x=>x.out)
   ·exact j.elim
  ·rename_i D;split at j
   ·rename_i vs z;unfold resolve;rw[D,w z];exact gn j
   ·exact j.elim
  ·rename_i f D;split at j
   ·rename_i g first F vs U z
    unfold resolve;rw[D,w z];simp only[A _ _ U];have:=Wf V j;have I:(⟨first⟩:Array Value)++vs.toArray++(⟨F⟩:Array Value)=(first++vs++F).toArray:=by simp
    have M:Dp C.P (callFunc g ((⟨first⟩:Array Value)++vs.toArray++(⟨F⟩:Array Value))) h K:=by rw[I];exact this
    simp only[Deferred.ofValue];exact M
   ·exact j.elim
  ·exact j.elim
 ·exact j.elim
def put(n:Nat)(a:Option Tmp)(K:Env->Heap->Prop)(ρ:Env)(v:Value)(h:Heap):Prop:=
 match a with
 |some d=>bif vT d n then K (.val d v::ρ) h else False
 |none=>K ρ h
theorem Ai{n:Nat}{b:Option Tmp}{K:Env->Heap->Prop}{ρ:Env}{v:Value}{h:Heap}(c:put n b K ρ v h){a:Act}(e:Fits n a ρ):
  ∃ρ',Fits n (a.put b v) ρ'/\Ext ρ ρ' a (a.put b v)/\K ρ' h:=by
 unfold put at c;cases b with
 |none=>exact⟨ρ,e,Ext.refl _ _,c⟩
 |some d=>
  simp only at c;cases hb:vT d n with
  |false=>rw[hb]at c;exact c.elim
  |true=>rw[hb]at c;exact⟨_,e.put hb v,Ext.put v v,c⟩
def aen(C:Ctx)(n:Nat)(o:Oper)(K:Env->Heap->Prop)(ρ:Env)(h:Heap):Prop:=
 match Ds C.P C.T o.op ρ.eval with
 | .no=>match Ah C.T o.op ρ.eval with
  |some r=>∃y:r.ty.den,r.holds h y/\put n o.dst K ρ (r.ty.enc y) h
  |none=>Mr C o ρ.eval (put n o.dst K ρ) h
 |p=>p.holds λv=>put n o.dst K ρ v h
def Ms(ops:Array Oper)(o:Oper)(ρ:Env)(a skip:Env->Prop):Prop:=
 match o.guard with
 |none=>a ρ
 |some (j,want)=>match(ops[j]?).bind (·.dst)with
  |some d=>match ρ.get d with
   |some (.bool b)=>Br b (bif want then a (.val d (.bool true)::ρ)else skip (.val d (.bool true)::ρ)) (bif want then skip (.val d (.bool false)::ρ)else a (.val d (.bool false)::ρ))
   |some (.tuple _)=>skip ρ
   |_=>False
  |none=>False
theorem Fits.known{n:Nat}{a:Act}{ρ:Env}(c:Fits n a ρ){d:Nat}{v:Value}(e:ρ.get d=some v):Fits n a (.val d v::ρ)/\Ext ρ (.val d v::ρ) a a:=by
 refine⟨⟨c.size,c.defers,λt x b=>?_⟩,⟨[.val d v],rfl,λ_ _=>rfl⟩⟩;simp only[Env.get]at b;cases hb:wG d t with
 |false=>rw[hb]at b;exact c.get t x b
 |true=>
  rw[hb]at b;have:=zM hb;subst this;rw[cond_true]at b;exact c.get _ x (e.trans b)
theorem Ko{ops:Array Oper}{o:Oper}{ρ:Env}{e skip:Env->Prop}{n:Nat}{a:Act}(g:Fits n a ρ)(c:Ms ops o ρ e skip):
  ∃ρ',Fits n a ρ'/\Ext ρ ρ' a a/\((Region.wanted o (yielded ops a.tmps)=true/\e ρ')∨(Region.wanted o (yielded ops a.tmps)=false/\skip ρ')):=by
 unfold Ms at c;unfold Region.wanted;split at c
 ·rename_i m;rw[m];exact⟨ρ,g,Ext.refl _ _,.inl ⟨rfl,c⟩⟩
 ·rename_i j f m;rw[m];split at c
  ·rename_i d p;split at c
   ·rename_i b k;have l:yielded ops a.tmps j=some b:=by unfold yielded;rw[p];simp[g.get _ _ k]
    simp only[l];obtain⟨h,i⟩:=g.known k;cases b<;>cases f<;>simp only[Br,cond_true,cond_false]at c
    ·exact⟨_,h,i,.inl ⟨rfl,c⟩⟩
    ·exact⟨_,h,i,.inr ⟨rfl,c⟩⟩
    ·exact⟨_,h,i,.inr ⟨rfl,c⟩⟩
    ·exact⟨_,h,i,.inl ⟨rfl,c⟩⟩
   ·rename_i vs k;have l:yielded ops a.tmps j=none:=by unfold yielded;rw[p];simp[g.get _ _ k]
    simp only[l];exact⟨ρ,g,Ext.refl _ _,.inr ⟨by simp,c⟩⟩
   ·exact c.elim
  ·exact c.elim
theorem aaY{C:Ctx}(g:C.Ok){n:Nat}{o:Oper}{K:Env->Heap->Prop}{ρ:Env}{a:Act}{w:World}(j:Fits n a ρ)(d:aen C n o K ρ w.heap)
  {Q:Exit->Act->World->Prop} {next:Act->World->Prop}
  (m:∀a' w' ρ',Fits n a' ρ'->Ext ρ ρ' a a'->dC w w'->K ρ' w'.heap->next a' w'):o.wp C.P a w next Q:=by
 have f:∀x v,ρ.eval x=some v->a.eval x=v:=λx v h=>j.eval h;have b:∀v w',dC w w'->put n o.dst K ρ v w'.heap->next (a.put o.dst v) w':=λv w' t q=>by
  obtain⟨ρ',k,s,h3⟩:=Ai q j;exact m _ _ _ k s t h3
 have c:(Ds C.P C.T o.op ρ.eval).holds (λv=>put n o.dst K ρ v w.heap)->o.wp C.P a w next Q:=λh=>by
  obtain⟨v,p,i⟩:=Mo g.toOk f h;unfold Oper.wp;rw[p w];exact b v w (dC.refl w) i
 unfold aen at d;split at d
 ·split at d
  ·rename_i r e;obtain⟨y,l,i⟩:=d;unfold Oper.wp;rw[Es g.toOk f e l];exact b _ w (dC.refl w) i
  ·exact ajT (YJ g f d) b
 ·exact c d
def Jx(C:Ctx)(n:Nat)(ops:Array Oper)(o:Oper)(K:Env->Heap->Prop)(ρ:Env)(h:Heap):Prop:=
 Ms ops o ρ (λρ=>aen C n o K ρ h) (λρ=>put n o.dst K ρ undef h)
theorem Mt{C:Ctx}(p:C.Ok){n:Nat}{ops:Array Oper}{o:Oper}{i:Nat}(g:ops[i]?=some o){K:Env->Heap->Prop}{ρ:Env}{a:Act}{w:World}
  (m:Fits n a ρ) (q:Jx C n ops o K ρ w.heap) {Q:Exit->Act->World->Prop} {next:Act->World->Prop}
  (d:∀a' w' ρ',Fits n a' ρ'->Ext ρ ρ' a a'->dC w w'->K ρ' w'.heap->next a' w'):wpOp C.P ops Q i next a w:=by
 obtain⟨ρ',c,e,h3⟩:=Ko m q;unfold wpOp;simp only[g];rcases h3 with⟨hw,hr⟩|⟨hw,hr⟩
 ·simp only[hw,if_true];exact .inl (aaY p c hr λa' w' b h x2 x3 f=>d _ _ _ h (e.trans x2) x3 f)
 ·simp only[hw,zj,if_false];obtain⟨b,l,j,k⟩:=Ai hr c;exact d _ _ _ l (e.trans j) (dC.refl w) k
def aeo(C:Ctx)(n:Nat)(ops:Array Oper)(K:Env->Heap->Prop):List Oper->Env->Heap->Prop
 |[],ρ,h=>K ρ h
 |o::r,ρ,h=>Jx C n ops o (aeo C n ops K r) ρ h
def Out(n:Nat)(Q:Exit->Env->Heap->Prop)(ρ:Env)(a:Act)(w:World):Exit->Act->World->Prop:=λe a' w'=>
 ∃ρ',Fits n a' ρ'/\Ext ρ ρ' a a'/\dC w w'/\Q e ρ' w'.heap
theorem Qp{C:Ctx}(c:C.Ok){n:Nat}{ops:Array Oper}{K:Env->Heap->Prop}{Q:Exit->Act->World->Prop}{ρ0:Env}{a0:Act}{w0:World}
  (b:∀a w ρ,Fits n a ρ->Ext ρ0 ρ a0 a->dC w0 w->K ρ w.heap->Q .normal a w):
  ∀(r:List Oper) (i:Nat),(∀j,r[j]?=ops[i+j]?)->∀(ρ:Env) (a:Act) (w:World),Fits n a ρ->Ext ρ0 ρ a0 a->dC w0 w->aeo C n ops K r ρ w.heap->
   wpOps C.P ops Q (List.range' i r.length) a w
 |[],i,_,ρ,a,w,hf,hx,hl,hs=>b a w ρ hf hx hl hs
 |o::r,i,hr,ρ,a,w,hf,hx,hl,hs=>by
  have e:ops[i]?=some o:=by simpa using(hr 0).symm
  rw[zn,List.range'_succ,wpOps_cons];refine Mt c e hf hs λa' w' ρ' d f h3 g=>?_;exact Qp c b r (i+1) (λj=>by have:=hr (j+1);simpa[Nat.add_assoc,Nat.add_comm 1 j]using this) ρ' a' w' d (hx.trans f) (hl.trans h3) g
abbrev az:=List (Addr×Value)
def az.ok:az->Heap->Prop
 |[],_=>True
 |p::r,h=>cellOf h p.1=some p.2/\az.ok r h
def nl(a:Addr):Nat->List Value->az->az
 |_,[],L=>L
 |n,v::r,L=>(a.add n,v)::nl a (n+1) r L
theorem oA{a:Addr}{h:Heap}:∀{vs:List Value} {n:Nat} {L:az},(nl a n vs L).ok h↔aq h a n vs/\L.ok h
 |[],_,L=>by simp[nl,aq]
 |v::r,n,L=>by simp only[nl,az.ok,aq,oA (vs:=r),and_assoc]
def BL.held(r:BL)(y:r.ty.den)(L:az):az:=
 match r.ty,y with
 | .sc s,y=>(r.a,s.enc y)::L
 | .agg l,y=>nl r.a 0 (CC l y) L
 | .arr s,y=>nl r.a 0 (y.map s.enc) L
theorem BL.ahi{r:BL}{y:r.ty.den}{L:az}{b:Heap}(c:r.holds b y){m:Heap}:(r.held y L).ok m↔r.holds m y/\L.ok m:=by
 obtain⟨a,ty,n⟩:=r;cases ty with
 |sc s=>exact Iff.rfl
 |agg l=>exact oA
 |arr s=>exact oA.trans ⟨λx=>⟨⟨c.1,x.1⟩,x.2⟩,λx=>⟨x.1.2,x.2⟩⟩
structure gr where
 op:Nat
 r:BL
 y:r.ty.den
def flat:List gr->az
 |[]=>[]
 |p::r=>p.r.held p.y (flat r)
def gr.ok(p:gr)(w:World):Prop:=p.r.holds w.heap p.y
def waits(ops:Array Oper)(j i:Nat):Bool:=match ops[j]? with
 |some o=>o.after.any λe=>Region.binds .any e&&wG e.on i
 |none=>false
def keep(ops:Array Oper)(j:Nat):List gr->List gr
 |[]=>[]
 |p::r=>bif waits ops j p.op then keep ops j r else p::keep ops j r
theorem sU{ops:Array Oper}{j:Nat}:∀{L:List gr},∀p∈keep ops j L,p∈L
 |[],p,h=>by cases h
 |q::r,p,h=>by
  unfold keep at h;cases hw:waits ops j q.op with
  |true=>rw[hw]at h;exact qH _ (sU p h)
  |false=>
   rw[hw]at h;rcases zb.1 h with rfl|h
   ·exact qO
   ·exact qH _ (sU p h)
theorem Et{ops:Array Oper}{j:Nat}:∀{L:List gr} {p:gr},p∈L->waits ops j p.op=false->p∈keep ops j L
 |q::r,p,h,hw=>by
  unfold keep;rcases zb.1 h with rfl|h
  ·rw[hw];exact qO
  ·cases hq:waits ops j q.op with
   |true=>exact Et h hw
   |false=>exact qH _ (Et h hw)
theorem Ld{ops:Array Oper}{j:Nat}{p:gr}:∀{M:List gr},p∈keep ops j M->waits ops j p.op=false
 |[],h=>by cases h
 |q::r,h=>by
  unfold keep at h;cases hq:waits ops j q.op with
  |true=>rw[hq]at h;exact Ld h
  |false=>
   rw[hq]at h;rcases zb.1 h with rfl|h
   ·exact hq
   ·exact Ld h
theorem GW{ops:Array Oper}{j:Nat}{L a:List gr}(c:∀p∈a,p∈L):∀p∈keep ops j a,p∈keep ops j L:=
 λp b=>Et (c p (sU p b)) (Ld b)
def mJ(P:Program)(ops:Array Oper)(Q:Exit->Act->World->Prop):Nat->List gr->Array Bool->Act->World->Prop
 |0,_,listed,a,w=>Region.ready .any ops listed=[]/\Q .normal a w
 |fuel+1,L,listed,a,w=>
  (Region.ready .any ops listed=[]->Q .normal a w)/\
  ∀i∈Region.ready .any ops listed,wpOp P ops Q i (λa' w'=>(∀p∈keep ops i L,p.ok w')/\mJ P ops Q fuel (keep ops i L) (listed.setIfInBounds i true) a' w') a w
theorem Mu{P:Program}{ops:Array Oper}{Q:Exit->Act->World->Prop}:∀(b:Nat) (L:List gr) (c:Array Bool) (a:Act) (w:World),mJ P ops Q b L c a w->wpAny P .any ops Q b c a w
 |0,_,_,_,_,h=>h
 |b+1,_,_,_,_,h=>⟨h.1,λi d=>wpOp_mono (λa' w' h'=>Mu b _ _ a' w' h'.2) (h.2 i d)⟩
theorem Eu{P:Program}{ops:Array Oper}{Q:Exit->Act->World->Prop}:∀(b:Nat) {L d:List gr} (c:Array Bool) (a:Act) (w:World),(∀p∈d,p∈L)->mJ P ops Q b L c a w->mJ P ops Q b d c a w
 |0,_,_,_,_,_,_,h=>h
 |b+1,_,_,_,_,_,hs,h=>⟨h.1,λi e=>wpOp_mono (λa' w' h'=>⟨λp f=>h'.1 p (GW hs p f),Eu b _ a' w' (GW hs) h'.2⟩) (h.2 i e)⟩
theorem SV{P:Program}{ops:Array Oper}{Q:Exit->Act->World->Prop}{i:Nat}{t:Oper}{v:Value}{T:World->Prop}{N:List gr}(Y:ops[i]?=some t)(B:∀(j:Nat) (o:Oper) cs b,ops[j]?=some o->o.op≠.select cs b)
  (hQ:∀c a w,Q (.panic c) (a.put t.dst v) w->Q (.panic c) a w) (hN:∀p∈N,p.op=i) (hT:∀w,(∀p∈N,p.ok w)->T w):
  ∀(f:Nat) (L:List gr) (d:Array Bool) (a:Act) (w:World),
   (∀j r,ops[j]?=some r->j≠i->d.getD j true=false->(∀e∈r.after,Region.binds .any e=true->e.on≠i)->t.apart ops r=true)->
   i∈Region.ready .any ops d->YieldsIf P ops T t v a->(∀p∈N,p.ok w)->(∀p∈L,p.ok w)->
   mJ P ops Q f (N++L) (d.setIfInBounds i true) (a.put t.dst v) w->mJ P ops Q (f+1) L d a w:=by
 intro f;have z:∀(f:Nat) (L:List gr) (d:Array Bool) (a:Act) (w:World),YieldsIf P ops T t v a->(∀p∈N,p.ok w)->(∀p∈L,p.ok w)->
   mJ P ops Q f (N++L) (d.setIfInBounds i true) (a.put t.dst v) w->
   wpOp P ops Q i (λa' w'=>(∀p∈keep ops i L,p.ok w')/\mJ P ops Q f (keep ops i L) (d.setIfInBounds i true) a' w') a w:=λf L d a w G q I H=>
  G.wpOp Y (hT w q) ⟨λp g=>I p (sU p g),Eu f _ _ _ (λp g=>wV _ (sU p g)) H⟩
 induction f with
 |zero=>
  intro L d a w _ E G q I H;refine⟨λh=>(by rw[h]at E;cases E),λj S=>?_⟩;by_cases l:j=i
  ·subst l;exact z 0 L d a w G q I H
  ·have:=ready_mono S l;rw[H.1]at this;cases this
 |succ f ih=>
  intro L d a w n E G q I H;refine⟨λh=>(by rw[h]at E;cases E),λj S=>?_⟩;by_cases l:j=i
  ·subst l;exact z (f+1) L d a w G q I H
  ·have D:=H.2 j (ready_mono S l);obtain⟨y,r,u,J⟩:=mem_ready.1 S;have x:∀e∈r.after,Region.binds .any e=true->e.on≠i:=λe he M W=>by
    have D:=J e he M;have Z:=(mem_ready.1 E).1;rw[W]at D;rcases Nat.lt_or_ge i d.size with h'|h'
    ·simp[h']at Z D;rw[Z]at D;cases D
    ·simp[Array.getElem?_eq_none h']at D
   have R:(r.after.any λe=>Region.binds .any e&&wG e.on i)=false:=by
    cases hc:r.after.any λe=>Region.binds .any e&&wG e.on i with
    |false=>rfl
    |true=>
     obtain⟨k,X,M⟩:=Array.any_eq_true.1 hc;simp only[qB]at M;exact absurd (zM M.2) (x _ (Array.getElem_mem X) M.1)
   have F:waits ops j i=false:=by unfold waits;rw[u];exact R
   have A:∀p,p∈N->p∈keep ops j (N++L):=λp g=>Et (List.mem_append_left _ g) (by rw[hN p g];exact F);have m:∀p,p∈keep ops j L->p∈keep ops j (N++L):=GW λp g=>wV _ g;have h2:=wpOp_putIf u (n j r u l y x) (λcs b=>B i t cs b Y) (λcs b=>B j r cs b u) hQ G D;have s:∀k ok,ops[k]?=some ok->k≠i->(d.setIfInBounds j true).getD k true=false->
     (∀e∈ok.after,Region.binds .any e=true->e.on≠i)->t.apart ops ok=true:=λk ok X V O U=>by
    refine n k ok X V ?_ U;by_cases K:j=k
    ·subst K;exact y
    ·rw[getD_set_ne true K]at O;exact O
   refine wpOp_mono (λa' w' h3=>⟨λp g=>h3.2.1 p (m p g),ih (keep ops j L) (d.setIfInBounds j true) a' w' s (ready_mono E (Ne.symm l)) h3.1 (λp g=>h3.2.1 p (A p g)) (λp g=>h3.2.1 p (m p g)) ?_⟩) h2;rw[Array.setIfInBounds_comm _ _ l];refine Eu _ _ _ _ (λp g=>?_) h3.2.2;rcases List.mem_append.1 g with g|g
   ·exact A p g
   ·exact m p g
theorem CE{P:Program}{ops:Array Oper}{Q:Exit->Act->World->Prop}{i:Nat}{e:Oper}{v:Value}{T:World->Prop}{N:List gr}{d:Nat}{L:List gr}{b:Array Bool}{a:Act}{w:World}(g:ops[i]?=some e)
  (m:Region.noSelect ops=true) (k:Region.free .any ops b i=true) (o:(Region.ready .any ops b).contains i=true)
  (j:∀c a w,Q (.panic c) (a.put e.dst v) w->Q (.panic c) a w) (r:∀p∈N,p.op=i) (q:∀w,(∀p∈N,p.ok w)->T w) (n:YieldsIf P ops T e v a) (f:∀p∈N,p.ok w) (l:∀p∈L,p.ok w)
  (h:mJ P ops Q d (N++L) (b.setIfInBounds i true) (a.put e.dst v) w):mJ P ops Q (d+1) L b a w:=
 SV g (Region.noSelect_spec m) j r q d L b a w (Region.free_spec g k) (by simpa using o) n f l h
theorem OS:∀{L:List gr} {w0:World},(∀p∈L,p.ok w0)->∀{m:Heap},(flat L).ok m->∀p∈L,p.r.holds m p.y
 |[],_,_,_,_,p,a=>by cases a
 |q::r,w0,h0,m,h,p,a=>by
  have h:=(BL.ahi (h0 q qO)).1 h;rcases zb.1 a with rfl|a
  ·exact h.1
  ·exact OS (λp a=>h0 p (qH _ a)) h.2 p a
def agl(T:kM)(t:TypeId):Bool:=match T.get t with
 |some i=>match i.ty with
  | .sc .slc=>true
  |_=>false
 |none=>false
def takes(T:kM):Op->Bool
 | .convert s d _=>!(agl T s||agl T d)
 | .move _| .assign _| .pick .. | .nilCheck _| .fieldAddr .. | .indexAddr .. | .index .. | .field .. | .extract .. | .binOp .. | .unOp .. | .build .. | .makeFunc .. | .load .. =>true
 | .slice _ _ _ _ none=>true
 | .call c=>match c.callee with
  | .builtin .len| .builtin .cap| .builtin .min| .builtin .max| .builtin .real| .builtin .imag=>true
  |_=>false
 |_=>false
def pf(T:kM)(ops:Array Oper)(a:Array Bool):List Nat->Option Nat
 |[]=>none
 |i::r=>match ops[i]? with
  |some o=>bif takes T o.op&&Region.free .any ops a i then some i else pf T ops a r
  |none=>pf T ops a r
def YK(C:Ctx)(n:Nat)(ops:Array Oper)(i:Nat)(o:Oper)(L:List gr)(K:List gr->Env->Heap->Prop)(ρ:Env)(h:Heap):Prop:=
 Ms ops o ρ (λρ=>match Ds C.P C.T o.op ρ.eval with
  | .no=>match Ah C.T o.op ρ.eval with
   |some r=>∃y:r.ty.den,r.holds h y/\put n o.dst (K (⟨i,r,y⟩::L)) ρ (r.ty.enc y) h
   |none=>False
  |p=>p.holds λv=>put n o.dst (K L) ρ v h) (λρ=>put n o.dst (K L) ρ undef h)
def SX(C:Ctx)(n:Nat)(ops:Array Oper)(K:Nat->Env->Heap->Prop)(ρ:Env)(h:Heap):List Nat->Prop
 |[]=>True
 |[i]=>match ops[i]? with
  |some o=>Jx C n ops o (K i) ρ h
  |none=>False
 |i::j::r=>(match ops[i]? with
  |some o=>Jx C n ops o (K i) ρ h
  |none=>False)/\SX C n ops K ρ h (j::r)
def Aj(C:Ctx)(n:Nat)(ops:Array Oper)(K:Env->Heap->Prop):Nat->Array Bool->List gr->Env->Heap->Prop
 |0,listed,_,ρ,h=>bif (Region.ready .any ops listed).isEmpty then K ρ h else False
 |k+1,listed,L,ρ,h=>match pf C.T ops listed (Region.ready .any ops listed)with
  |some i=>match ops[i]? with
   |some o=>YK C n ops i o L (Aj C n ops K k (listed.setIfInBounds i true)) ρ h
   |none=>False
  |none=>match Region.ready .any ops listed with
   |[]=>K ρ h
   |i::r=>SX C n ops (λi ρ h=>(flat (keep ops i L)).ok h/\Aj C n ops K k (listed.setIfInBounds i true) (keep ops i L) ρ h) ρ h (i::r)
theorem uG{T:kM}{ops:Array Oper}{a:Array Bool}:∀{rs:List Nat} {i:Nat},pf T ops a rs=some i->i∈rs/\Region.free .any ops a i=true
 |[],_,h=>by cases h
 |j::r,i,h=>by
  simp only[pf]at h;split at h
  ·rename_i o b;cases hb:(takes T o.op&&Region.free .any ops a j)with
   |true=>
    rw[hb]at h;cases h;simp only[qB]at hb;exact⟨qO,hb.2⟩
   |false=>
    rw[hb]at h;have:=uG h;exact⟨qH _ this.1,this.2⟩
  ·have:=uG h;exact⟨qH _ this.1,this.2⟩
theorem Qq{C:Ctx}{n:Nat}{ops:Array Oper}{K:Nat->Env->Heap->Prop}{ρ:Env}{h:Heap}:∀{l:List Nat},SX C n ops K ρ h l->∀i∈l,∃o,ops[i]?=some o/\Jx C n ops o (K i) ρ h
 |[],_,i,hi=>by cases hi
 |[j],ha,i,hi=>by
  simp only[qC]at hi;subst hi;simp only[SX]at ha;split at ha
  ·rename_i o a;exact⟨o,a,ha⟩
  ·exact ha.elim
 |j::k::r,ha,i,hi=>by
  obtain⟨b,c⟩:=ha;rcases zb.1 hi with rfl|hi
  ·split at b
   ·rename_i o a;exact⟨o,a,b⟩
   ·exact b.elim
  ·exact Qq c i hi
section
variable {C:Ctx} {n:Nat} {ops:Array Oper} {K:Env->Heap->Prop} {Q:Exit->Act->World->Prop} {ρ0:Env} {a0:Act} {w0:World}
theorem Qr(I:C.Ok)(J:Region.noSelect ops=true)
  (R:∀a w ρ,Fits n a ρ->Ext ρ0 ρ a0 a->dC w0 w->K ρ w.heap->Q .normal a w) (u:∀c a w,¬Q (.panic c) a w):
  ∀(k:Nat) (b:Array Bool) (L:List gr) (ρ:Env) (a:Act) (w:World),Fits n a ρ->Ext ρ0 ρ a0 a->dC w0 w->(∀p∈L,p.ok w)->
   Aj C n ops K k b L ρ w.heap->mJ C.P ops Q k L b a w
 |0,b,L,ρ,a,w,hf,hx,hl,hL,h=>by
  simp only[Aj]at h;cases hb:(Region.ready .any ops b).isEmpty with
  |false=>rw[hb]at h;exact h.elim
  |true=>rw[hb]at h;exact⟨by simpa using hb,R _ _ _ hf hx hl h⟩
 |k+1,b,L,ρ,a,w,hf,hx,hl,hL,h=>by
  have M:=Qr I J R u k;simp only[Aj]at h;split at h
  ·rename_i i G;obtain⟨F,f⟩:=uG G;have e:(Region.ready .any ops b).contains i=true:=by simpa using F
   split at h
   ·rename_i o E;unfold YK at h;obtain⟨ρ',H,V,h3⟩:=Ko hf h;have s:∀c a w (v:Value),Q (.panic c) (Act.put a o.dst v) w->Q (.panic c) a w:=λc a w v hq=>absurd hq (u c _ w);have Y:∀x v,Env.eval ρ' x=some v->a.eval x=v:=λx v h=>H.eval h;rcases h3 with⟨t,g⟩|⟨t,g⟩
    ·have q:(Ds C.P C.T o.op (Env.eval ρ')).holds (λv=>put n o.dst (Aj C n ops K k (b.setIfInBounds i true) L) ρ' v w.heap)->
       mJ C.P ops Q (k+1) L b a w:=λd=>by
      obtain⟨v,hv,W⟩:=Mo I.toOk Y d;obtain⟨m,D,A,B⟩:=Ai W H;exact CE (N:=[]) (T:=λ_=>True) E J f e (λc a w=>s c a w v) (λp d=>by cases d) (λ_ _=>trivial) (.inl ⟨t,λw _=>hv w⟩) (λp d=>by cases d) hL
       (M _ L m _ w D (hx.trans (V.trans A)) hl hL B)
     split at g
     ·split at g
      ·rename_i r z;obtain⟨y,Z,W⟩:=g;obtain⟨m,D,A,B⟩:=Ai W H;have S:∀p∈[(⟨i,r,y⟩:gr)],p.ok w:=λp d=>by rw[qC]at d;subst d;exact Z
       refine CE (N:=[⟨i,r,y⟩]) (T:=λw=>r.holds w.heap y) E J f e (λc a w=>s c a w _) (λp d=>by rw[qC]at d;subst d;rfl)
        (λw h=>h ⟨i,r,y⟩ (qC.2 rfl)) (.inl ⟨t,λw t=>Es I.toOk Y z t⟩) S hL ?_
       refine M _ (⟨i,r,y⟩::L) m _ w D (hx.trans (V.trans A)) hl (λp d=>?_) B;rcases zb.1 d with rfl|d
       ·exact Z
       ·exact hL p d
      ·exact g.elim
     ·exact q g
    ·obtain⟨m,D,A,B⟩:=Ai g H;exact CE (N:=[]) (T:=λ_=>True) E J f e (λc a w=>s c a w undef) (λp d=>by cases d) (λ_ _=>trivial) (.inr ⟨t,rfl⟩) (λp d=>by cases d) hL
      (M _ L m _ w D (hx.trans (V.trans A)) hl hL B)
   ·exact h.elim
  ·split at h
   ·rename_i g;exact⟨λ_=>R _ _ _ hf hx hl h,λi G=>by rw[g]at G;cases G⟩
   ·rename_i i r g;refine⟨λh0=>absurd (g▸h0) (by simp),λj X=>?_⟩;rw[g]at X;obtain⟨o,E,U⟩:=Qq h j X;have l:∀p∈keep ops j L,p.ok w:=λp d=>hL p (sU p d);exact Mt I E hf U λa' w' ρ' x1 x2 x3 O=>⟨OS l O.1,M _ (keep ops j L) ρ' a' w' x1 (hx.trans x2) (hl.trans x3) (OS l O.1) O.2⟩
end
def sched(T:kM)(ops:Array Oper):Nat->Array Bool->Option (List (Nat×Bool))
 |0,listed=>bif (Region.ready .any ops listed).isEmpty then some []else none
 |k+1,listed=>match pf T ops listed (Region.ready .any ops listed)with
  |some i=>(sched T ops k (listed.setIfInBounds i true)).map ((i,true)::·)
  |none=>match Region.ready .any ops listed with
   |[]=>some []
   |[i]=>(sched T ops k (listed.setIfInBounds i true)).map ((i,false)::·)
   |_::_::_=>none
def ug(C:Ctx)(n:Nat)(ops:Array Oper)(K:Env->Heap->Prop):List (Nat×Bool)->List gr->Env->Heap->Prop
 |[],_,ρ,h=>K ρ h
 |(i,true)::r,L,ρ,h=>match ops[i]? with
  |some o=>YK C n ops i o L (ug C n ops K r) ρ h
  |none=>False
 |(i,false)::r,L,ρ,h=>match ops[i]? with
  |some o=>Jx C n ops o (λρ h=>(flat (keep ops i L)).ok h/\ug C n ops K r (keep ops i L) ρ h) ρ h
  |none=>False
theorem Qs{C:Ctx}{n:Nat}{ops:Array Oper}{K:Env->Heap->Prop}:∀(k:Nat) (a:Array Bool) (l:List (Nat×Bool)),sched C.T ops k a=some l->
  Aj C n ops K k a=ug C n ops K l
 |0,a,l,hs=>by
  simp only[sched]at hs;cases hb:(Region.ready .any ops a).isEmpty with
  |false=>rw[hb]at hs;cases hs
  |true=>
   rw[hb]at hs;cases hs;funext L ρ h;simp only[Aj,hb,ug,cond_true]
 |k+1,a,l,hs=>by
  have c:=λi=>Qs (C:=C) (n:=n) (ops:=ops) (K:=K) k (a.setIfInBounds i true);funext L ρ h;unfold sched at hs;unfold Aj;cases hi:pf C.T ops a (Region.ready .any ops a)with
  |some i=>
   rw[hi]at hs;obtain⟨l',b,rfl⟩:=ve.1 hs;simp only[ug,c i l' b]
  |none=>
   rw[hi]at hs;generalize d:Region.ready .any ops a=rd at hs
   match rd,hs with
   |[],hs=>cases hs;simp only[ug]
   |[i],hs=>
    obtain⟨l',b,rfl⟩:=ve.1 hs;simp only[SX,ug,c i l' b]
def OT(C:Ctx)(n:Nat)(ops:Array Oper)(a:Bool)(K:Env->Heap->Prop)(ρ:Env)(h:Heap):Prop:=
 match a with
 |false=>aeo C n ops K ops.toList ρ h
 |true=>bif Region.noSelect ops then(match sched C.T ops ops.size (vA ops.size false)with
  |some l=>ug C n ops K l [] ρ h
  |none=>Aj C n ops K ops.size (vA ops.size false) [] ρ h)else False
theorem SY{C:Ctx}(g:C.Ok){n:Nat}{id:Nat}{ops:Array Oper}{b:Bool}{Q:Exit->Env->Heap->Prop}{ρ:Env}{a:Act}{w:World}(i:Fits n a ρ)
  (h:OT C n ops b (Q .normal) ρ w.heap):(Code.region id ops b).wp C.P (λe a' w'=>(∀c,e≠.panic c)/\Out n Q ρ a w e a' w') a w:=by
 cases b with
 |false=>
  refine wp_region ?_;have:=Qp g (Q:=λe a' w'=>(∀c,e≠.panic c)/\Out n Q ρ a w e a' w') (K:=Q .normal) (ρ0:=ρ) (a0:=a) (w0:=w) (λa' w' ρ' f x2 x3 d=>⟨λc e=>(by cases e),ρ',f,x2,x3,d⟩)
   ops.toList 0 (λj=>by simp) ρ a w i (Ext.refl _ _) (dC.refl _) h
  rw[List.range_eq_range'];simpa using this
 |true=>
  simp only[OT]at h;cases hb:Region.noSelect ops with
  |false=>rw[hb]at h;exact h.elim
  |true=>
   rw[hb]at h;have h:Aj C n ops (Q .normal) ops.size (vA ops.size false) [] ρ w.heap:=by
    simp only[cond_true]at h;split at h
    ·rename_i l o;rw[Qs _ _ _ o];exact h
    ·exact h
   refine wp_region_any g.mixed (Mu _ [] _ _ _ ?_);exact Qr g hb (Q:=λe a' w'=>(∀c,e≠.panic c)/\Out n Q ρ a w e a' w') (ρ0:=ρ) (a0:=a) (w0:=w) (λa' w' ρ' f x2 x3 d=>⟨λc e=>(by cases e),ρ',f,x2,x3,d⟩)
    (λc a w k=>k.1 c rfl) _ _ [] ρ a {w with drawn:=w.drawn+1} i (Ext.refl _ _) ⟨rfl,rfl,rfl,Nat.le_succ _⟩ (λp m=>by cases m) h
def bg{σ:Type}(rest:σ->Heap->Prop)(B:(σ->Heap->Prop)->Prop):Prop:=∃R:σ->Heap->Prop,(∀s h,R s h->rest s h)/\B R
def aL{σ:Type}(B:σ->(σ->Heap->Prop)->Heap->Prop)(s:σ)(h:Heap):Prop:=
 ∃(τ:Type) (V:τ->σ) (I:τ->Heap->Prop) (μ:τ->Nat) (t0:τ),s=V t0/\I t0 h/\∀t h,I t h->B (V t) (λb h'=>∃a,b=V a/\I a h'/\μ a<μ t) h
theorem aaZ{P:Program}{c:Code}{Q:Exit->Act->World->Prop}{a:Act}{w:World}{σ:Type}(R:σ->Act->World->Prop)(μ:σ->World->Nat)(t:σ)(B:R t a w)
  (i:∀s a w,R s a w->c.wp P (Exit.then (λa' w'=>∃m,R m a' w'/\μ m w'<μ s w) Q) a w):(Code.loop c).wp P Q a w:=by
 intro b k cs;have q:∀n s a w,μ s w=n->R s a w->
   ∃e a' w',Q e a' w'/\Arrives P (lone (b.at a (.code c::.inLoop c::k)) cs w) b k cs e a' w':=by
  intro n
  induction n using Nat.strongRecOn with
  |_ n ih=>
   intro s a w z A;obtain⟨e,j,g,f,d⟩:=i s a w A b (.inLoop c::k) cs;cases e with
   |normal=>
    obtain⟨m,p,r⟩:=f;obtain⟨u,y,v,o,h⟩:=ih (μ m g) (z▸r) m j g rfl p;exact⟨u,y,v,o,.of_steps (Steps.trans d (.one step_inLoop)) h⟩
   |exit id=>exact⟨_,j,g,f,.pass (x:=.inLoop c) rfl (λ_ _=>.inl (by simp)) d⟩
   |goto l=>exact⟨_,j,g,f,.pass (x:=.inLoop c) rfl (λ_ _=>.inl (by simp)) d⟩
   |ret=>exact⟨_,j,g,f,.pass (x:=.inLoop c) rfl (λ_ _=>.inl (by simp)) d⟩
   |panic ch=>exact⟨_,j,g,f,.pass (x:=.inLoop c) rfl (λ_ _=>.inl (by simp)) d⟩
   |outgrown=>exact⟨_,j,g,f,.pass (x:=.inLoop c) rfl (λ_ _=>.inl (by simp)) d⟩
 obtain⟨e,a',w',f,d⟩:=q _ t a w rfl B;exact⟨e,a',w',f,.of_steps (.one step_loop) d⟩
inductive al where
 |n
 |two (a b:al)
 |inn (a:al)
 |loop (σ:dX) (κ:dm) (a:al)
 |join (σ:dX) (κ:dm) (a:al)
 |scope (l:Nat) (σ:dX) (κ:dm) (pre rest:List al) (fwd:List (Nat×List al))
 |fwd (a:al) (fwd:List (Nat×List al))
def al.fst:al->al
 | .two a _=>a
 |_=>.n
def al.snd:al->al
 | .two _ b=>b
 |_=>.n
def al.sub:al->al
 | .inn a=>a
 |_=>.n
abbrev QT:=Exit->Env->Heap->Prop
def Mw(σ:dX)(κ:dm)(ρ:Env)(K:σ.den->Heap->Prop)(Q:QT):QT
 | .normal,ρ',h=>bif within σ κ ρ' (ρ'.length-ρ.length)then(match σ.read ρ' with|some s=>K s h|none=>False)else False
 |e,ρ',h=>Q e ρ' h
def Jy(next:Env->Heap->Prop)(Q:QT):QT
 | .normal,ρ,h=>next ρ h
 |e,ρ,h=>Q e ρ h
def aba(id:Nat)(Q:QT):QT
 | .exit i,ρ,h=>bif wG i id then Q .normal ρ h else Q (.exit i) ρ h
 |e,ρ,h=>Q e ρ h
abbrev Rec:=Code->al->QT->Env->Heap->Prop
def BM(rec:Rec):List Code->List al->QT->Env->Heap->Prop
 |[],_,Q,ρ,h=>Q .normal ρ h
 |c::cs,[],Q,ρ,h=>rec c .n (Jy (BM rec cs [] Q) Q) ρ h
 |c::cs,x::xs,Q,ρ,h=>rec c x (Jy (BM rec cs xs Q) Q) ρ h
def chain:Code->Nat->Option (List Code×List Code)
 | .seq a b,l=>match chain a l with
  |some (p,r)=>some (p,r++[b])
  |none=>match chain b l with
   |some (p,r)=>some (a::p,r)
   |none=>none
 | .label l',l=>bif wG l' l then some ([],[])else none
 |_,_=>none
def agm(a:List (Nat×List al))(l:Nat):Option (List al):=
 match a with
 |[]=>none
 |p::r=>bif wG p.1 l then some p.2 else agm r l
def Jz(rec:Rec)(c:Code)(a:List (Nat×List al))(Q:QT):Nat->QT
 |0=>λ_ _ _=>False
 |g+1=>λe ρ h=>match e with
  | .goto l=>match agm a l with
   |some xs=>match chain c l with
    |some (_,r)=>BM rec r xs (Jz rec c a Q g) ρ h
    |none=>False
   |none=>Q (.goto l) ρ h
  |e=>Q e ρ h
def YL(l:Nat)(σ:dX)(κ:dm)(ρ:Env)(K:σ.den->Heap->Prop)(Q:QT):QT
 | .goto l',ρ',h=>bif wG l' l then(bif within σ κ ρ' (ρ'.length-ρ.length)then(match σ.read ρ' with|some s=>K s h|none=>False)else False)else Q (.goto l') ρ' h
 |e,ρ',h=>Q e ρ' h
def SZ(c:Code)(Q:QT):QT
 | .goto l,ρ,h=>match findLabel c l with
  |none=>Q (.goto l) ρ h
  |some _=>False
 |e,ρ,h=>Q e ρ h
def Ta(C:Ctx)(n:Nat)(rec:Rec)(c:Code)(d:al)(Q:QT)(ρ:Env)(h:Heap):Prop:=
 match d with
 | .join σ κ a=>bg (λs h=>Q .normal (σ.vals s (κ.over ρ)) h) (λK=>rec c a (Mw σ κ ρ K Q) ρ h)
 |d=>match c with
  | .skip=>Q .normal ρ h
  | .label _=>Q .normal ρ h
  | .region _ ops draw=>OT C n ops draw (Q .normal) ρ h
  | .seq a b=>rec a d.fst (Jy (rec b d.snd Q) Q) ρ h
  | .cond x a b=>match ρ.eval x with
   |some (.bool t)=>Br t (rec a d.fst Q ρ h) (rec b d.snd Q ρ h)
   |_=>False
  | .block id c=>rec c d.sub (aba id Q) ρ h
  | .exit id=>Q (.exit id) ρ h
  | .goto l=>Q (.goto l) ρ h
  | .ret=>Q .ret ρ h
  | .loop c=>match d with
   | .loop σ κ a=>match σ.read ρ with
    |some s0=>aL (λs K h=>rec c a (Mw σ κ (σ.vals s (κ.over ρ)) K Q) (σ.vals s (κ.over ρ)) h) s0 h
    |none=>False
   |_=>False
  | .scope c=>match d with
   | .scope l σ κ pre rest fwd=>match chain c l with
    |some (p,r)=>BM rec p pre (Jy (λρ' h'=>match σ.read ρ' with
     |some s0=>aL (λs K h=>BM rec r rest (Jz rec c fwd (YL l σ κ (σ.vals s (κ.over ρ')) K (SZ c Q)) 4) (σ.vals s (κ.over ρ')) h) s0 h'
     |none=>False) (SZ c Q)) ρ h
    |none=>False
   | .fwd a fwd=>rec c a (Jz rec c fwd (SZ c Q) 4) ρ h
   |_=>False
  |_=>False
def vc(C:Ctx)(n:Nat):Nat->Rec
 |0=>λ_ _ _ _ _=>False
 |f+1=>Ta C n (vc C n f)
def JA(C:Ctx)(n:Nat)(rec:Rec):Prop:=∀(c:Code) (b:al) (Q:QT) (ρ:Env) (a:Act) (w:World),Fits n a ρ->rec c b Q ρ w.heap->c.wp C.P (Out n Q ρ a w) a w
section
variable {C:Ctx} {n:Nat} {Q:QT} {ρ ρ':Env} {a a':Act} {w w':World}
theorem Out.base{e:Exit}{c:Act}{b:World}(g:Ext ρ ρ' a a')(j:dC w w')(h:Out n Q ρ' a' w' e c b):Out n Q ρ a w e c b:=by obtain⟨d,k,f,h3,i⟩:=h;exact⟨d,k,g.trans f,j.trans h3,i⟩
theorem Out.then{next:Env->Heap->Prop}{N:Act->World->Prop}{g:Exit->Act->World->Prop}{e:Exit}{c:Act}{b:World}(h:Out n (Jy next Q) ρ a w e c b)
  (k:∀ρ',Fits n c ρ'->Ext ρ ρ' a c->dC w b->next ρ' b.heap->N c b) (l:Out n Q ρ a w e c b->e≠.normal->g e c b):Exit.then N g e c b:=by
 obtain⟨d,j,f,h3,i⟩:=h;cases e<;>first|exact k d j f h3 i|exact l ⟨d,j,f,h3,i⟩ (by simp)
def oB(P:Program):List Code->(Exit->Act->World->Prop)->Act->World->Prop
 |[],Q,a,w=>Q .normal a w
 |c::cs,Q,a,w=>c.wp P (Exit.then (oB P cs Q) Q) a w
theorem lm{P:Program}{Q d:Exit->Act->World->Prop}(b:∀e a w,Q e a w->d e a w):∀(l:List Code) (a:Act) (w:World),oB P l Q a w->oB P l d a w
 |[],_,_,h=>b _ _ _ h
 |c::cs,a,w,h=>wp_mono h λe a w h=>by
  cases e<;>first|exact lm b cs a w h|exact b _ _ _ h
theorem rg{rec:Rec}(d:JA C n rec):∀(l:List Code) (xs:List al) (Q:QT) (ρ:Env) (a:Act) (w:World),Fits n a ρ->BM rec l xs Q ρ w.heap->oB C.P l (Out n Q ρ a w) a w
 |[],_,Q,ρ,a,w,hf,h=>⟨ρ,hf,Ext.refl _ _,dC.refl _,h⟩
 |c::cs,[],Q,ρ,a,w,hf,h=>by
  refine wp_mono (d c .n _ ρ a w hf h) λe a' w' b=>b.then (λρ' g x2 x3 f=>?_) λb _=>b;exact lm (λe a w h=>h.base x2 x3) cs a' w' (rg d cs [] Q ρ' a' w' g f)
 |c::cs,x::xs,Q,ρ,a,w,hf,h=>by
  refine wp_mono (d c x _ ρ a w hf h) λe a' w' b=>b.then (λρ' g x2 x3 f=>?_) λb _=>b;exact lm (λe a w h=>h.base x2 x3) cs a' w' (rg d cs xs Q ρ' a' w' g f)
end
theorem CF{P:Program}{b:Code}{Q:Exit->Act->World->Prop}:∀(l:List Code) (a:Act) (w:World),oB P (l++[b]) Q a w->oB P l (Exit.then (b.wp P Q) Q) a w
 |[],a,w,h=>by
  refine wp_mono h λe a w h=>?_;cases e<;>exact h
 |c::cs,a,w,h=>wp_mono h λe a w h=>by
  cases e<;>first|exact CF cs a w h|exact h
theorem tK:∀{c:Code} {l:Nat} {p r:List Code},chain c l=some (p,r)->∃k,findLabel c l=some k/\
  (∀{P:Program} {Q:Exit->Act->World->Prop} {a:Act} {w:World},oB P r Q a w->k.wp P Q a w)/\
  (∀{P:Program} {Q:Exit->Act->World->Prop} {a:Act} {w:World},oB P p (Exit.then (oB P r Q) Q) a w->c.wp P Q a w)
 | .seq x y,l,p,r,h=>by
  simp only[chain]at h;split at h
  ·rename_i o m d;cases h;obtain⟨k,i,j,h3⟩:=tK d;refine⟨.seq k y,by simp[findLabel,i],λ{P Q a w} h=>wp_seq (j (CF m a w h)),λ{P Q a w} h=>wp_seq (h3 ?_)⟩;refine lm (λe a w g=>?_) p a w h;cases e<;>first|exact CF m a w g|exact g
  ·rename_i d;split at h
   ·rename_i o m n;cases h;obtain⟨k,i,j,h3⟩:=tK n;have q:findLabel x l=none:=by
     clear i j h3 n
     induction x with
     |seq a b iha ihb=>
      simp only[chain]at d;split at d
      ·cases d
      ·rename_i s;split at d
       ·cases d
       ·rename_i f;simp[findLabel,iha s,ihb f]
     |label l'=>
      simp only[chain]at d;cases f:wG l' l with
      |true=>rw[f]at d;cases d
      |false=>
       have:¬l'=l:=λe=>by subst e;simp at f
       simp[findLabel,this]
     |_=>rfl
    refine⟨k,by simp[findLabel,q,i],j,λ{P Q a w} h=>wp_seq (wp_mono h λe a w g=>?_)⟩;cases e<;>first|exact h3 g|exact g
   ·cases h
 | .label l',l,p,r,h=>by
  simp only[chain]at h;cases f:wG l' l with
  |false=>rw[f]at h;cases h
  |true=>
   rw[f]at h;cases h;have:=zM f;subst this;exact⟨.skip,by simp[findLabel],λh=>wp_skip h,λh=>wp_label h⟩
 | .skip,_,_,_,h=>by cases h
 | .region ..,_,_,_,h=>by cases h
 | .cond ..,_,_,_,h=>by cases h
 | .block ..,_,_,_,h=>by cases h
 | .loop _,_,_,_,h=>by cases h
 | .rangeFunc ..,_,_,_,h=>by cases h
 | .exit _,_,_,_,h=>by cases h
 | .scope _,_,_,_,h=>by cases h
 | .goto _,_,_,_,h=>by cases h
 | .ret,_,_,_,h=>by cases h
 | .refuse _,_,_,_,h=>by cases h
section
variable {P:Program} {c:Code} {Q:Exit->Act->World->Prop} {b:Frame} {k:List Item} {cs:List Frame}
def Reach(P:Program)(c:Code)(Q:Exit->Act->World->Prop)(b:Frame)(k:List Item)(d:List Frame)(a:Act)(w:World)(r:Code):Prop:=
 ∃e a' w',Q e a' w'/\Arrives P (lone (b.at a (.code r::.inScope c::k)) d w) b k d e a' w'
def Good(P:Program)(c:Code)(Q:Exit->Act->World->Prop)(b:Frame)(k:List Item)(d:List Frame):Exit->Act->World->Prop
 | .goto l,a,w=>match findLabel c l with
  |some r=>Reach P c Q b k d a w r
  |none=>Q (.goto l) a w
 |e,a,w=>Q e a w
theorem Tb{m:Machine}{e:Exit}{a:Act}{w:World}(f:Good P c Q b k cs e a w)(d:Arrives P m b (.inScope c::k) cs e a w):
  ∃e a' w',Q e a' w'/\Arrives P m b k cs e a' w':=by
 cases e with
 |normal=>exact⟨.normal,a,w,f,Steps.trans d (.one step_inScope)⟩
 |exit id=>exact⟨.exit id,a,w,f,λh j=>d h (by simp[exitTo,j])⟩
 |goto l=>
  simp only[Good]at f;cases hf:findLabel c l with
  |none=>
   rw[hf]at f;exact⟨.goto l,a,w,f,λh j=>d h (by simp[gotoIn,hf,j])⟩
  |some r=>
   rw[hf]at f;obtain⟨p,n,o,i,g⟩:=f;exact⟨p,n,o,i,.of_steps (d _ (by simp[gotoIn,hf])) g⟩
 |ret=>exact⟨_,a,w,f,d⟩
 |panic ch=>exact⟨_,a,w,f,d⟩
 |outgrown=>exact⟨_,a,w,f,d⟩
theorem Tc{r:Code}{a:Act}{w:World}(h:r.wp P (Good P c Q b k cs) a w):Reach P c Q b k cs a w r:=by obtain⟨e,a',w',f,d⟩:=h b (.inScope c::k) cs;exact Tb f d
theorem FN{a:Act}{w:World}(h:∀b k cs,c.wp P (Good P c Q b k cs) a w):(Code.scope c).wp P Q a w:=by intro b k cs;obtain⟨e,l,m,i,d⟩:=h b k cs b (.inScope c::k) cs;obtain⟨g,a',w',j,f⟩:=Tb i d;exact⟨g,a',w',j,.of_steps (.one step_scope) f⟩
end
section
variable {C:Ctx} {n:Nat} {rec:Rec}
theorem Ev(q:JA C n rec){c:Code}{o:List (Nat×List al)}{s:QT}{t:Exit->Act->World->Prop}{b:Frame}{k:List Item}{u:List Frame}{ρ:Env}{a0:Act}{w0:World}
  (j:∀e f d i,Fits n d f->Ext ρ f a0 d->dC w0 i->s e f i.heap->Good C.P c t b k u e d i):
  ∀(g:Nat) (e:Exit) (f:Env) (d:Act) (i:World),Fits n d f->Ext ρ f a0 d->dC w0 i->Jz rec c o s g e f i.heap->Good C.P c t b k u e d i
 |0,_,_,_,_,_,_,_,h=>h.elim
 |g+1,e,f,d,i,hf,hx,hl,h=>by
  cases e with
  |goto l=>
   simp only[Jz]at h;split at h
   ·split at h
    ·rename_i p r m;obtain⟨F,A,E,_⟩:=tK m;simp only[Good,A];refine Tc (E ?_);refine lm (λe a w D=>?_) _ _ _ (rg q _ _ _ f d i hf h);obtain⟨v,z,x,y,B⟩:=D;exact Ev q j g e v a w z (hx.trans x) (hl.trans y) B
    ·exact h.elim
   ·exact j _ _ _ _ hf hx hl h
  |normal=>exact j _ _ _ _ hf hx hl h
  |exit id=>exact j _ _ _ _ hf hx hl h
  |ret=>exact j _ _ _ _ hf hx hl h
  |panic ch=>exact j _ _ _ _ hf hx hl h
  |outgrown=>exact j _ _ _ _ hf hx hl h
theorem pv{c:Code}{Q:QT}{b:Frame}{k:List Item}{m:List Frame}{ρ:Env}{a0:Act}{w0:World}{e:Exit}{a:Env}{i:Act}{j:World}
  (f:Fits n i a) (d:Ext ρ a a0 i) (g:dC w0 j) (h:SZ c Q e a j.heap):Good C.P c (Out n Q ρ a0 w0) b k m e i j:=by
 cases e with
 |goto l=>
  simp only[SZ]at h;simp only[Good];split at h
  ·rename_i o;simp only[o];exact⟨a,f,d,g,h⟩
  ·exact h.elim
 |normal=>exact⟨a,f,d,g,h⟩
 |exit id=>exact⟨a,f,d,g,h⟩
 |ret=>exact⟨a,f,d,g,h⟩
 |panic ch=>exact⟨a,f,d,g,h⟩
 |outgrown=>exact⟨a,f,d,g,h⟩
theorem Qt{a:Act}{σ:dX}{κ:dm}{ρ:Env}{s:σ.den}(b:Fits n a ρ)(c:σ.read ρ=some s):Fits n a (σ.vals s (κ.over ρ))/\Ext ρ (σ.vals s (κ.over ρ)) a a:=
 b.sT b (λ_ _ _=>rfl) c
theorem Wg(E:JA C n rec){c:Code}{l:Nat}{σ:dX}{κ:dm}{pre rest:List al}{B:List (Nat×List al)}{p r:List Code}(W:chain c l=some (p,r)){Q:QT}{ρ:Env}{a:Act}{w:World}(hf:Fits n a ρ)
  (h:BM rec p pre (Jy (λρ' h'=>match σ.read ρ' with
     |some T=>aL (λs K h=>BM rec r rest (Jz rec c B (YL l σ κ (σ.vals s (κ.over ρ')) K (SZ c Q)) 4) (σ.vals s (κ.over ρ')) h) T h'
     |none=>False) (SZ c Q)) ρ w.heap):(Code.scope c).wp C.P (Out n Q ρ a w) a w:=by
 refine FN λb k cs=>?_;obtain⟨kk,Y,h2,h3⟩:=tK W;refine h3 (lm (λe a' w' x=>?_) _ _ _ (rg E _ _ _ ρ a w hf h));refine x.then (λρ' N x2 x3 z=>?_) (λx _=>?_)
 ·split at z
  ·rename_i T L;obtain⟨τ,V,I,μ,t0,e0,hI,i⟩:=z;subst e0;have g:=Qt (κ:=κ) N L;have y:∀(m:Nat) (t:τ) (v:Act) (j:World),μ t=m->I t j.heap->Fits n v (σ.vals (V t) (κ.over ρ'))->Ext ρ' (σ.vals (V t) (κ.over ρ')) a' v->dC w' j->
     oB C.P r (Good C.P c (Out n Q ρ a w) b k cs) v j:=by
    intro m
    induction m using Nat.strongRecOn with
    |_ m ih=>
     intro t v j hm J D d f;refine lm (λe a2 X x=>?_) _ _ _ (rg E _ _ _ _ v j D (i t j.heap J));obtain⟨U,A,F,G,M⟩:=x;refine Ev E (ρ:=σ.vals (V t) (κ.over ρ')) (a0:=v) (w0:=j) (λe S a3 w3 q o z3 z4=>?_) 4 e U a2 X A F G M;cases e with
     |goto l'=>
      simp only[YL]at z4;cases hb:wG l' l with
      |false=>
       rw[hb]at z4;exact pv q (x2.trans (d.trans o)) (x3.trans (f.trans z3)) z4
      |true=>
       rw[hb]at z4;have:=zM hb;subst this;simp only[Good,Y];cases hw:within σ κ S (S.length-(σ.vals (V t) (κ.over ρ')).length)with
       |false=>rw[hw]at z4;exact z4.elim
       |true=>
        rw[hw]at z4;simp only[cond_true]at z4;split at z4
        ·rename_i s' H;have u:∀t,σ.has t=false->(κ.over []).fa t=false->a3.tmps[t]?=a'.tmps[t]?:=λt O R=>by
          rw[o.within hw t O R,d.sT t O R]
         obtain⟨u1,u2⟩:=N.sT (κ:=κ) q u H;obtain⟨t',e1,Z,i2⟩:=z4;subst e1;exact Tc (h2 (ih _ (by rw[<-hm];exact i2) t' a3 w3 rfl Z u1 u2 (f.trans z3)))
        ·exact z4.elim
     |normal=>exact pv q (x2.trans (d.trans o)) (x3.trans (f.trans z3)) z4
     |exit id=>exact pv q (x2.trans (d.trans o)) (x3.trans (f.trans z3)) z4
     |ret=>exact pv q (x2.trans (d.trans o)) (x3.trans (f.trans z3)) z4
     |panic ch=>exact pv q (x2.trans (d.trans o)) (x3.trans (f.trans z3)) z4
     |outgrown=>exact pv q (x2.trans (d.trans o)) (x3.trans (f.trans z3)) z4
   exact y _ t0 a' w' rfl hI g.1 g.2 (dC.refl _)
  ·exact z.elim
 ·obtain⟨ρ1,A,F,G,M⟩:=x;exact pv A F G M
theorem ahj(U:C.Ok)(o:JA C n rec):JA C n (Ta C n rec):=by
 intro c X Q ρ a w g h;have q:∀{σ:dX} {κ:dm} {K:σ.den->Heap->Prop} {e:Exit} {a':Act} {w':World},Out n (Mw σ κ ρ K Q) ρ a w e a' w'->(∀s h,K s h->Q .normal (σ.vals s (κ.over ρ)) h)->Out n Q ρ a w e a' w':=by
  intro σ κ K e a' w' j hk;obtain⟨ρ',f,x2,x3,d⟩:=j;cases e with
  |normal=>
   simp only[Mw]at d;cases hw:within σ κ ρ' (ρ'.length-ρ.length)with
   |false=>rw[hw]at d;exact d.elim
   |true=>
    rw[hw]at d;simp only[cond_true]at d;split at d
    ·rename_i s W;obtain⟨J,H⟩:=g.sT (κ:=κ) f (x2.within hw) W;exact⟨_,J,H,x3,hk _ _ d⟩
    ·exact d.elim
  |exit id=>exact⟨ρ',f,x2,x3,d⟩
  |goto l=>exact⟨ρ',f,x2,x3,d⟩
  |ret=>exact⟨ρ',f,x2,x3,d⟩
  |panic ch=>exact⟨ρ',f,x2,x3,d⟩
  |outgrown=>exact⟨ρ',f,x2,x3,d⟩
 unfold Ta at h;split at h
 ·rename_i σ κ x;obtain⟨K,N,O⟩:=h;exact wp_mono (o c x _ ρ a w g O) λe a' w' j=>q j N
 ·split at h
  ·exact wp_skip ⟨ρ,g,Ext.refl _ _,dC.refl _,h⟩
  ·exact wp_label ⟨ρ,g,Ext.refl _ _,dC.refl _,h⟩
  ·exact wp_mono (SY U g h) λe a' w' j=>j.2
  ·rename_i x y;refine wp_seq (wp_mono (o x _ _ ρ a w g h) λe a' w' j=>j.then (λρ' f x2 x3 d=>?_) λj _=>j);exact wp_mono (o y _ _ ρ' a' w' f d) λe Y ab j=>j.base x2 x3
  ·rename_i x y z;split at h
   ·rename_i t ht;refine wp_cond_split (g.eval ht) (λe=>?_) (λe=>?_)
    ·subst e;exact o y _ _ ρ a w g h
    ·subst e;exact o z _ _ ρ a w g h
   ·exact h.elim
  ·rename_i id x;refine wp_block (wp_mono (o x _ _ ρ a w g h) λe a' w' j=>?_);obtain⟨ρ',f,x2,x3,d⟩:=j;cases e with
   |exit i=>
    simp only[Exit.inBlock];simp only[aba]at d;cases hb:wG i id with
    |true=>
     rw[hb]at d;rw[if_pos (zM hb)];exact⟨ρ',f,x2,x3,d⟩
    |false=>
     rw[hb]at d;rw[if_neg λe=>by subst e;simp at hb];exact⟨ρ',f,x2,x3,d⟩
   |normal=>exact⟨ρ',f,x2,x3,d⟩
   |goto l=>exact⟨ρ',f,x2,x3,d⟩
   |ret=>exact⟨ρ',f,x2,x3,d⟩
   |panic ch=>exact⟨ρ',f,x2,x3,d⟩
   |outgrown=>exact⟨ρ',f,x2,x3,d⟩
  ·exact wp_exit ⟨ρ,g,Ext.refl _ _,dC.refl _,h⟩
  ·exact wp_goto ⟨ρ,g,Ext.refl _ _,dC.refl _,h⟩
  ·exact wp_ret ⟨ρ,g,Ext.refl _ _,dC.refl _,h⟩
  ·rename_i x;split at h
   ·rename_i σ κ y _;split at h
    ·rename_i s0 F;obtain⟨τ,V,I,μ,t0,S,hI,u⟩:=h;subst S;have m:=Qt (κ:=κ) g F;refine aaZ (σ:=τ) (λt B D=>Fits n B (σ.vals (V t) (κ.over ρ))/\Ext ρ (σ.vals (V t) (κ.over ρ)) a B/\dC w D/\I t D.heap) (λt _=>μ t) t0 ⟨m.1,m.2,dC.refl _,hI⟩ ?_;rintro t B D ⟨E,v,z3,z4⟩;refine wp_mono (o x y _ _ B D E (u t _ z4)) λe T w2 j=>?_;obtain⟨ρ',f,x2,x3,d⟩:=j;cases e with
     |normal=>
      simp only[Mw]at d;cases hw:within σ κ ρ' (ρ'.length-(σ.vals (V t) (κ.over ρ)).length)with
      |false=>rw[hw]at d;exact d.elim
      |true=>
       rw[hw]at d;simp only[cond_true]at d;split at d
       ·rename_i s' G;have A:∀t,σ.has t=false->(κ.over []).fa t=false->T.tmps[t]?=a.tmps[t]?:=λt M L=>by
         rw[x2.within hw t M L,v.sT t M L]
        obtain⟨J,H⟩:=g.sT (κ:=κ) f A G;obtain⟨t',e1,R,Z⟩:=d;subst e1;exact⟨t',⟨J,H,z3.trans x3,R⟩,Z⟩
       ·exact d.elim
     |exit id=>exact⟨ρ',f,v.trans x2,z3.trans x3,d⟩
     |goto l=>exact⟨ρ',f,v.trans x2,z3.trans x3,d⟩
     |ret=>exact⟨ρ',f,v.trans x2,z3.trans x3,d⟩
     |panic ch=>exact⟨ρ',f,v.trans x2,z3.trans x3,d⟩
     |outgrown=>exact⟨ρ',f,v.trans x2,z3.trans x3,d⟩
    ·exact h.elim
   ·exact h.elim
  ·rename_i x;split at h
   ·split at h
    ·rename_i p r P;exact Wg o P g h
    ·exact h.elim
   ·refine FN λb k cs=>wp_mono (o x _ _ ρ a w g h) λe a' w' j=>?_;obtain⟨ρ',f,x2,x3,d⟩:=j;exact Ev o (ρ:=ρ) (a0:=a) (w0:=w) (λe ρ3 a3 w3 E v z3 z4=>pv E v z3 z4) 4 e ρ' a' w' f x2 x3 d
   ·exact h.elim
  ·exact h.elim
theorem Td(a:C.Ok):∀f,JA C n (vc C n f)
 |0=>λ_ _ _ _ _ _ _ h=>h.elim
 |f+1=>ahj a (Td a f)
end
def GX(C:Ctx)(ρ:Env):List ResultVar->(List Value->Prop)->Heap->Prop
 |[],K,_=>K []
 | .tmp t::r,K,h=>match ρ.get t with
  |some v=>GX C ρ r (λvs=>K (v::vs)) h
  |none=>False
 | .cell a t::r,K,h=>match Ah C.T (.load t (.tmp a)) ρ.eval with
  |some q=>∃y:q.ty.den,q.holds h y/\GX C ρ r (λvs=>K (q.ty.enc y::vs)) h
  |none=>False
def GY:List Value->Value
 |[v]=>v
 |vs=>.tuple vs.toArray
def ako(C:Ctx)(rs:List ResultVar)(R:Value->Heap->Prop):QT
 | .normal,ρ,h=>GX C ρ rs (λvs=>R (GY vs) h) h
 | .ret,ρ,h=>GX C ρ rs (λvs=>R (GY vs) h) h
 |_,_,_=>False
def GZ:Nat->List Value->Env
 |_,[]=>[]
 |n,v::r=>.val n v::GZ (n+1) r
def fnV(C:Ctx)(d:Func)(a:Nat)(b:al)(args:List Value)(R:Value->Heap->Prop)(h:Heap):Prop:=
 match d.body with
 |some c=>vc C d.ntmps a c b (ako C d.results.toList R) (GZ 0 args) h
 |none=>False
theorem Mx:∀{args:List Value} {n t:Nat} {v:Value},(GZ n args).get t=some v->n<=t/\args[t-n]?=some v
 |[],_,_,_,h=>by cases h
 |u::r,n,t,v,h=>by
  simp only[GZ,Env.get]at h;cases hb:wG n t with
  |true=>
   rw[hb]at h;have:=zM hb;subst this;simpa using h
  |false=>
   rw[hb]at h;obtain⟨c,a⟩:=Mx (args:=r) h;refine⟨by omega,?_⟩;obtain⟨k,b⟩:∃k,t-n=k+1:=⟨t-(n+1),by omega⟩
   rw[b,List.getElem?_cons_succ];have:t-(n+1)=k:=by omega
   rw[<-this];exact a
theorem aep{C:Dr}(h:C.Ok){ev:Operand->Option Value}{e:Operand->Value}(f:∀x v,ev x=some v->e x=v){t:TypeId}{x:Operand}{q:BL}
  (g:Ah C.T (.load t x) ev=some q) {y:q.ty.den} {w:World} (d:q.holds w.heap y):(xd t (e x)).run C.P w=.ok (q.ty.enc y) w:=by
 have c:(do pure (Next.value (<-xd t (e x))):Sem Next).run C.P w=.ok (.value (q.ty.enc y)) w:=Es h f (o:=⟨none,.load t x,0, "",#[],none⟩) g d;rw[Sem.run_bind]at c;cases hr:(xd t (e x)).run C.P w with
 |halt a b=>rw[hr]at c;cases c
 |ok v w'=>
  rw[hr]at c;simp only[Result.andThen_ok]at c;cases c;rfl
theorem Ha{C:Ctx}(j:C.Ok){n:Nat}{a:Act}{ρ:Env}(f:Fits n a ρ):∀{rs:List ResultVar} {K:List Value->Prop} {w:World},GX C ρ rs K w.heap->
  ∃vs,(rs.mapM (λ| .tmp t=>pure (a.tmps.getD t undef)| .cell x t=>(do loadVar t (<-asAddr (a.tmps.getD x undef)):Sem Value)):Sem (List Value)).run C.P w=.ok vs w/\K vs
 |[],K,w,h=>⟨[],rfl,h⟩
 | .tmp t::r,K,w,h=>by
  simp only[GX]at h;split at h
  ·rename_i v p;obtain⟨vs,i,k⟩:=Ha j f h;refine⟨v::vs,?_,k⟩;have l:a.tmps.getD t undef=v:=by simp[Array.getD_eq_getD_getElem?,f.get t v p]
   rw[List.mapM_cons,Sem.run_bind,Sem.run_pure,Result.andThen_ok,Sem.run_bind,i,l];rfl
  ·exact h.elim
 | .cell x t::r,K,w,h=>by
  simp only[GX]at h;split at h
  ·rename_i q d;obtain⟨y,o,h⟩:=h;obtain⟨vs,i,k⟩:=Ha j f h;refine⟨q.ty.enc y::vs,?_,k⟩;have m:=aep j.toOk (e:=a.eval) (λx v h=>f.eval h) d o;have s:∃c,a.eval (.tmp x)=.pointer (some c):=by
    unfold Ah at d;simp only at d;split at d
    ·rename_i c b;exact⟨c,f.eval b⟩
    ·cases d
   obtain⟨c,b⟩:=s;have l:a.tmps.getD x undef=.pointer (some c):=b;rw[b]at m;rw[List.mapM_cons,Sem.run_bind];simp only[l];have g:(do loadVar t (<-asAddr (.pointer (some c))):Sem Value).run C.P w=.ok (q.ty.enc y) w:=m;rw[g,Result.andThen_ok,Sem.run_bind,i];rfl
  ·exact h.elim
theorem ahk{C:Ctx}(n:C.Ok){f:FuncId}{b:Func}(q:C.P.funcs[f]?=some b){a:Nat}{g:al}{args:List Value}(z:args.length<=b.ntmps){R:Value->Heap->Prop}{h:Heap}
  (j:fnV C b a g args R h):ac C.P f args.toArray h R:=by
 rintro w rfl;unfold fnV at j;split at j
 ·rename_i c p;refine calls_of_wp q p ?_;have d:Fits b.ntmps {tmps:=args.toArray++vA (b.ntmps-args.toArray.size) undef,defers:=[]} (GZ 0 args):=by refine⟨by simp;omega,rfl,λt v y=>?_⟩;obtain⟨_,i⟩:=Mx y;rw[Nat.sub_zero]at i;have k:t<args.length:=(qn.1 i).1;simp only[Array.getElem?_append,List.size_toArray,k,if_true,List.getElem?_toArray];exact i
  refine wp_mono (Td n a c g _ _ _ w d j) λe a' w' u=>?_;obtain⟨ρ',m,x2,x3,l⟩:=u;have fin:GX C ρ' b.results.toList (λvs=>R (GY vs) w'.heap) w'.heap->a'.defers=[]/\∃v,(results b a'.tmps).run C.P w'=.ok v w'/\(∃o,Ending.returned v=.returned o/\dC w w'/\R o w'.heap):=λx=>by
   obtain⟨vs,s,i⟩:=Ha n m x;refine⟨m.defers,GY vs,?_,GY vs,rfl,x3,i⟩;unfold results;rw[vu,map_eq_pure_bind,bind_assoc,Sem.run_bind];refine(congrArg (λr=>Result.andThen r _) s).trans ?_;simp only[Result.andThen_ok,pure_bind,Sem.run_pure];cases vs with
   |nil=>rfl
   |cons v r=>cases r<;>rfl
  cases e<;>first|exact fin l|exact l.elim
 ·exact j.elim
theorem aw{C:Ctx}(i:C.Ok){f:FuncId}{b:Func}(g:C.P.funcs[f]?=some b)(a:al){args:List Value}{R:Value->Heap->Prop}{h:Heap}{Q:Prop}(d:Q)
  (c:xm args.length b.ntmps=true:=by kernel_rfl) (e:fnV C b 300 a args R h=Q:=by kernel_rfl):ac C.P f args.toArray h R:=ahk i g (zL c) (cast e.symm d)
def aB(P:Program)(s:Sem Value)(r:Rt)(h:Heap)(K:r.den->Heap->Prop):Prop:=ag P s h λv h'=>∃x:r.den,v=r.enc x/\K x h'
def aT(P:Program)(s:Sem Value)(h:Heap)(K:Addr->Heap->Prop):Prop:=ag P s h λv h'=>∃a:Addr,v=.pointer (some a)/\K a h'
def ae(P:Program)(f:FuncId)(args:Array Value)(r:Rt)(h:Heap)(K:r.den->Heap->Prop):Prop:=ac P f args h λv h'=>∃x:r.den,v=r.enc x/\K x h'
def gY(C:Ctx)(g:FuncId)(args:List Value)(r:Rt)(h:Heap)(K:r.den->Heap->Prop):Prop:=
 match C.fns[g]? with
 |some true=>ae C.P g args.toArray r h K
 |_=>False
theorem fd{C:Ctx}{g:FuncId}{args:List Value}{r:Rt}{h:Heap}{K:r.den->Heap->Prop}(b:C.fns[g]?=some true)(a:ae C.P g args.toArray r h K):gY C g args r h K:=by unfold gY;rw[b];exact a
end Go.Vc
abbrev cJ:=List (List UInt8)
abbrev bf:=List UInt8
abbrev cj:=List (List Int)
abbrev aD:=List Int
abbrev aM:=Option Go.Addr
abbrev bh:=List Go.Value
abbrev Hb:=Go.Value->Go.Vc.Heap->Prop
abbrev cE:=Go.FuncId×Array Go.Value×Array Go.Value
abbrev Go.Vc.al.tn(a:Go.Vc.al):Go.Vc.al:=.two .n a
universe u
theorem g0{c:Prop}{h:Decidable c}(hc:c){α:Sort u}{t e:α}:ite c t e=t:=if_pos hc
theorem g9{c:Prop}{h:Decidable c}(hnc:¬c){α:Sort u}{t e:α}:ite c t e=e:=if_neg hnc
theorem hU{p:Prop}[inst:Decidable p]:p->decide p=true:=decide_eq_true
theorem ii{p:Prop}[inst:Decidable p]:¬p->decide p=false:=decide_eq_false
theorem i0{p:Prop}[inst:Decidable p]:decide p=true->p:=of_decide_eq_true
theorem i4{α:Sort u}{a:α}:a=a:=rfl
theorem i5{p:Prop}(h:p:=by omega):p:=h
theorem i6{p:Prop}(h:p:=by decide):p:=h
theorem i7{p:Prop}(h:p:=by dsimp only;omega):p:=h
theorem i9{p:Prop}(h:p:=by simp;omega):p:=h
theorem jj{p:Prop}(h:p:=by simp):p:=h
theorem js{p:Prop}(h:p:=by dsimp only;rw[ak _];rfl):p:=h
theorem j0{p:Prop}(h:p:=by rw[ak _];rfl):p:=h
theorem j1{p:Prop}(h:p:=by cases e):p:=h
theorem j3{p:Prop}(h:p:=by kernel_rfl):p:=h
theorem j4{p:Prop}(h:p:=by rw[ak _];omega):p:=h
theorem j5{p:Prop}(h:p:=by decide+kernel):p:=h
theorem j6{p:Prop}(h:p:=by simpa using h):p:=h
theorem j7{p:Prop}(h:p:=by simpa using a):p:=h
theorem j8{p:Prop}(h:p:=by simp[Value.cells]):p:=h
theorem j9{p:Prop}(h:p:=by cases h):p:=h
theorem k7{p:Prop}(h:p:=by simpa using b):p:=h
theorem k8{p:Prop}(h:p:=by simp[aO]):p:=h
theorem k9{p:Prop}(h:p:=by rw[ca];omega):p:=h
theorem lb{p:Prop}(h:p:=by rw[addr_add];exact hb.cell i4):p:=h
theorem ld{p:Prop}(h:p:=by rfl):p:=h
theorem ln{p:Prop}(h:p:=by simp[fu]):p:=h
theorem lz{p:Prop}(h:p:=by dsimp only;simp;omega):p:=h
theorem l0{p:Prop}(h:p:=by simpa using g):p:=h
theorem l4{p:Prop}(h:p:=by simp[bX];omega):p:=h
theorem l5{p:Prop}(h:p:=by rw[ze];omega):p:=h
theorem l6{p:Prop}(h:p:=by simpa using e):p:=h
theorem l7{p:Prop}(h:p:=by simpa using H):p:=h
theorem l9{p:Prop}(h:p:=by simp at d;omega):p:=h
theorem mn{p:Prop}(h:p:=by simp[cF];omega):p:=h
theorem m0{p:Prop}(h:p:=by simp[b]):p:=h
theorem m4{p:Prop}(h:p:=by rw[e1];decide):p:=h
theorem m5{p:Prop}(h:p:=by simp[a]):p:=h
theorem m6{p:Prop}(h:p:=by simpa using c):p:=h
theorem m7{p:Prop}(h:p:=by simp[dH];omega):p:=h
theorem m8{p:Prop}(h:p:=by simp[dF];omega):p:=h
theorem m9{p:Prop}(h:p:=by simp at h):p:=h
theorem nb{p:Prop}(h:p:=by unfold jg;rw[o.refl];rfl):p:=h
theorem nn{p:Prop}(h:p:=by rw[<-w];exact n.cell0 i4):p:=h
theorem nq{p:Prop}(h:p:=by simp[gG]):p:=h
theorem ns{p:Prop}(h:p:=by simpa using e2):p:=h
theorem n0{p:Prop}(h:p:=by rw[uC d];omega):p:=h
theorem n3{p:Prop}(h:p:=by simp[f]):p:=h
theorem n4{p:Prop}(h:p:=by rw[qi (qm _)]):p:=h
theorem n5{p:Prop}(h:p:=by simpa using d):p:=h
theorem n7{p:Prop}(h:p:=by unfold fo;simp;omega):p:=h
theorem n8{p:Prop}(h:p:=by rw[l]):p:=h
theorem n9{p:Prop}(h:p:=by rw[qy];omega):p:=h
theorem oi{p:Prop}(h:p:=by assumption):p:=h
theorem oj{p:Prop}(h:p:=by simpa using q):p:=h
theorem o0{p:Prop}(h:p:=by rw[e];rfl):p:=h
theorem o1{p:Prop}(h:p:=by simp[c]):p:=h
theorem o4{p:Prop}(h:p:=by rw[e,ha,hb];decide):p:=h
theorem o5{p:Prop}(h:p:=by rw[c.len];omega):p:=h
theorem o6{p:Prop}(h:p:=by simpa using l):p:=h
theorem o7{p:Prop}(h:p:=by simpa using m):p:=h
theorem o8{p:Prop}(h:p:=by simpa using u):p:=h
theorem o9{p:Prop}(h:p:=by rw[wrap_u64];omega):p:=h
theorem pa{p:Prop}(h:p:=by simpa using p):p:=h
theorem pb{p:Prop}(h:p:=by simp[cF]):p:=h
theorem pt{p:Prop}(h:p:=by rw[qY];omega):p:=h
theorem p0{p:Prop}(h:p:=by simp[g]):p:=h
theorem p5{p:Prop}(h:p:=by rw[t];rfl):p:=h
theorem p6{p:Prop}(h:p:=by simp at f;omega):p:=h
theorem p7{p:Prop}(h:p:=by simp[e]):p:=h
theorem p8{p:Prop}(h:p:=by simp[iH];omega):p:=h
theorem p9{p:Prop}(h:p:=by simp[fL];omega):p:=h
theorem qa{p:Prop}(h:p:=by rw[ii b];rfl):p:=h
theorem qb{p:Prop}(h:p:=by simp[d]):p:=h
theorem qs{p:Prop}(h:p:=by rw[L];exact p):p:=h
theorem q6{p:Prop}(h:p:=by simpa using G):p:=h
theorem rb{p:Prop}(h:p:=by simpa using f):p:=h
theorem sb{p:Prop}(h:p:=by rw[mw];omega):p:=h
theorem sp{p:Prop}(h:p:=by rw[ib];omega):p:=h
theorem sz{p:Prop}(h:p:=by rw[N];decide):p:=h
theorem sL{p:Prop}(h:p:=by rw[z];decide):p:=h
theorem sR{p:Prop}(h:p:=by simp[h]):p:=h
abbrev qm:=@Nat.le_refl
abbrev qB:=@Bool.and_eq_true
abbrev zj:=@Bool.false_eq_true
abbrev wu:=@Bool.or_eq_true
abbrev zx:=@List.cons_append
abbrev qn:=@List.getElem?_eq_some_iff
abbrev qU:=@List.getElem?_map
abbrev zn:=@List.length_cons
abbrev zb:=@List.mem_cons
abbrev qH:=@List.mem_cons_of_mem
abbrev qO:=@List.mem_cons_self
abbrev qC:=@List.mem_singleton
abbrev q7:=@Option.map_some
abbrev wX:=@Nat.add_assoc
abbrev zr:=@Nat.add_sub_cancel_left
abbrev wN:=@Nat.add_zero
abbrev zd:=@Nat.le_trans
abbrev qR:=@Nat.lt_of_lt_of_le
abbrev zo:=@Nat.lt_succ_iff_lt_or_eq
abbrev yg:=@Nat.lt_trichotomy
abbrev vm:=@Nat.mod_lt
abbrev wv:=@Nat.mul_le_mul
abbrev zK:=@Nat.mul_le_mul_right
abbrev zc:=@Nat.sub_self
abbrev zT:=@Nat.succ_mul
abbrev wo:=@Nat.zero_add
abbrev yN:=@Array.ext_getElem?
abbrev qZ:=@List.all_eq_true
abbrev qp:=@List.append_assoc
abbrev qN:=@List.append_nil
abbrev zH:=@List.drop_drop
abbrev qP:=@List.drop_eq_getElem_cons
abbrev zf:=@List.drop_of_length_le
abbrev za:=@List.eq_nil_of_length_eq_zero
abbrev wP:=@List.ext_getElem
abbrev zG:=@List.ext_getElem?
abbrev zl:=@List.filter_append
abbrev zp:=@List.filter_cons
abbrev wO:=@List.filter_eq_nil_iff
abbrev yo:=@List.find?_eq_none
abbrev zg:=@List.flatMap_append
abbrev zk:=@List.flatMap_cons
abbrev zN:=@List.foldl_append
abbrev zA:=@List.foldl_cons
abbrev wx:=@List.foldl_nil
abbrev qe:=@List.getD_eq_getElem?_getD
abbrev qo:=@List.getElem?_append_left
abbrev qj:=@List.getElem?_append_right
abbrev qw:=@List.getElem?_cons_succ
abbrev wJ:=@List.getElem?_drop
abbrev qd:=@List.getElem?_eq_getElem
abbrev qS:=@List.getElem?_eq_none
abbrev q8:=@List.getElem?_set
abbrev zC:=@List.getElem?_set_ne
abbrev zm:=@List.getElem?_set_self
abbrev zX:=@List.getElem?_toArray
abbrev we:=@List.getElem?_zipWith
abbrev wi:=@List.getElem_drop
abbrev qg:=@List.getElem_mem
abbrev qK:=@List.getElem_of_mem
abbrev qx:=@List.length_append
abbrev ze:=@List.length_drop
abbrev qy:=@List.length_map
abbrev wW:=@List.length_mergeSort
abbrev zE:=@List.length_range
abbrev zh:=@List.length_set
abbrev qY:=@List.length_take
abbrev qz:=@List.mem_append
abbrev qJ:=@List.mem_filter
abbrev zU:=@List.mem_flatMap
abbrev qu:=@List.mem_map
abbrev zD:=@List.mem_of_mem_take
abbrev zS:=@List.mem_or_eq_of_mem_set
abbrev qG:=@List.mem_range
abbrev wT:=@List.mergeSort_perm
abbrev wy:=@List.nil_append
abbrev w9:=@List.pairwise_append
abbrev zF:=@List.pairwise_cons
abbrev zw:=@List.pairwise_iff_getElem
abbrev yC:=@List.pairwise_mergeSort
abbrev yZ:=@List.range_eq_range'
abbrev zV:=@List.range_succ
abbrev yt:=@List.set_set
abbrev yf:=@List.size_toArray
abbrev qE:=@List.take_append_drop
abbrev vL:=@List.take_left
abbrev q9:=@List.take_length
abbrev qi:=@List.take_of_length_le
abbrev zJ:=@List.take_succ_eq_append_getElem
abbrev yG:=@List.zipWith_append
abbrev ye:=@Bool.not_false
abbrev z8:=@Bool.true_and
abbrev wq:=@Int.emod_lt_of_pos
abbrev w5:=@Int.emod_nonneg
abbrev vC:=@Int.tmod_lt_of_pos
abbrev ql:=@Int.toNat_natCast
abbrev wL:=@UInt8.toNat_inj
abbrev zW:=@UInt8.xor_zero
abbrev wz:=@UInt8.zero_xor
abbrev w8:=@BitVec.ofInt_natCast
abbrev wj:=@List.any_eq_false
abbrev zQ:=@List.any_eq_true
abbrev zO:=@List.filter_eq_self
abbrev wQ:=@List.findIdx_lt_length
abbrev wZ:=@List.getElem_append_left
abbrev qQ:=@List.length_filter_le
abbrev w6:=@List.map_map
abbrev zB:=@List.mem_append_left
abbrev w7:=@List.mem_replicate
abbrev yj:=@List.nodup_cons
abbrev vJ:=@Nat.mul_comm
abbrev wU:=@Bool.not_eq_true'
abbrev yd:=@Bool.not_true
abbrev vp:=@UInt8.xor_comm
abbrev yy:=@Int.mul_le_mul
abbrev vO:=@Int.mul_nonneg
abbrev wM:=@Int.natCast_mul
abbrev yR:=@Int.tmod_eq_emod_of_nonneg
abbrev wg:=@Nat.mod_eq_of_lt
abbrev z7:=@Nat.mul_one
abbrev zy:=@Nat.zero_le
abbrev yW:=@List.all_append
abbrev yB:=@List.all_eq_false
abbrev yF:=@List.any_append
abbrev vh:=@List.filter_nil
abbrev z6:=@List.flatMap_nil
abbrev zt:=@List.getElem?_range
abbrev wh:=@List.getElem?_replicate
abbrev yh:=@List.getElem_take
abbrev vd:=@List.getElem_zip
abbrev yX:=@List.length_nil
abbrev qW:=@List.map_append
abbrev vG:=@List.map_mergeSort
abbrev yO:=@List.mem_mergeSort
abbrev yi:=@List.replicate_succ
abbrev qV:=@List.set_append_right
abbrev zu:=@List.set_cons_succ
abbrev zq:=@List.set_cons_zero
abbrev wm:=@List.take_append_of_le_length
abbrev wK:=@BitVec.toNat_ofNat
abbrev vi:=@Bool.false_or
abbrev yQ:=@Prod.ext
abbrev wb:=@Int.natCast_nonneg
abbrev y6:=@Int.ofNat_le
abbrev vV:=@List.any_cons
abbrev xf:=@List.any_nil
abbrev yb:=@List.getElem_map
abbrev yJ:=@List.map_cons
abbrev xg:=@List.map_nil
abbrev zZ:=@List.getElem_append_right
abbrev ym:=@List.getElem_set_self
abbrev yS:=@List.mem_iff_getElem?
abbrev vH:=@Int.le_refl
