/- Lemmas for the proof of the law; no condition. -/
import Derived.Calls
import Derived.Orders
import Derived.Scope
import Derived.KernelRfl
import Derived.Laws.Sem
import Derived.OrdersHeld
set_option linter.unusedVariables false
set_option linter.unusedSimpArgs false
open Nat renaming beq -> wx, ble -> vY, blt -> vK, eq_of_beq_eq_true -> zK, le_of_ble_eq_true -> zJ, le_refl -> ql
open Bool renaming and_eq_true -> qz, false_eq_true -> zk, or_eq_false_iff -> yl, or_eq_true -> z7, or_false -> vV
open List renaming cons_append -> zA, getElem?_eq_some_iff -> qm, getElem?_map -> qR, length_cons -> zm, mem_append_right -> zE, mem_cons -> qV, mem_cons_of_mem -> qC, mem_cons_self -> qI, mem_singleton -> qB
open BitVec renaming ofInt -> qF
open Go.IntKind renaming i64 -> xi
open Go.Instr renaming build -> vL, fill -> wq, loadAt -> vM, sliceAt -> y8, sliceBounds -> w7
open Option renaming map_eq_some_iff -> y0, map_some -> qY, some -> zS
open Array renaming ext' -> yq, getElem?_toList -> vD, mapM_eq_mapM_toList -> vh, replicate -> vp, toList_map -> vH
namespace Go.Vc
open Go
abbrev Heap:=Array Obj
def cellOf(h:Heap)(a:Addr):Option Value:=
 match h[a.block]? with
 |some (.cells c _ _)=>if a.spot.isSome then none else c[a.off]?
 |_=>none
def Xd(h:Heap)(a:Addr):Bool:=
 match h[a.block]? with
 |some (.cells _ _ (lo,hi))=>lo<=a.off&&a.off<hi
 |_=>false
def Xe(h:Heap)(a:Addr)(v:Value):Heap:=
 h.modify a.block λ
  | .cells c elem frozen=>.cells (if a.spot.isSome then c else c.setIfInBounds a.off v) elem frozen
  |o=>o
def shapeOf(h:Heap)(r:Nat):Option (TypeId×Nat):=match h[r]? with|some (.cells c elem _)=>some (elem,c.size)|_=>none
theorem acr(w:World)(r:Nat):w.shape? r=shapeOf w.heap r:=rfl
theorem NF(w:World)(a:Addr):w.cell? a=cellOf w.heap a:=rfl
theorem afv(w:World)(a:Addr):w.frozen? a=Xd w.heap a:=rfl
theorem afw(w:World)(a:Addr)(v:Value):(w.setCell a v).heap=Xe w.heap a v:=rfl
structure dl (w w':World):Prop where
 os:w'.os=w.os
 tape:w'.tape=w.tape
 output:w'.output=w.output
 drawn:w.drawn<=w'.drawn
theorem dl.refl(w:World):dl w w:=⟨rfl,rfl,rfl,ql _⟩
theorem dl.trans{a b c:World}(h:dl a b)(k:dl b c):dl a c:=⟨k.os.trans h.os,k.tape.trans h.tape,k.output.trans h.output,Nat.le_trans h.drawn k.drawn⟩
def ab(P:Program)(f:FuncId)(args:Array Value)(h:Heap)(R:Value->Heap->Prop):Prop:=
 ∀w,w.heap=h->Calls P f args w λe w'=>∃v,e=.returned v/\dl w w'/\R v w'.heap
theorem ab.mono{P:Program}{f:FuncId}{args:Array Value}{h:Heap}{R a:Value->Heap->Prop}(e:ab P f args h R)
  (b:∀v h',R v h'->a v h'):ab P f args h a:=λw c=>
 (e w c).mono λ_ _ ⟨v,g,d,r⟩=>⟨v,g,d,b _ _ r⟩
def af{α:Type}(P:Program)(s:Sem α)(h:Heap)(K:α->Heap->Prop):Prop:=
 ∀w,w.heap=h->∃v w',s.run P w=.ok v w'/\dl w w'/\K v w'.heap
section
variable {α β:Type} {P:Program} {h:Heap}
theorem af.pure'{K:α->Heap->Prop}{a:α}(c:K a h):af P (Pure.pure a) h K:=λw b=>⟨a,w,rfl,dl.refl w,by rw[b];exact c⟩
theorem af.bind{s:Sem α}{f:α->Sem β}{K:β->Heap->Prop}(k:af P s h λv h'=>af P (f v) h' K):af P (s>>=f) h K:=by intro w i;obtain⟨v,w',e,j,l⟩:=k w i;obtain⟨g,c,d,b,a⟩:=l w' rfl;exact⟨g,c,by rw[Sem.run_bind,e];exact d,j.trans b,a⟩
theorem af.mono{s:Sem α}{K d:α->Heap->Prop}(f:af P s h K)(g:∀v h',K v h'->d v h'):af P s h d:=λw e=>
 let⟨v,w',a,b,c⟩:=f w e;⟨v,w',a,b,g _ _ c⟩
theorem af.acs{K:Program->Heap->Prop}(b:K P h):af P program h K:=λw a=>⟨P,w,rfl,dl.refl w,by rw[a];exact b⟩
theorem af.agF{a:Addr}{v v0:Value}{m:Mode}{K:Unit->Heap->Prop}(e:v.oneCell'=true)(d:cellOf h a=some v0)(c:Xd h a=false)(f:K () (Xe h a v)):
  af P (store a v m) h K:=λw b=>
 ⟨(),w.setCell a v,by rw[run_store _ _ _ _ _ e,NF,b,d];simp[afv,b,c],⟨rfl,rfl,rfl,ql _⟩,by rw[afw,b];exact f⟩
theorem af.rY{o:Obj}{K:Nat->Heap->Prop}(b:K h.size (h.push o)):af P (newObj o) h K:=λw a=>
 ⟨w.heap.size,_,run_newObj P w o,⟨rfl,rfl,rfl,ql _⟩,by simp only[a];exact b⟩
theorem af.Kd{n:Nat}{K:Unit->Heap->Prop}(b:K () h):af P (askRoom n) h K:=λw a=>⟨(),w,run_askRoom P w n,dl.refl w,by rw[a];exact b⟩
theorem af.NG{q:Question}{K:Nat->Heap->Prop}(b:(q.forced=true->K 0 h)/\(q.forced=false->∀n,K (q.cut n) h)):af P (choose q) h K:=by
 intro w a;cases hq:q.forced with
 |true=>exact⟨0,w,by rw[run_choose,hq];rfl,dl.refl w,by rw[a];exact b.1 hq⟩
 |false=>exact⟨q.cut (w.tape w.drawn q),{w with drawn:=w.drawn+1},by rw[run_choose,hq];rfl,⟨rfl,rfl,rfl,Nat.le_succ _⟩,by show K _ w.heap;rw[a];exact b.2 hq _⟩
theorem af.agG{r:Nat}{K:Option (TypeId×Nat)->Heap->Prop}(b:K (shapeOf h r) h):af P (shape r) h K:=λw a=>
 ⟨_,w,run_shape P w r,dl.refl w,by rw[a,acr,a];exact b⟩
end
def CE(P:Program)(s:Sem Next)(h:Heap)(K:Value->Heap->Prop):Prop:=
 af P s h λa h'=>match a with
  | .value v=>K v h'
  | .skip=>K undef h'
  | .enter f args=>ab P f args h' K
  |_=>False
theorem aif{P:Program}{o:Oper}{a:Act}{w:World}{K:Value->Heap->Prop}{Q:Exit->Act->World->Prop}
  (k:CE P (execOp a.eval o) w.heap K) {next:Act->World->Prop}
  (c:∀v w',dl w w'->K v w'.heap->next (a.put o.dst v) w'):o.wp P a w next Q:=by
 obtain⟨i,w',h,d,b⟩:=k w rfl;unfold Oper.wp;rw[h];cases i<;>simp only at b<;>simp only[Oper.upon]
 case value v=>exact c _ _ d b
 case skip=>exact c _ _ d b
 case enter f args=>
  refine(b w' rfl).mono ?_;rintro e j ⟨v,rfl,g,r⟩;exact c _ _ (d.trans g) r
structure Sl where
 ptr:Option Addr
 len:Nat
 cap:Nat
 deriving Inhabited
inductive Sc where
 |int (k:IntKind)|bool|str|ptr|slc|flt (k:FloatKind)|cpx (k:FloatKind)|mp|fn|any|adr
@[reducible] def Sc.den:Sc->Type
 | .int _=>Int
 | .bool=>Bool
 | .str=>ByteArray
 | .ptr=>Option Addr
 | .slc=>Sl
 | .flt _=>Nat
 | .cpx _=>Nat×Nat
 | .mp=>Option Nat
 | .fn=>FuncId×Array Value×Array Value
 | .any=>Value
 | .adr=>Addr
@[reducible] def Sc.enc:(s:Sc)->s.den->Value
 | .int k,n=>.int k n
 | .bool,x=>.bool x
 | .str,x=>.string x
 | .ptr,a=>.pointer a
 | .slc,x=>.slice x.ptr x.len x.cap
 | .flt k,n=>.float k n
 | .cpx k,x=>.complex k x.1 x.2
 | .mp,r=>.map r
 | .fn,x=>.func (.func x.1) x.2.1 x.2.2
 | .any,v=>v
 | .adr,a=>.pointer (some a)
def CF:IntKind->IntKind->Bool
 | .i8,.i8| .i16,.i16| .i32,.i32| .i64,.i64| .u8,.u8| .u16,.u16| .u32,.u32| .u64,.u64=>true
 |_,_=>false
theorem Jn:∀{a b:IntKind},CF a b=true->a=b:=by intro a b;cases a<;>cases b<;>simp[CF]
def FP:FloatKind->FloatKind->Bool
 | .f32,.f32| .f64,.f64=>true
 |_,_=>false
theorem FQ:∀{a b:FloatKind},FP a b=true->a=b:=by intro a b;cases a<;>cases b<;>simp[FP]
def Sc.dec:(s:Sc)->Value->Option s.den
 | .int k,.int k' n=>bif CF k k' then some n else none
 | .bool,.bool x=>some x
 | .str,.string x=>some x
 | .ptr,.pointer a=>some a
 | .slc,.slice a l c=>some ⟨a,l,c⟩
 | .flt k,.float k' n=>bif FP k k' then some n else none
 | .cpx k,.complex k' a b=>bif FP k k' then some (a,b)else none
 | .mp,.map r=>some r
 | .fn,.func (.func g) f c=>some (g,f,c)
 | .any,v=>some v
 | .adr,.pointer (some a)=>some a
 |_,_=>none
theorem Sc.rZ{s:Sc}{v:Value}{x:s.den}(h:s.dec v=some x):v=s.enc x:=by
 cases s<;>cases v<;>simp only[Sc.dec]at h<;>try(first|(cases h;done)|(cases h;rfl))
 case int.int k k' n=>
  cases hk:CF k k'<;>simp[hk]at h;have:=Jn hk;subst this;subst h;rfl
 case flt.float k k' n=>
  cases hk:FP k k'<;>simp[hk]at h;have:=FQ hk;subst this;subst h;rfl
 case cpx.complex k k' a b=>
  cases hk:FP k k'<;>simp[hk]at h;have:=FQ hk;subst this;subst h;rfl
 case fn.func g f c=>
  cases g<;>first|(cases h;done)|skip
  obtain⟨l⟩:=f;cases l<;>first|(cases h;done)|(cases h;rfl)
 case adr.pointer a=>
  cases a<;>first|(cases h;done)|(cases h;rfl)
@[reducible] def NH:List Sc->Type
 |[]=>Unit
 |[s]=>s.den
 |s::t::r=>s.den×NH (t::r)
@[reducible] def BW:(l:List Sc)->NH l->List Value
 |[],_=>[]
 |[s],x=>[s.enc x]
 |s::t::r,x=>s.enc x.1::BW (t::r) x.2
def Xf:(l:List Sc)->List Value->Option (NH l)
 |[],[]=>some ()
 |[s],[v]=>s.dec v
 |s::t::r,v::vs=>match s.dec v with
  |some x=>match Xf (t::r) vs with
   |some y=>some (x,y)
   |none=>none
  |none=>none
 |_,_=>none
theorem Zk:∀{l:List Sc} {vs:List Value} {x:NH l},Xf l vs=some x->vs=BW l x:=by
 intro l vs
 fun_induction Xf l vs with
 |case1=>intro x _;rfl
 |case2 s v=>intro x h;simp only[BW];rw[Sc.rZ h]
 |case3 s t r v vs x hx y hy ih=>intro z h;cases h;simp only[BW];rw[Sc.rZ hx,ih hy]
 |case4=>intro x h;cases h
 |case5=>intro x h;cases h
 |case6=>intro x h;cases h
inductive Ty where
 |sc (s:Sc)
 |agg (l:List Sc)
 |arr (s:Sc)
@[reducible] def Ty.den:Ty->Type
 | .sc s=>s.den
 | .agg l=>NH l
 | .arr s=>List s.den
@[reducible] def Ty.enc:(t:Ty)->t.den->Value
 | .sc s,x=>s.enc x
 | .agg l,x=>.agg (BW l x).toArray
 | .arr s,x=>.agg (x.map s.enc).toArray
def Ty.dec:(t:Ty)->Value->Option t.den
 | .sc s,v=>s.dec v
 | .agg l,.agg ⟨cs⟩=>Xf l cs
 |_,_=>none
theorem Ty.rZ{t:Ty}{v:Value}{x:t.den}(h:t.dec v=some x):v=t.enc x:=by
 unfold Ty.dec at h;split at h
 ·exact Sc.rZ h
 ·have:=Zk h;subst this;rfl
 ·cases h
@[reducible] def Xg:List Ty->Type
 |[]=>Unit
 |[s]=>s.den
 |s::t::r=>s.den×Xg (t::r)
@[reducible] def aeC:(l:List Ty)->Xg l->List Value
 |[],_=>[]
 |[s],x=>[s.enc x]
 |s::t::r,x=>s.enc x.1::aeC (t::r) x.2
inductive Rt where
 |one (t:Ty)
 |many (l:List Ty)
@[reducible] def Rt.den:Rt->Type
 | .one t=>t.den
 | .many l=>Xg l
@[reducible] def Rt.enc:(r:Rt)->r.den->Value
 | .one t,x=>t.enc x
 | .many l,x=>.tuple (aeC l x).toArray
inductive bK where
 |val (t:Nat) (x:Value)
 |kil (lo hi:Nat)
abbrev Env:=List bK
def bK.fd:bK->Nat->Bool
 | .val s _,t=>wx s t
 | .kil lo hi,t=>vY lo t&&vK t hi
def Env.get:Env->Nat->Option Value
 |[],_=>none
 | .val s x::r,t=>bif wx s t then some x else Env.get r t
 | .kil lo hi::r,t=>bif vY lo t&&vK t hi then none else Env.get r t
def Env.fd:Env->Nat->Bool
 |[],_=>false
 |e::r,t=>e.fd t||Env.fd r t
theorem Env.act(e:bK)(r:Env)(t:Nat)(h:e.fd t=false):Env.get (e::r) t=Env.get r t:=by
 cases e<;>simp only[bK.fd]at h<;>simp[Env.get,h]
theorem Env.get_append{δ ρ:Env}{t:Nat}(h:δ.fd t=false):Env.get (δ++ρ) t=Env.get ρ t:=by
 induction δ with
 |nil=>rfl
 |cons e r ih=>
  simp only[Env.fd,yl]at h;rw[zA,Env.act _ _ _ h.1,ih h.2]
theorem Env.BX{δ ρ:Env}{t:Nat}:Env.fd (δ++ρ) t=(δ.fd t||ρ.fd t):=by
 induction δ with
 |nil=>simp[Env.fd]
 |cons e r ih=>simp[Env.fd,ih,Bool.or_assoc]
structure Fits (n:Nat) (a:Act) (ρ:Env):Prop where
 size:a.tmps.size=n
 defers:a.defers=[]
 get:∀t x,ρ.get t=some x->a.tmps[t]?=some x
def Ext(ρ c:Env)(a b:Act):Prop:=∃δ:Env,c=δ++ρ/\∀t,δ.fd t=false->b.tmps[t]?=a.tmps[t]?
theorem Ext.refl(ρ:Env)(a:Act):Ext ρ ρ a a:=⟨[],rfl,λ_ _=>rfl⟩
theorem Ext.trans{ρ f b:Env}{a e c:Act}(h:Ext ρ f a e)(k:Ext f b e c):Ext ρ b a c:=by obtain⟨δ,rfl,h⟩:=h;obtain⟨g,rfl,k⟩:=k;refine⟨g++δ,by simp,λt d=>?_⟩;rw[Env.BX,yl]at d;rw[k t d.1,h t d.2]
def Env.eval(ρ:Env):Operand->Option Value
 | .tmp t=>ρ.get t
 | .const v=>some v
 | .global g=>some (.pointer (some ⟨g,0,none⟩))
 | .func f=>some (.func (.func f) #[] #[])
theorem Fits.eval{n:Nat}{a:Act}{ρ:Env}(h:Fits n a ρ){x:Operand}{v:Value}(b:ρ.eval x=some v):a.eval x=v:=by
 cases x<;>simp only[Env.eval]at b<;>simp only[Act.eval]
 case tmp t=>have:=h.get t v b;simp[Array.getD_eq_getD_getElem?,this]
 all_goals (injection b)
theorem Fits.put{n:Nat}{a:Act}{ρ:Env}(h:Fits n a ρ){d:Nat}(f:vK d n=true)(v:Value):Fits n (a.put (some d) v) (.val d v::ρ):=by
 have c:d<n:=zJ f;refine⟨by simp[Act.put,h.size],h.defers,λt x b=>?_⟩;simp only[Env.get]at b;simp only[Act.put,Array.getElem?_setIfInBounds];cases hb:wx d t with
 |true=>
  rw[hb]at b;have:d=t:=zK hb;subst this;simp at b;simp[h.size,c,b]
 |false=>
  rw[hb]at b;have:d≠t:=λe=>by subst e;simp at hb
  simp only[this,if_false];exact h.get t x b
theorem Ext.put{ρ:Env}{a:Act}{d:Nat}(v u:Value):Ext ρ (.val d u::ρ) a (a.put (some d) v):=by
 refine⟨[.val d u],rfl,λt b=>?_⟩;simp only[Env.fd,bK.fd,vV]at b;have:d≠t:=λe=>by subst e;simp at b
 simp[Act.put,this]
abbrev dW:=List (Nat×Ty)
@[reducible] def dW.den:dW->Type
 |[]=>Unit
 |[s]=>s.2.den
 |s::t::r=>s.2.den×dW.den (t::r)
def dW.vals:(σ:dW)->σ.den->Env->Env
 |[],_,ρ=>ρ
 |[s],x,ρ=>.val s.1 (s.2.enc x)::ρ
 |s::t::r,x,ρ=>.val s.1 (s.2.enc x.1)::dW.vals (t::r) x.2 ρ
def dW.read:(σ:dW)->Env->Option σ.den
 |[],_=>some ()
 |[s],ρ=>match ρ.get s.1 with
  |some v=>s.2.dec v
  |none=>none
 |s::t::r,ρ=>match ρ.get s.1 with
  |some v=>match s.2.dec v with
   |some x=>match dW.read (t::r) ρ with
    |some y=>some (x,y)
    |none=>none
   |none=>none
  |none=>none
def dW.has:dW->Nat->Bool
 |[],_=>false
 |s::r,t=>wx s.1 t||dW.has r t
abbrev dm:=List (Nat×Nat)
def dm.over:dm->Env->Env
 |[],ρ=>ρ
 |(lo,hi)::r,ρ=>.kil lo hi::dm.over r ρ
def dm.has:dm->Nat->Nat->Bool
 |[],_,_=>false
 |(lo,hi)::r,a,b=>(vY lo a&&vY b hi)||dm.has r a b
def within(σ:dW)(κ:dm):Env->Nat->Bool
 |_,0=>true
 |[],_+1=>true
 | .val t _::r,n+1=>(dW.has σ t||dm.has κ t (t+1))&&within σ κ r n
 | .kil lo hi::r,n+1=>dm.has κ lo hi&&within σ κ r n
theorem dm.acu{κ:dm}{a b:Nat}(h:κ.has a b=true){t:Nat}(f:a<=t)(e:t<b)(ρ:Env):∃δ:Env,κ.over ρ=δ++ρ/\δ.fd t=true:=by
 induction κ with
 |nil=>simp[dm.has]at h
 |cons p r ih=>
  obtain⟨c,d⟩:=p;simp only[dm.has,z7,qz]at h;obtain⟨δ,j⟩:∃δ:Env,dm.over r ρ=δ++ρ:=by
   clear ih h
   induction r with
   |nil=>exact⟨[],rfl⟩
   |cons q r ih=>obtain⟨δ,h⟩:=ih;exact⟨.kil q.1 q.2::δ,by show bK.kil q.1 q.2::dm.over r ρ=_;rw[h];rfl⟩
  rcases h with h|h
  ·have k:=zJ h.1;have l:=zJ h.2;refine⟨.kil c d::δ,by simp[dm.over,j],?_⟩;have i:vY c t=true:=Nat.ble_eq_true_of_le (by omega);have x2:vK t d=true:=by unfold vK;exact Nat.ble_eq_true_of_le (by omega)
   simp[Env.fd,bK.fd,i,x2]
  ·obtain⟨g,f,e⟩:=ih h;exact⟨.kil c d::g,by simp[dm.over,f],by simp[Env.fd,e]⟩
theorem dm.Rs(κ:dm)(ρ:Env):κ.over ρ=κ.over []++ρ:=by
 induction κ with
 |nil=>rfl
 |cons p r ih=>obtain⟨a,b⟩:=p;simp[dm.over,ih]
theorem dW.Ke:∀(σ:dW) (x:σ.den) (ρ:Env),σ.vals x ρ=σ.vals x []++ρ
 |[],_,ρ=>rfl
 |[s],x,ρ=>rfl
 |s::t::r,x,ρ=>by simp only[dW.vals];rw[dW.Ke (t::r) x.2 ρ];rfl
theorem dW.Bc:∀(σ:dW) (x:σ.den) (t:Nat),(σ.vals x []).fd t=σ.has t
 |[],_,_=>rfl
 |[s],x,t=>by simp[dW.vals,Env.fd,bK.fd,dW.has]
 |s::u::r,x,t=>by
  have:=dW.Bc (u::r) x.2 t;simp only[dW.vals,Env.fd,bK.fd,this];rfl
theorem dW.Ru:∀(σ:dW) (x:σ.den) (e:Env) (t:Nat),σ.has t=true->((σ.vals x [])++e).get t=(σ.vals x []).get t
 |[],_,_,_,h=>by cases h
 |[s],x,e,t,h=>by
  simp only[dW.has,vV]at h;simp[dW.vals,Env.get,h]
 |s::u::r,x,e,t,h=>by
  simp only[dW.vals,zA,Env.get];cases hb:wx s.1 t with
  |true=>rfl
  |false=>
   have h':dW.has (u::r) t=true:=by have a:(wx s.1 t||dW.has (u::r) t)=true:=h;rw[hb]at a;exact a
   simpa using dW.Ru (u::r) x.2 e t h'
theorem dm.OR{κ:dm}{a b t:Nat}(h:κ.has a b=true)(f:a<=t)(d:t<b):(κ.over []).fd t=true:=by obtain⟨δ,e,c⟩:=dm.acu h f d [];rw[e];simpa using c
theorem fT{σ:dW}{κ:dm}:∀{δ ρ:Env},within σ κ (δ++ρ) δ.length=true->∀t,σ.has t=false->(κ.over []).fd t=false->δ.fd t=false
 |[],_,_,_,_,_=>rfl
 | .val s x::r,ρ,h,t,h1,h2=>by
  simp only[zA,zm,within,qz,z7]at h;simp only[Env.fd,bK.fd,yl];refine⟨?_,fT h.2 t h1 h2⟩;cases hb:wx s t with
  |false=>rfl
  |true=>
   have:s=t:=zK hb;subst this;rcases h.1 with h|h
   ·rw[h]at h1;cases h1
   ·rw[dm.OR h (ql _) (Nat.lt_succ_self _)]at h2;cases h2
 | .kil lo hi::r,ρ,h,t,h1,h2=>by
  simp only[zA,zm,within,qz]at h;simp only[Env.fd,bK.fd,yl];refine⟨?_,fT h.2 t h1 h2⟩;cases hb:(vY lo t&&vK t hi)with
  |false=>rfl
  |true=>
   simp only[qz]at hb;have a:=zJ hb.1;have b:t<hi:=zJ hb.2;rw[dm.OR h.1 a b]at h2;cases h2
theorem dW.Rv:∀{σ:dW} {ρ:Env} {x:σ.den} {t:Nat} {v:Value},σ.read ρ=some x->(σ.vals x []).get t=some v->ρ.get t=some v∨False
 |[],_,_,_,_,_,h=>by simp[dW.vals,Env.get]at h
 |[s],ρ,x,t,v,h,hv=>by
  simp only[dW.read]at h;split at h
  ·rename_i u c;simp only[dW.vals,Env.get]at hv;cases hb:wx s.1 t with
   |true=>
    rw[hb]at hv;have:=zK hb;simp at hv;subst hv;rw[<-Ty.rZ h,<-this];exact .inl c
   |false=>rw[hb]at hv;simp at hv
  ·cases h
 |s::u::r,ρ,x,t,v,h,hv=>by
  simp only[dW.read]at h;split at h
  ·rename_i z a;split at h
   ·rename_i y b;split at h
    ·rename_i w d;cases h;simp only[dW.vals,Env.get]at hv;cases hb:wx s.1 t with
     |true=>
      rw[hb]at hv;have:=zK hb;simp at hv;subst hv;rw[<-Ty.rZ b,<-this];exact .inl a
     |false=>
      rw[hb]at hv;exact dW.Rv (σ:=u::r) d hv
    ·cases h
   ·cases h
  ·cases h
theorem Fits.sa{n:Nat}{a d:Act}{σ:dW}{κ:dm}{ρ g:Env}{x:σ.den}(i:Fits n a ρ)(h:Fits n d g)
  (b:∀t,σ.has t=false->(κ.over []).fd t=false->d.tmps[t]?=a.tmps[t]?) (k:σ.read g=some x):
  Fits n d (σ.vals x (κ.over ρ))/\Ext ρ (σ.vals x (κ.over ρ)) a d:=by
 rw[dW.Ke,dm.Rs];refine⟨⟨h.size,h.defers,λt v c=>?_⟩,⟨σ.vals x []++κ.over [],by simp,λt f=>?_⟩⟩
 ·cases h1:σ.has t with
  |true=>
   have:∀(e:Env),((σ.vals x [])++e).get t=(σ.vals x []).get t:=λe=>dW.Ru σ x e t h1;rw[this]at c;rcases dW.Rv k c with h2|h2
   ·exact h.get t v h2
   ·exact h2.elim
  |false=>
   rw[Env.get_append (by rw[dW.Bc];exact h1)]at c;cases h2:(κ.over []).fd t with
   |true=>
    have:∀(e:Env),((κ.over [])++e).get t=none:=by
     intro e;clear b c
     induction κ with
     |nil=>simp[dm.over,Env.fd]at h2
     |cons p r ih=>
      obtain⟨j,l⟩:=p;simp only[dm.over,Env.fd,bK.fd]at h2;simp only[dm.over,zA,Env.get];cases hb:(vY j t&&vK t l)with
      |true=>rfl
      |false=>rw[hb]at h2;simp at h2;simpa using ih h2
    rw[this]at c;cases c
   |false=>
    rw[Env.get_append h2]at c;rw[b t h1 h2];exact i.get t v c
 ·rw[Env.BX,yl,dW.Bc]at f;exact b t f.1 f.2
theorem Ext.within{a d:Act}{σ:dW}{κ:dm}{ρ c:Env}(g:Ext ρ c a d)(e:within σ κ c (c.length-ρ.length)=true):
  ∀t,σ.has t=false->(κ.over []).fd t=false->d.tmps[t]?=a.tmps[t]?:=by
 obtain⟨δ,rfl,i⟩:=g;have b:(δ++ρ).length-ρ.length=δ.length:=by simp
 rw[b]at e;exactλt h f=>i t (fT e t h f)
theorem Ext.sa{a b:Act}{σ:dW}{κ:dm}{ρ:Env}{x:σ.den}(e:Ext ρ (σ.vals x (κ.over ρ)) a b):
  ∀t,σ.has t=false->(κ.over []).fd t=false->b.tmps[t]?=a.tmps[t]?:=by
 obtain⟨δ,c,g⟩:=e;rw[dW.Ke,dm.Rs,<-List.append_assoc]at c;have:=List.append_cancel_right c;subst this;exactλt f d=>g t (by rw[Env.BX,dW.Bc,f,d];rfl)
inductive EP where
 |int (k:IntKind)|bool|str|flt|cpx|mp|fn|other
 |slice (e:TypeId)|array (n:Nat) (e:TypeId)|struct (fs:List (Nat×TypeId))|ptr (e:TypeId)
def jg:Option TypeDesc->EP
 |some (.int k)=>.int k
 |some .bool=>.bool
 |some .string=>.str
 |some (.float _)=>.flt
 |some (.complex _)=>.cpx
 |some (.map ..)=>.mp
 |some (.func ..)=>.fn
 |some (.slice e)=>.slice e
 |some (.array n e)=>.array n e
 |some (.struct fs)=>.struct (fs.toList.map λf=>(f.offset,f.type))
 |some (.pointer e)=>.ptr e
 |_=>.other
structure TI where
 df:EP
 ty:Ty
 size:Nat
 bytes:Nat
 zero:List Value
abbrev kA:=List TI
def kA.seen(P:Program)(t:TypeId):EP×Option (Nat×Nat×Option (List Value)):=
 (jg (P.underlying t),(P.info? t).map λi=>(i.size,i.bytes,i.zero.map (·.cells.toList)))
def kA.told(i:TI):EP×Option (Nat×Nat×Option (List Value)):=(i.df,some (i.size,i.bytes,some i.zero))
def kA.get:kA->Nat->Option TI
 |[],_=>none
 |i::_,0=>some i
 |_::r,t+1=>kA.get r t
structure CG where
 P:Program
 T:kA
structure CG.Ok (C:CG):Prop where
 tbl:(List.range C.T.length).map (kA.seen C.P)=C.T.map kA.told
 mixed:C.P.follows .mixedOrders=true
theorem kA.get_eq:∀(T:kA) (t:Nat),T.get t=T[t]?
 |[],_=>rfl
 |_::_,0=>rfl
 |_::r,t+1=>by simp[kA.get,kA.get_eq r t]
theorem CG.Ok.at{C:CG}(h:C.Ok){t:Nat}{i:TI}(b:C.T.get t=some i):kA.seen C.P t=kA.told i:=by rw[kA.get_eq]at b;have a:t<C.T.length:=(qm.1 b).1;have:=congrArg (·[t]?) h.tbl;simp[a]at this;rw[this,(qm.1 b).2]
def Br(b:Bool)(A B:Prop):Prop:=match b with
 |true=>A
 |false=>B
inductive PV:Type 1 where
 |no
 |val (v:Value)
 |cond (c:Prop) (v:Value)
 |ex (X:Type) (c:X->Prop) (v:X->Value)
 |br (b:Bool) (x y:Value)
def PV.holds(p:PV)(K:Value->Prop):Prop:=match p with
 | .no=>False
 | .val v=>K v
 | .cond c v=>c/\K v
 | .ex _ c v=>∃x,c x/\K (v x)
 | .br b x y=>Br b (K x) (K y)
def sW(P:Program)(s:Sem Next)(v:Value):Prop:=∀w,s.run P w=.ok (.value v) w
def aL{α:Type}(P:Program)(s:Sem α)(v:α):Prop:=∀w,s.run P w=.ok v w
def kB(P:Program)(op:BinOp)(t:TypeId)(x y:Operand)(a b r:Value):Prop:=aL P (do eqGuard op t x y a b;binOp op t a b) r
def aeD:Operand->Bool
 | .tmp _=>true
 |_=>false
def acv(P:Program)(t:TypeId)(x y:Operand)(d:Option EP)(op:BinOp):Value->Value->PV
 | .int k a,.int k' b=>
  match op with
  | .shl=>.cond (0<=b) (.int k (k.wrap (a*2^min b.toNat k.bits)))
  | .shr=>.cond (0<=b) (.int k (a.fdiv (2^min b.toNat k.bits)))
  |_=>bif CF k k' then
   match op with
   | .add=>.val (.int k (k.wrap (a+b)))
   | .sub=>.val (.int k (k.wrap (a-b)))
   | .mul=>.val (.int k (k.wrap (a*b)))
   | .quo=>.cond (b≠0) (.int k (k.wrap (a.tdiv b)))
   | .rem=>.cond (b≠0) (.int k (a.tmod b))
   | .and=>.val (.int k (k.wrap (qF k.bits a&&&qF k.bits b).toNat))
   | .or=>.val (.int k (k.wrap (qF k.bits a|||qF k.bits b).toNat))
   | .xor=>.val (.int k (k.wrap (qF k.bits a^^^qF k.bits b).toNat))
   | .andNot=>.val (.int k (k.wrap (qF k.bits a&&&~~~qF k.bits b).toNat))
   | .eql=>.val (.bool (a==b))
   | .neq=>.val (.bool (a !=b))
   | .lss=>.val (.bool (decide (a<b)))
   | .leq=>.val (.bool (decide (a<=b)))
   | .gtr=>.val (.bool (decide (a>b)))
   | .geq=>.val (.bool (decide (a>=b)))
   |_=>.no
  else .no
 | .float k a,.float k' b=>bif FP k k' then
   match op with
   | .add=>.ex Nat (λr=>k.format.add a b=some r) (λr=>.float k r)
   | .sub=>.ex Nat (λr=>k.format.sub a b=some r) (λr=>.float k r)
   | .mul=>.ex Nat (λr=>k.format.mul a b=some r) (λr=>.float k r)
   | .quo=>.ex Nat (λr=>k.format.div a b=some r) (λr=>.float k r)
   | .eql=>.val (.bool (k.format.order a b==some .eq))
   | .neq=>.val (.bool (k.format.order a b !=some .eq))
   | .lss=>.val (.bool (k.format.order a b==some .lt))
   | .gtr=>.val (.bool (k.format.order a b==some .gt))
   |_=>.no
  else .no
 | .string a,.string b=>
  match op with
  | .eql=>.val (.bool (a.toList==b.toList))
  | .neq=>.val (.bool (!(a.toList==b.toList)))
  | .lss=>.val (.bool (Op.bytesLess a.toList b.toList))
  | .leq=>.val (.bool (Op.bytesLess a.toList b.toList||a.toList==b.toList))
  | .gtr=>.val (.bool (!(Op.bytesLess a.toList b.toList||a.toList==b.toList)))
  | .geq=>.val (.bool (!(Op.bytesLess a.toList b.toList)))
  | .add=>.cond (((a.size+b.size:Nat):Int)<=xi.max) (.string (a++b))
  |_=>.no
 | .bool a,.bool b=>
  match d with
  |some .bool=>match op with
   | .eql=>.val (.bool (a==b))
   | .neq=>.val (.bool (!(a==b)))
   |_=>.no
  |_=>.no
 | .pointer a,.pointer b=>bif aeD y then .ex Bool (λr=>kB P op t x y (.pointer a) (.pointer b) (.bool r)) (λr=>.bool r)else
  match b with
  |none=>match d with
   |some (.ptr _)=>match op with
    | .eql=>.val (.bool a.isNone)
    | .neq=>.val (.bool (!a.isNone))
    |_=>.no
   |_=>.no
  |some _=>.no
 | .slice a _ _,.slice none _ _=>
  match d with
  |some (.slice _)=>match op with
   | .eql=>.val (.bool a.isNone)
   | .neq=>.val (.bool (!a.isNone))
   |_=>.no
  |_=>.no
 | .agg a,.agg b=>.ex Bool (λr=>kB P op t x y (.agg a) (.agg b) (.bool r)) (λr=>.bool r)
 | .complex k a b,.complex k' c e=>
  match op with
  | .eql| .neq=>.ex Bool (λr=>kB P op t x y (.complex k a b) (.complex k' c e) (.bool r)) (λr=>.bool r)
  |_=>.ex (Nat×Nat) (λr=>kB P op t x y (.complex k a b) (.complex k' c e) (.complex k r.1 r.2)) (λr=>.complex k r.1 r.2)
 |_,_=>.no
def acw(P:Program)(t:TypeId)(x y:Operand)(d:Option EP)(op:BinOp)(a:Value):Value->PV
 | .nilIface=>.ex Bool (λr=>kB P op t x y a .nilIface (.bool r)) (λr=>.bool r)
 |b=>acv P t x y d op a b
def unV(op:UnOp):Value->PV
 | .bool b=>match op with
  | .not=>.val (.bool !b)
  |_=>.no
 | .int k n=>match op with
  | .neg=>.val (.int k (k.wrap (0-n)))
  | .xor=>.val (.int k (k.wrap (qF k.bits (if k.signed then-1 else k.max)^^^qF k.bits n).toNat))
  |_=>.no
 |_=>.no
def rK(ev:Operand->Option Value):List Operand->Option (List Value)
 |[]=>some []
 |x::r=>match ev x with
  |some v=>match rK ev r with
   |some vs=>some (v::vs)
   |none=>none
  |none=>none
def FR(ev:Operand->Option Value):List (Nat×Operand)->Option (List (Nat×Value))
 |[]=>some []
 |(n,x)::r=>match ev x with
  |some v=>match FR ev r with
   |some vs=>some ((n,v)::vs)
   |none=>none
  |none=>none
def placesOf(T:kA):List (Nat×TypeId)->Option (List (Nat×Nat))
 |[]=>some []
 |(off,t)::r=>match T.get t with
  |some j=>match placesOf T r with
   |some ps=>some ((off,j.size)::ps)
   |none=>none
  |none=>none
def Lj(ev:Operand->Option Value):Option Operand->Option (Option Int)
 |none=>some none
 |some x=>match ev x with
  |some (.int _ n)=>some (some n)
  |_=>none
def agH(d:Option EP):Value->PV
 | .slice _ n _=>match d with
  |some (.slice _)=>.val (.int .i64 n)
  |_=>.no
 | .string s=>match d with
  |some .str=>.val (.int .i64 s.size)
  |_=>.no
 |_=>.no
def agI(d:Option EP):Value->PV
 | .slice _ _ n=>match d with
  |some (.slice _)=>.val (.int .i64 n)
  |_=>.no
 |_=>.no
def aeE(d:Option EP):Value->PV
 | .int _ n=>match d with
  |some (.int k)=>.val (.int k (k.wrap n))
  |_=>.no
 |_=>.no
def CH(P:Program)(T:kA)(op:Op)(ev:Operand->Option Value):PV:=
 match op with
 | .move x| .assign x=>match ev x with
  |some v=>.val v
  |none=>.no
 | .pick c a b=>match ev c,ev a,ev b with
  |some (.bool t),some x,some y=>.br t x y
  |_,_,_=>.no
 | .nilCheck x=>match ev x with
  |some (.pointer p)=>.ex Addr (λa=>p=some a) (λa=>.pointer (some a))
  |_=>.no
 | .fieldAddr s x f=>match ev x with
  |some (.pointer (some a))=>match T.get s with
   |some i=>match i.df with
    | .struct fs=>match fs[f]? with
     |some (off,t)=>match T.get t with
      |some j=>bif wx j.size 0 then .no else .val (.pointer (some (a.add off)))
      |none=>.no
     |none=>.no
    |_=>.no
   |none=>.no
  |_=>.no
 | .indexAddr t x ix=>match ev ix with
  |some (.int _ n)=>match ev x with
   |some (.slice p len _)=>match T.get t with
    |some i=>match i.df with
     | .slice e=>match T.get e with
      |some j=>.ex Addr (λa=>p=some a/\0<=n/\n<(len:Int)) (λa=>.pointer (some (a.add (n.toNat*j.size))))
      |none=>.no
     |_=>.no
    |none=>.no
   |some (.pointer (some a))=>match T.get t with
    |some i=>match i.df with
     | .array m e=>match T.get e with
      |some j=>.cond (0<=n/\n<(m:Int)) (.pointer (some (a.add (n.toNat*j.size))))
      |none=>.no
     |_=>.no
    |none=>.no
   |_=>.no
  |_=>.no
 | .index t x ix=>match ev ix with
  |some (.int _ n)=>match ev x with
   |some (.string s)=>match T.get t with
    |some i=>match i.df with
     | .str=>.ex UInt8 (λb=>0<=n/\s.data[n.toNat]?=some b) (λb=>.int .u8 b.toNat)
     |_=>.no
    |none=>.no
   |some (.agg cs)=>match T.get t with
    |some i=>match i.df with
     | .array m e=>match T.get e with
      |some j=>match j.ty with
       | .sc s=>match j.df with
        | .struct _=>.no
        | .array _ _=>.no
        | .other=>.no
        |_=>bif wx j.size 1 then .ex s.den (λy=>0<=n/\n<(m:Int)/\cs[n.toNat]?=some (s.enc y)) (λy=>s.enc y)else .no
       |_=>.no
      |none=>.no
     |_=>.no
    |none=>.no
   |_=>.no
  |_=>.no
 | .field s x f=>match ev x with
  |some (.agg ⟨cs⟩)=>match T.get s with
   |some i=>match i.df with
    | .struct fs=>match fs[f]? with
     |some (off,t)=>match T.get t with
      |some j=>match j.df with
       | .struct _=>.val (.agg ((cs.drop off).take j.size).toArray)
       | .array _ _=>.val (.agg ((cs.drop off).take j.size).toArray)
       | .other=>.no
       |_=>match cs[off]? with
        |some v=>.val v
        |none=>.no
      |none=>.no
     |none=>.no
    |_=>.no
   |none=>.no
  |_=>.no
 | .slice t x lo hi mx=>match mx with
  |some _=>.no
  |none=>match Lj ev lo,Lj ev hi with
   |some l,some r=>match ev x with
    |some (.slice p len cap)=>match T.get t with
     |some i=>match i.df with
      | .slice e=>match T.get e with
       |some j=>match l,r with
        |none,none=>.val (.slice p len cap)
        |none,some r=>.cond (0<=r/\r<=(cap:Int)) (.slice p r.toNat cap)
        |some l,none=>.cond (0<=l/\l<=(len:Int)) (.slice (if cap=l.toNat then p else p.map (·.add (l.toNat*j.size))) (len-l.toNat) (cap-l.toNat))
        |some l,some r=>.cond (0<=l/\l<=r/\r<=(cap:Int)) (.slice (if cap=l.toNat then p else p.map (·.add (l.toNat*j.size))) (r.toNat-l.toNat) (cap-l.toNat))
       |none=>.no
      |_=>.no
     |none=>.no
    |some (.string s)=>match T.get t with
     |some i=>match i.df with
      | .str=>match l,r with
       |none,none=>.val (.string (s.extract 0 s.size))
       |none,some r=>.cond (0<=r/\r<=(s.size:Int)) (.string (s.extract 0 r.toNat))
       |some l,none=>.cond (0<=l/\l<=(s.size:Int)) (.string (s.extract l.toNat s.size))
       |some l,some r=>.cond (0<=l/\l<=r/\r<=(s.size:Int)) (.string (s.extract l.toNat r.toNat))
      |_=>.no
     |none=>.no
    |some (.pointer (some a))=>match T.get t with
     |some i=>match i.df with
      | .array n e=>match T.get e with
       |some j=>match l,r with
        |none,none=>.val (.slice (some a) n n)
        |none,some r=>.cond (0<=r/\r<=(n:Int)) (.slice (some a) r.toNat n)
        |some l,none=>.cond (0<=l/\l<=(n:Int)) (.slice (some (if n=l.toNat then a else a.add (l.toNat*j.size))) (n-l.toNat) (n-l.toNat))
        |some l,some r=>.cond (0<=l/\l<=r/\r<=(n:Int)) (.slice (some (if n=l.toNat then a else a.add (l.toNat*j.size))) (r.toNat-l.toNat) (n-l.toNat))
       |none=>.no
      |_=>.no
     |none=>.no
    |_=>.no
   |_,_=>.no
 | .extract x n=>match ev x with
  |some (.tuple ⟨vs⟩)=>match vs[n]? with
   |some v=>.val v
   |none=>.no
  |_=>.no
 | .binOp op t x y _=>match ev x,ev y with
  |some a,some b=>acw P t x y ((T.get t).map (·.df)) op a b
  |_,_=>.no
 | .unOp op _ x=>match ev x with
  |some v=>unV op v
  |none=>.no
 | .convert src dst x=>match ev x,(T.get src).map TI.df with
  |some v,some (EP.int _)=>aeE ((T.get dst).map (·.df)) v
  |_,_=>.no
 | .build t parts=>match FR ev parts.toList with
  |some vs=>match T.get t with
   |some i=>bif vK 24 i.size then .ex Value (λv=>aL P (vL t vs.toArray) v) (λv=>v)else match i.df with
    | .struct fs=>match placesOf T fs with
     |some ps=>match wq (λn=>ps[n]?) i.zero.toArray vs with
      |some cells=>.val (.agg cells)
      |none=>.no
     |none=>.no
    | .array _ e=>match T.get e with
     |some j=>match wq (λn=>some (n*j.size,j.size)) i.zero.toArray vs with
      |some cells=>.val (.agg cells)
      |none=>.no
     |none=>.no
    |_=>.no
   |none=>.no
  |none=>.no
 | .makeFunc fn first captured=>match rK ev first.toList,rK ev captured.toList with
  |some a,some b=>.val (.func fn a.toArray b.toArray)
  |_,_=>.no
 | .call c=>match c.callee with
  | .builtin b=>match b with
   | .len=>match c.argTypes.toList,c.args.toList with
    |t::_,[x]=>match ev x with
     |some v=>agH ((T.get t).map (·.df)) v
     |none=>.no
    |_,_=>.no
   | .cap=>match c.argTypes.toList,c.args.toList with
    |t::_,[x]=>match ev x with
     |some v=>agI ((T.get t).map (·.df)) v
     |none=>.no
    |_,_=>.no
   | .min=>match rK ev c.args.toList with
    |some [.int k a,.int _ b]=>.val (.int k (if b<a then b else a))
    |_=>.no
   | .max=>match rK ev c.args.toList with
    |some [.int k a,.int _ b]=>.val (.int k (if b>a then b else a))
    |_=>.no
   | .real=>match rK ev c.args.toList with
    |some [.complex k a _]=>.val (.float k a)
    |_=>.no
   | .imag=>match rK ev c.args.toList with
    |some [.complex k _ b]=>.val (.float k b)
    |_=>.no
   |_=>.no
  |_=>.no
 |_=>.no
theorem aL.next{P:Program}{s:Sem Value}{v:Value}(h:aL P s v):sW P (do pure (.value (<-s))) v:=λw=>by
 rw[Sem.run_bind,h w];rfl
theorem aL.pure{α:Type}{P:Program}{v:α}:aL P (pure v) v:=λ_=>rfl
theorem aL.bind{α β:Type}{P:Program}{s:Sem α}{f:α->Sem β}{v:α}{u:β}(h:aL P s v)(k:aL P (f v) u):aL P (s>>=f) u:=λw=>by
 rw[Sem.run_bind,h w];exact k w
theorem Iu{d:Option TypeDesc}{k:IntKind}(h:jg d=.int k):d=some (.int k):=by unfold jg at h;split at h<;>cases h;rfl
theorem acx{d:Option TypeDesc}(h:jg d=.bool):d=some .bool:=by unfold jg at h;split at h<;>cases h;rfl
theorem xv{d:Option TypeDesc}(h:jg d=.str):d=some .string:=by unfold jg at h;split at h<;>cases h;rfl
theorem kC{d:Option TypeDesc}{e:TypeId}(h:jg d=.slice e):d=some (.slice e):=by unfold jg at h;split at h<;>cases h;rfl
theorem sX{d:Option TypeDesc}{n:Nat}{e:TypeId}(h:jg d=.array n e):d=some (.array n e):=by unfold jg at h;split at h<;>cases h;rfl
theorem afx{d:Option TypeDesc}{e:TypeId}(h:jg d=.ptr e):d=some (.pointer e):=by unfold jg at h;split at h<;>cases h;rfl
theorem pE{d:Option TypeDesc}{a:List (Nat×TypeId)}(h:jg d=.struct a):∃b,d=some (.struct b)/\a=b.toList.map λf=>(f.offset,f.type):=by unfold jg at h;split at h<;>cases h;exact⟨_,rfl,rfl⟩
section
variable {C:CG} {t:TypeId} {i:TI}
theorem CG.Ok.df(h:C.Ok)(a:C.T.get t=some i):jg (C.P.underlying t)=i.df:=congrArg Prod.fst (h.at a)
theorem CG.Ok.info(h:C.Ok)(d:C.T.get t=some i):∃f,C.P.info? t=some f/\f.size=i.size/\f.bytes=i.bytes/\∃z,f.zero=some z/\z.cells.toList=i.zero:=by
 have:=congrArg Prod.snd (h.at d);simp only[kA.seen,kA.told]at this;cases hf:C.P.info? t with
 |none=>rw[hf]at this;cases this
 |some f=>
  rw[hf]at this;simp only[qY,zS.injEq,Prod.mk.injEq]at this;obtain⟨a,b,c⟩:=this;cases hz:f.zero with
  |none=>rw[hz]at c;cases c
  |some z=>rw[hz]at c;simp at c;exact⟨f,rfl,a,b,z,hz,by simpa using c⟩
theorem aV{P:Program}{t:TypeId}{d:TypeDesc}(h:P.underlying t=some d):aL P (underlying t) d:=λw=>by
 simp[underlying,h]
theorem dq{P:Program}{t:TypeId}{d:TypeInfo}(h:P.info? t=some d):aL P (typeInfo t) d:=λw=>by
 simp[typeInfo,h]
theorem eu(h:C.Ok)(b:C.T.get t=some i):aL C.P (sizeOf t) i.size:=by obtain⟨f,a,c,_⟩:=h.info b;rw[<-c];exact(dq a).bind .pure
theorem sH(h:C.Ok)(d:C.T.get t=some i):∃z,aL C.P (zeroValue t) z/\z.cells.toList=i.zero:=by obtain⟨f,b,_,_,z,a,c⟩:=h.info d;refine⟨z,(dq b).bind ?_,c⟩;rw[a];exact .pure
theorem lB(h:C.Ok)(g:C.T.get t=some i):(∀b,i.df=.struct b->aL C.P (isAgg t) true)/\(∀n e,i.df=.array n e->aL C.P (isAgg t) true)/\
  ((∀b,i.df≠.struct b)->(∀n e,i.df≠.array n e)->i.df≠.other->aL C.P (isAgg t) false):=by
 have a:=h.df g;refine⟨λb c=>?_,λn e c=>?_,λj f h3=>?_⟩
 ·rw[c]at a;obtain⟨l,k,_⟩:=pE a;exact(aV k).bind .pure
 ·rw[c]at a;exact(aV (sX a)).bind .pure
 ·cases hu:C.P.underlying t with
  |none=>rw[hu]at a;exact absurd a.symm h3
  |some d=>
   refine(aV hu).bind ?_;rw[hu]at a;cases d<;>first|exact .pure|(exfalso;simp only[jg]at a;first|exact j _ a.symm|exact f _ _ a.symm)
end
theorem DF{ev:Operand->Option Value}{e:Operand->Value}(c:∀x v,ev x=some v->e x=v):∀{l:List Operand} {vs:List Value},rK ev l=some vs->l.map e=vs:=by
 intro l
 induction l with
 |nil=>intro vs h;cases h;rfl
 |cons x r ih=>
  intro vs h;simp only[rK]at h;split at h
  ·rename_i v b;split at h
   ·rename_i us a;cases h;simp[c _ _ b,ih a]
   ·cases h
  ·cases h
theorem Jo{ev:Operand->Option Value}{e:Operand->Value}(c:∀x v,ev x=some v->e x=v):∀{l:List (Nat×Operand)} {vs:List (Nat×Value)},FR ev l=some vs->l.map (λp=>(p.1,e p.2))=vs:=by
 intro l
 induction l with
 |nil=>intro vs h;cases h;rfl
 |cons x r ih=>
  intro vs h;obtain⟨n,x⟩:=x;simp only[FR]at h;split at h
  ·rename_i v b;split at h
   ·rename_i us a;cases h;simp[c _ _ b,ih a]
   ·cases h
  ·cases h
section
variable {P:Program}
theorem Kf(t:TypeId)(x y:Value):Op.equal t x y=Op.equalIn (9999+1) t x y:=rfl
theorem afy{t:TypeId}(c:P.underlying t=some .bool)(d:Nat)(a b:Bool):aL P (Op.equalIn (d+1) t (.bool a) (.bool b)) (a==b):=λw=>by
 simp[Op.equalIn,underlying,c]
theorem agJ{t e:TypeId}(b:P.underlying t=some (.pointer e))(d:Nat)(a:Option Addr):aL P (Op.equalIn (d+1) t (.pointer a) (.pointer none)) a.isNone:=λw=>by
 cases a<;>simp[Op.equalIn,underlying,b]
theorem acy{t e:TypeId}(b:P.underlying t=some (.slice e))(d:Nat)(a:Option Addr)(l c l' f:Nat):aL P (Op.equalIn (d+1) t (.slice a l c) (.slice none l' f)) a.isNone:=λw=>by
 cases a<;>simp[Op.equalIn,underlying,b]
theorem Xh{t:TypeId}{d:Option EP}{op:BinOp}{a b:Value}{x y:Operand}{K:Value->Prop}(o:∀q,d=some q->jg (P.underlying t)=q)
  (h:(acv P t x y d op a b).holds K):∃v,aL P (do eqGuard op t x y a b;binOp op t a b) v/\K v:=by
 have j:∀{a b:Value},¬(a=.nilIface/\b=.nilIface)->(∀u v,¬(a=.agg u/\b=.agg v))->aL P (eqGuard op t x y a b) ():=by
  intro a b i f w;simp only[eqGuard];cases op<;>simp only[Bool.not_true,Bool.not_false,zk,if_true,if_false]<;>
   first
    |rfl
    |(split<;>first|exact absurd ⟨rfl,rfl⟩ i|exact absurd ⟨rfl,rfl⟩ (f _ _)|rfl)
 unfold acv at h;split at h
 ·rename_i k a n b;have g:=j (a:=.int k a) (b:=.int n b) (by simp) (by simp);cases op<;>simp only at h
  case shl=>exact⟨_,g.bind λw=>by simp only[binOp,Op.shift];rw[if_neg (by have:=h.1;omega)];rfl,h.2⟩
  case shr=>exact⟨_,g.bind λw=>by simp only[binOp,Op.shift];rw[if_neg (by have:=h.1;omega)];rfl,h.2⟩
  all_goals
   cases hk:CF k n with
   |false=>rw[hk]at h;simp[PV.holds]at h
   |true=>
    rw[hk]at h;simp only[cond_true,PV.holds]at h;have e:=Jn hk;subst e
    first
     |exact⟨_,g.bind λw=>by simp[binOp,Op.intArith,Op.intBits,Op.intCmp],h⟩
     |exact⟨_,g.bind λw=>by simp[binOp,Op.intDiv,h.1],h.2⟩
     |exact h.elim
 ·rename_i k a n b;have g:=j (a:=.float k a) (b:=.float n b) (by simp) (by simp);cases hk:FP k n with
  |false=>rw[hk]at h;simp[PV.holds]at h
  |true=>
   rw[hk]at h;have e:=FQ hk;subst e;cases op<;>simp only[cond_true,PV.holds]at h<;>
    first
     |(obtain⟨r,i,f⟩:=h;exact⟨_,g.bind λw=>by simp[binOp,Op.floatArith,i],f⟩)
     |exact⟨_,g.bind λw=>by simp[binOp,Op.floatCmp],h⟩
     |exact h.elim
 ·rename_i a b;have g:=j (a:=.string a) (b:=.string b) (by simp) (by simp);cases op<;>simp only[PV.holds]at h<;>
   first
    |exact⟨_,g.bind λw=>by simp[binOp,Op.stringOp],h⟩
    |exact⟨_,g.bind λw=>by simp only[binOp,Op.stringOp];rw[if_neg (by have:=h.1;omega)];rfl,h.2⟩
    |exact h.elim
 ·rename_i a b;have g:=j (a:=.bool a) (b:=.bool b) (by simp) (by simp);split at h
  ·have m:=acx (o _ rfl);cases op<;>simp only[PV.holds]at h<;>
    first
     |exact⟨_,g.bind (by simp only[binOp,Kf];exact(afy m _ a b).bind .pure),h⟩
     |exact h.elim
  ·exact h.elim
 ·rename_i a b;cases hy:aeD y with
  |true=>
   rw[hy]at h;obtain⟨r,i,f⟩:=h;exact⟨_,i,f⟩
  |false=>
   rw[hy]at h;cases b with
   |some _=>exact h.elim
   |none=>
    have g:=j (a:=.pointer a) (b:=.pointer none) (by simp) (by simp);simp only[cond_false]at h;split at h
    ·rename_i e;have m:=afx (o _ rfl);cases op<;>simp only[PV.holds]at h<;>
      first
       |exact⟨_,g.bind (by simp only[binOp,Kf];exact(agJ m _ a).bind .pure),h⟩
       |exact h.elim
    ·exact h.elim
 ·rename_i a l c l' p;have g:=j (a:=.slice a l c) (b:=.slice none l' p) (by simp) (by simp);split at h
  ·rename_i e;have m:=kC (o _ rfl);cases op<;>simp only[PV.holds]at h<;>
    first
     |exact⟨_,g.bind (by simp only[binOp,Kf];exact(acy m _ a l c l' p).bind .pure),h⟩
     |exact h.elim
  ·exact h.elim
 ·obtain⟨r,i,f⟩:=h;exact⟨_,i,f⟩
 ·split at h
  ·obtain⟨r,i,f⟩:=h;exact⟨_,i,f⟩
  ·obtain⟨r,i,f⟩:=h;exact⟨_,i,f⟩
  ·obtain⟨r,i,f⟩:=h;exact⟨_,i,f⟩
 ·exact h.elim
theorem Xi{t:TypeId}{d:Option EP}{op:BinOp}{a b:Value}{x y:Operand}{K:Value->Prop}(c:∀q,d=some q->jg (P.underlying t)=q)
  (h:(acw P t x y d op a b).holds K):∃v,aL P (do eqGuard op t x y a b;binOp op t a b) v/\K v:=by
 unfold acw at h;split at h
 ·obtain⟨r,f,e⟩:=h;exact⟨_,f,e⟩
 ·exact Xh c h
end
theorem Rw(a:List Value)(off n:Nat):((a.drop off).take n).toArray=(a.toArray).extract off (off+n):=by apply yq;simp[List.extract_eq_take_drop]
section
variable {C:CG} {ev:Operand->Option Value} {e:Operand->Value}
theorem nW(c:C.Ok):∀{b:List Field} {a:List (Nat×Nat)},placesOf C.T (b.map λf=>(f.offset,f.type))=some a->
  aL C.P (b.mapM λf=>(do pure (f.offset,<-sizeOf f.type):Sem (Nat×Nat))) a
 |[],a,h=>by cases h;exact .pure
 |f::r,a,h=>by
  simp only[List.map_cons,placesOf]at h;split at h
  ·rename_i j d;split at h
   ·rename_i g e;cases h;rw[List.mapM_cons];exact aL.bind ((eu c d).bind .pure) ((nW c e).bind .pure)
   ·cases h
  ·cases h
theorem Jp(c:C.Ok){t:TypeId}{j:TI}(f:C.T.get t=some j)(h:∀g,j.df≠.struct g)(b:∀n e,j.df≠.array n e)(h3:j.df≠.other)
  {a:Array Value} {off:Nat} {v:Value} (d:a[off]?=some v):aL C.P (part t a off) v:=by
 refine((lB c f).2.2 h b h3).bind ?_;rw[d];exact .pure
theorem Rx(a:C.Ok){t:TypeId}{j:TI}(b:C.T.get t=some j)(h:(∃c,j.df=.struct c)∨∃n e,j.df=.array n e)
  {d:Array Value} {off:Nat}:aL C.P (part t d off) (.agg (d.extract off (off+j.size))):=by
 have f:aL C.P (isAgg t) true:=by
  rcases h with⟨c,h⟩|⟨n,e,h⟩
  ·exact(lB a b).1 c h
  ·exact(lB a b).2.1 n e h
 exact f.bind ((eu a b).bind .pure)
theorem Lk(J:C.Ok)(G:∀x v,ev x=some v->e x=v){o:Oper}{K:Value->Prop}(h:(CH C.P C.T o.op ev).holds K):
  ∃v,sW C.P (execOp e o) v/\K v:=by
 have M:∀t q,(C.T.get t).map (·.df)=some q->jg (C.P.underlying t)=q:=λt q h=>by
  cases F:C.T.get t with
  |none=>rw[F]at h;cases h
  |some i=>rw[F]at h;cases h;exact J.df F
 cases hop:o.op<;>rw[hop]at h<;>simp only[CH]at h<;>simp only[execOp,hop]
 case move x=>
  split at h
  ·rename_i v A;rw[G _ _ A];exact⟨v,λ_=>rfl,h⟩
  ·exact h.elim
 case assign x=>
  split at h
  ·rename_i v A;rw[G _ _ A];exact⟨v,λ_=>rfl,h⟩
  ·exact h.elim
 case pick c a b=>
  split at h
  ·rename_i t x y O h2 h3;rw[G _ _ O,G _ _ h2,G _ _ h3];cases t
   ·exact⟨y,λ_=>rfl,h⟩
   ·exact⟨x,λ_=>rfl,h⟩
  ·exact h.elim
 case nilCheck x=>
  split at h
  ·rename_i p hp;obtain⟨a,rfl,B⟩:=h;rw[G _ _ hp];exact⟨_,λ_=>rfl,B⟩
  ·exact h.elim
 case fieldAddr s x f=>
  split at h
  ·rename_i a ha;rw[G _ _ ha];split at h
   ·rename_i i F;split at h
    ·rename_i fs Y;split at h
     ·rename_i off t ad;split at h
      ·rename_i j R;cases hz:wx j.size 0 with
       |true=>rw[hz]at h;exact h.elim
       |false=>
        rw[hz]at h;have E:=J.df F;rw[Y]at E;obtain⟨gs,hg,rfl⟩:=pE E;simp only[qR,y0]at ad;obtain⟨g,ay,a0⟩:=ad;cases a0;refine⟨_,aL.next ((aV hg).bind ?_),h⟩;have ah:gs[f]?=some g:=by simpa using ay
        simp only[ah];refine aL.bind (v:=a) .pure (aL.bind (v:=a.add g.offset) ?_ .pure);unfold fieldPlace;refine(eu J R).bind ?_;have:j.size≠0:=λe=>by rw[e]at hz;cases hz
        rw[if_neg this];exact .pure
      ·exact h.elim
     ·exact h.elim
    ·exact h.elim
   ·exact h.elim
  ·exact h.elim
 case indexAddr t x ix=>
  split at h
  ·rename_i k n hn;rw[G _ _ hn];split at h
   ·rename_i p len cap S;rw[G _ _ S];split at h
    ·rename_i i F;split at h
     ·rename_i el D;split at h
      ·rename_i j R;obtain⟨a,⟨rfl,h0,O⟩,B⟩:=h;have E:=J.df F;rw[D]at E;have H:=kC E;refine⟨_,aL.next ?_,B⟩;unfold Instr.indexAt;refine aL.bind (v:=(k,n)) .pure ?_;refine(aV H).bind ?_;refine aL.bind (v:=(some a,len,el)) .pure ?_;intro w;have:=eu J R w;simp only[Sem.run_bind,aV H w,Result.andThen_ok];cases hl:decide (len<=1)<;>simp[h0,O,this]
      ·exact h.elim
     ·exact h.elim
    ·exact h.elim
   ·rename_i a S;rw[G _ _ S];split at h
    ·rename_i i F;split at h
     ·rename_i m el D;split at h
      ·rename_i j R;obtain⟨⟨h0,O⟩,B⟩:=h;have E:=J.df F;rw[D]at E;have H:=sX E;refine⟨_,aL.next ?_,B⟩;unfold Instr.indexAt;refine aL.bind (v:=(k,n)) .pure ?_;refine(aV H).bind ?_;refine aL.bind (v:=(some a,m,el)) .pure ?_;intro w;have:=eu J R w;simp only[Sem.run_bind,aV H w,Result.andThen_ok];cases hl:decide (m<=1)<;>simp[h0,O,this]
      ·exact h.elim
     ·exact h.elim
    ·exact h.elim
   ·exact h.elim
  ·exact h.elim
 case index t x ix=>
  split at h
  ·rename_i k n hn;rw[G _ _ hn];split at h
   ·rename_i s S;rw[G _ _ S];split at h
    ·rename_i i F;split at h
     ·rename_i D;obtain⟨b,⟨h0,O⟩,B⟩:=h;have E:=J.df F;rw[D]at E;have H:=xv E;refine⟨_,aL.next ?_,B⟩;unfold Instr.index;refine aL.bind (v:=(k,n)) .pure ?_;refine(aV H).bind ?_;have hb:s[n.toNat]?=some b:=by rw[Array.getElem?_eq_some_iff]at O;obtain⟨bq,hg⟩:=O;have a7:n.toNat<s.size:=bq;rw[getElem?_pos s n.toNat a7];exact congrArg some hg
      simp only[h0,if_true,hb];exact .pure
     ·exact h.elim
    ·exact h.elim
   ·rename_i cs S;rw[G _ _ S];split at h
    ·rename_i i F;split at h
     ·rename_i m el D;split at h
      ·rename_i j R;split at h
       ·rename_i s hs;have E:=J.df F;rw[D]at E;have H:=sX E;have am:(∃y,(0<=n/\n<(m:Int)/\cs[n.toNat]?=some (s.enc y))/\K (s.enc y))->(∀fs,j.df≠.struct fs)->(∀n e,j.df≠.array n e)->j.df≠.other->j.size=1->
          ∃v,sW C.P (do pure (.value (<-Instr.index t (.agg cs) (.int k n)))) v/\K v:=by
         rintro⟨y,⟨h0,O,h2⟩,B⟩ d1 d2 d3 bd;refine⟨_,aL.next ?_,B⟩;unfold Instr.index;refine aL.bind (v:=(k,n)) .pure ?_;refine(aV H).bind ?_;simp only[h0,O,and_self,if_true];refine(eu J R).bind ?_;rw[bd,Nat.mul_one];exact Jp J R d1 d2 d3 h2
        split at h
        ·exact h.elim
        ·exact h.elim
        ·exact h.elim
        ·rename_i d1 d2 d3;cases hz:wx j.size 1 with
         |false=>rw[hz]at h;exact h.elim
         |true=>
          rw[hz]at h;exact am h d1 d2 d3 (zK hz)
       ·exact h.elim
      ·exact h.elim
     ·exact h.elim
    ·exact h.elim
   ·exact h.elim
  ·exact h.elim
 case field s x f=>
  split at h
  ·rename_i cs S;rw[G _ _ S];split at h
   ·rename_i i F;split at h
    ·rename_i fs Y;split at h
     ·rename_i off t ad;split at h
      ·rename_i j R;have E:=J.df F;rw[Y]at E;obtain⟨gs,hg,rfl⟩:=pE E;simp only[qR,y0]at ad;obtain⟨g,ay,a0⟩:=ad;cases a0;have ah:gs[f]?=some g:=by simpa using ay
       have am:∀v,aL C.P (part g.type ⟨cs⟩ g.offset) v->K v->∃v,sW C.P (do pure (.value (<-Instr.field s (.agg ⟨cs⟩) f))) v/\K v:=by intro v A B;refine⟨v,aL.next ((aV hg).bind ?_),B⟩;simp only[ah];exact aL.bind (v:=(⟨cs⟩:Array Value)) .pure A
       split at h
       ·rename_i b0 a6;refine am _ (Rx J R (.inl ⟨_,a6⟩)) ?_;rw[<-Rw];exact h
       ·rename_i n' e' a6;refine am _ (Rx J R (.inr ⟨_,_,a6⟩)) ?_;rw[<-Rw];exact h
       ·exact h.elim
       ·rename_i d1 d2 d3;split at h
        ·rename_i v A;exact am v (Jp J R d1 d2 d3 (by simpa using A)) h
        ·exact h.elim
      ·exact h.elim
     ·exact h.elim
    ·exact h.elim
   ·exact h.elim
  ·exact h.elim
 case slice t x W hi0 mx=>
  split at h
  ·exact h.elim
  ·split at h
   ·rename_i l r hl hr;have a5:(W=none/\l=none)∨∃y k m,W=some y/\e y=.int k m/\l=some m:=by
     cases W with
     |none=>cases hl;exact .inl ⟨rfl,rfl⟩
     |some y=>
      simp only[Lj]at hl;split at hl
      ·rename_i k m hm;cases hl;exact .inr ⟨y,k,m,rfl,G _ _ hm,rfl⟩
      ·cases hl
    have a4:(hi0=none/\r=none)∨∃y k m,hi0=some y/\e y=.int k m/\r=some m:=by
     cases hi0 with
     |none=>cases hr;exact .inl ⟨rfl,rfl⟩
     |some y=>
      simp only[Lj]at hr;split at hr
      ·rename_i k m hm;cases hr;exact .inr ⟨y,k,m,rfl,G _ _ hm,rfl⟩
      ·cases hr
    have I:∀(bb:Bool) (len cap:Nat) (W F:Option Value) (a b:Nat),(W=none->a=0)->(∀v,W=some v->∃k m,v=.int k m/\0<=m/\a=m.toNat/\m<=(b:Int))->
      (F=none->b=len)->(∀v,F=some v->∃k m,v=.int k m/\0<=m/\b=m.toNat/\m<=(cap:Int))->
      aL C.P (w7 bb len cap W F none) (a,b,cap):=by
     intro bb len cap W F a b O h2 h3 h4 w;cases F with
     |none=>
      have e1:=h3 rfl;subst e1;cases W with
      |none=>rw[O rfl];simp[w7]
      |some v=>
       obtain⟨k,m,rfl,x1,rfl,x2⟩:=h2 v rfl;simp[w7,Instr.sliceBound,asIntOf,x1,x2]
     |some u=>
      obtain⟨k',V,rfl,y1,rfl,y2⟩:=h4 u rfl;cases W with
      |none=>rw[O rfl];simp[w7,Instr.sliceBound,asIntOf,y1,y2]
      |some v=>
       obtain⟨k,m,rfl,x1,rfl,x2⟩:=h2 v rfl;have x3:¬max V 0<m:=by omega
       simp[w7,Instr.sliceBound,asIntOf,x1,y1,y2,x3]
    split at h
    ·rename_i p len cap S;rw[G _ _ S];split at h
     ·rename_i i F;split at h
      ·rename_i el D;split at h
       ·rename_i j R;have E:=J.df F;rw[D]at E;have H:=kC E;have fin:∀(a b:Nat) (v:Value),aL C.P (w7 true len cap (W.map e) (hi0.map e) none) (a,b,cap)->
          v=.slice (if cap=a then p else p.map (·.add (a*j.size))) (b-a) (cap-a)->K v->
          ∃v,sW C.P (do pure (.value (<-y8 t (.slice p len cap) (W.map e) (hi0.map e) (Option.map e none)))) v/\K v:=by
         intro a b v hb A B;refine⟨v,aL.next ?_,B⟩;unfold y8;refine(aV H).bind ?_;simp only[Instr.slice,Option.map_none];refine(aV H).bind ?_;refine hb.bind ?_;subst A;exact(eu J R).bind .pure
        have ap:(if cap=0 then p else p.map (·.add (0*j.size)))=p:=by
         cases p<;>simp[Addr.add]
        rcases a5 with⟨rfl,rfl⟩|⟨y,k,m,rfl,hy,rfl⟩<;>rcases a4 with⟨rfl,rfl⟩|⟨y',k',V,rfl,hy',rfl⟩
        ·exact fin 0 len _ (I _ _ _ _ _ _ _ (λ_=>rfl) (by simp) (λ_=>rfl) (by simp)) (by rw[ap];rfl) h
        ·obtain⟨⟨U,Z⟩,B⟩:=h;exact fin 0 V.toNat _ (I _ _ _ _ _ _ _ (λ_=>rfl) (by simp) (by simp) λv A=>by cases A;exact⟨k',V,hy',U,rfl,Z⟩) (by rw[ap];rfl) B
        ·obtain⟨⟨U,Z⟩,B⟩:=h;exact fin m.toNat len _ (I _ _ _ _ _ _ _ (by simp) (λv A=>by cases A;exact⟨k,m,hy,U,rfl,Z⟩) (λ_=>rfl) (by simp)) rfl B
        ·obtain⟨⟨U,Z,a3⟩,B⟩:=h;exact fin m.toNat V.toNat _ (I _ _ _ _ _ _ _ (by simp) (λv A=>by cases A;exact⟨k,m,hy,U,rfl,by omega⟩) (by simp) λv A=>by cases A;exact⟨k',V,hy',by omega,rfl,a3⟩) rfl B
       ·exact h.elim
      ·exact h.elim
     ·exact h.elim
    ·rename_i s S;rw[G _ _ S];split at h
     ·rename_i i F;split at h
      ·rename_i D;have E:=J.df F;rw[D]at E;have H:=xv E;have fin:∀(a b:Nat) (v:Value),aL C.P (w7 false s.size s.size (W.map e) (hi0.map e) none) (a,b,s.size)->
         v=.string (s.extract a b)->K v->
         ∃v,sW C.P (do pure (.value (<-y8 t (.string s) (W.map e) (hi0.map e) (Option.map e none)))) v/\K v:=by
        intro a b v hb A B;refine⟨v,aL.next ?_,B⟩;unfold y8;refine(aV H).bind ?_;simp only[Instr.slice,Option.map_none];refine(aV H).bind ?_;subst A;intro w;simp[hb w]
       rcases a5 with⟨rfl,rfl⟩|⟨y,k,m,rfl,hy,rfl⟩<;>rcases a4 with⟨rfl,rfl⟩|⟨y',k',V,rfl,hy',rfl⟩
       ·exact fin 0 s.size _ (I _ _ _ _ _ _ _ (λ_=>rfl) (by simp) (λ_=>rfl) (by simp)) rfl h
       ·obtain⟨⟨U,Z⟩,B⟩:=h;exact fin 0 V.toNat _ (I _ _ _ _ _ _ _ (λ_=>rfl) (by simp) (by simp) λv A=>by cases A;exact⟨k',V,hy',U,rfl,Z⟩) rfl B
       ·obtain⟨⟨U,Z⟩,B⟩:=h;exact fin m.toNat s.size _ (I _ _ _ _ _ _ _ (by simp) (λv A=>by cases A;exact⟨k,m,hy,U,rfl,Z⟩) (λ_=>rfl) (by simp)) rfl B
       ·obtain⟨⟨U,Z,a3⟩,B⟩:=h;exact fin m.toNat V.toNat _ (I _ _ _ _ _ _ _ (by simp) (λv A=>by cases A;exact⟨k,m,hy,U,rfl,by omega⟩) (by simp) λv A=>by cases A;exact⟨k',V,hy',by omega,rfl,a3⟩) rfl B
      ·exact h.elim
     ·exact h.elim
    ·rename_i a S;rw[G _ _ S];split at h
     ·rename_i i F;split at h
      ·rename_i n el D;split at h
       ·rename_i j R;have E:=J.df F;rw[D]at E;have H:=sX E;have fin:∀(a' b:Nat) (v:Value),aL C.P (w7 false n n (W.map e) (hi0.map e) none) (a',b,n)->
          v=.slice (some (if n=a' then a else a.add (a'*j.size))) (b-a') (n-a')->K v->
          ∃v,sW C.P (do pure (.value (<-y8 t (.pointer (some a)) (W.map e) (hi0.map e) (Option.map e none)))) v/\K v:=by
         intro a' b v hb A B;refine⟨v,aL.next ?_,B⟩;unfold y8;refine(aV H).bind ?_;simp only[Option.map_none];refine aL.bind (v:=a) .pure ?_;refine hb.bind ?_;subst A;exact(eu J R).bind .pure
        have ap:(if n=0 then a else a.add (0*j.size))=a:=by simp[Addr.add]
        rcases a5 with⟨rfl,rfl⟩|⟨y,k,m,rfl,hy,rfl⟩<;>rcases a4 with⟨rfl,rfl⟩|⟨y',k',V,rfl,hy',rfl⟩
        ·exact fin 0 n _ (I _ _ _ _ _ _ _ (λ_=>rfl) (by simp) (λ_=>rfl) (by simp)) (by rw[ap];rfl) h
        ·obtain⟨⟨U,Z⟩,B⟩:=h;exact fin 0 V.toNat _ (I _ _ _ _ _ _ _ (λ_=>rfl) (by simp) (by simp) λv A=>by cases A;exact⟨k',V,hy',U,rfl,Z⟩) (by rw[ap];rfl) B
        ·obtain⟨⟨U,Z⟩,B⟩:=h;exact fin m.toNat n _ (I _ _ _ _ _ _ _ (by simp) (λv A=>by cases A;exact⟨k,m,hy,U,rfl,Z⟩) (λ_=>rfl) (by simp)) rfl B
        ·obtain⟨⟨U,Z,a3⟩,B⟩:=h;exact fin m.toNat V.toNat _ (I _ _ _ _ _ _ _ (by simp) (λv A=>by cases A;exact⟨k,m,hy,U,rfl,by omega⟩) (by simp) λv A=>by cases A;exact⟨k',V,hy',by omega,rfl,a3⟩) rfl B
       ·exact h.elim
      ·exact h.elim
     ·exact h.elim
    ·exact h.elim
   ·exact h.elim
 case extract x n=>
  split at h
  ·rename_i vs S;rw[G _ _ S];split at h
   ·rename_i v A;refine⟨v,aL.next ?_,h⟩;have:(⟨vs⟩:Array Value)[n]?=some v:=by simpa using A
    simp only[Instr.extract,this];exact .pure
   ·exact h.elim
  ·exact h.elim
 case binOp op t x y u=>
  split at h
  ·rename_i a b ha hb;rw[G _ _ ha,G _ _ hb];obtain⟨v,A,B⟩:=Xi (P:=C.P) (x:=x) (y:=y) (M t) h;exact⟨v,A.next,B⟩
  ·exact h.elim
 case unOp op t x=>
  split at h
  ·rename_i v A;rw[G _ _ A];unfold unV at h;split at h
   ·split at h
    ·exact⟨_,aL.next .pure,h⟩
    ·exact h.elim
   ·split at h
    ·exact⟨_,aL.next .pure,h⟩
    ·exact⟨_,aL.next .pure,h⟩
    ·exact h.elim
   ·exact h.elim
  ·exact h.elim
 case convert s d x=>
  split at h
  ·rename_i v ks A bl;rw[G _ _ A];have hs:=Iu (M _ _ bl);unfold aeE at h;split at h
   ·split at h
    ·rename_i n _ k B;have H:=Iu (M _ _ B);refine⟨_,aL.next ?_,h⟩;unfold convert;refine(aV hs).bind ((aV H).bind ?_);exact .pure
    ·exact h.elim
   ·exact h.elim
  ·exact h.elim
 case build t parts=>
  split at h
  ·rename_i vs a9;have hp:(parts.map λ(i,x)=>(i,e x)).toList=vs:=by have:=Jo G a9;simpa using this
   split at h
   ·rename_i i F;obtain⟨z,hz,br⟩:=sH J F;have ar:i.zero.toArray=z.cells:=by rw[<-br]
    cases hbig:vK 24 i.size with
    |true=>
     rw[hbig]at h;obtain⟨v,A,B⟩:=h;have bk:(parts.map λ(i,x)=>(i,e x))=vs.toArray:=by rw[<-hp]
     refine⟨v,aL.next ?_,B⟩;show aL C.P (vL t (parts.map λ(i,x)=>(i,e x))) v;rw[bk];exact A
    |false=>
    rw[hbig]at h;simp only[cond_false]at h;split at h
    ·rename_i fs Y;have E:=J.df F;rw[Y]at E;obtain⟨gs,hg,rfl⟩:=pE E;split at h
     ·rename_i ps bx;split at h
      ·rename_i cells N;refine⟨_,aL.next (hz.bind ((aV hg).bind ?_)),h⟩;have a8:aL C.P (gs.mapM λf=>(do pure (f.offset,<-sizeOf f.type):Sem (Nat×Nat))) ps.toArray:=by rw[vh];intro w;have:=nW J bx w;rw[map_eq_pure_bind,Sem.run_bind,this];rfl
       refine a8.bind ?_;have ax:wq (λn=>ps.toArray[n]?) z.cells (parts.map λ(i,x)=>(i,e x)).toList=some cells:=by rw[hp,<-ar];simpa using N
       rw[ax];exact .pure
      ·exact h.elim
     ·exact h.elim
    ·rename_i n el Y;have E:=J.df F;rw[Y]at E;have H:=sX E;split at h
     ·rename_i j R;split at h
      ·rename_i cells N;refine⟨_,aL.next (hz.bind ((aV H).bind ((eu J R).bind ?_))),h⟩;have ax:wq (λi=>some (i*j.size,j.size)) z.cells (parts.map λ(i,x)=>(i,e x)).toList=some cells:=by rw[hp,<-ar];exact N
       rw[ax];exact .pure
      ·exact h.elim
     ·exact h.elim
    ·exact h.elim
   ·exact h.elim
  ·exact h.elim
 case makeFunc fn first captured=>
  split at h
  ·rename_i a b ha hb;have O:first.map e=a.toArray:=by apply yq;simpa using DF G ha
   have h2:captured.map e=b.toArray:=by apply yq;simpa using DF G hb
   refine⟨_,aL.next ?_,h⟩;rw[O,h2];exact .pure
  ·exact h.elim
 case call c=>
  split at h
  ·rename_i b hb;have L:∀{v:Value},aL C.P (builtin b c.argTypes o.type (c.args.map λ| .const _=>true|_=>false) (c.args.map e)) (.value v)->
     sW C.P (do let d<-resolve e c o.type;invoke d.target d.args) v:=by
    intro v A w;have:=A w;unfold resolve;rw[hb];exact this
   have Q:∀{vs:List Value},rK ev c.args.toList=some vs->c.args.map e=vs.toArray:=λA=>by
    apply yq;simpa using DF G A
   have X:∀{s:Sem Value} {v:Value},aL C.P s v->aL C.P (do pure (Next.value (<-s))) (.value v):=λhs=>hs.bind .pure;split at h
   case h_1=>
    split at h
    ·rename_i t ts x O h2;split at h
     ·rename_i v A;have ha:c.args.map e=#[v]:=by apply yq;rw[vH,h2];simp[G _ _ A]
      have ht:c.argTypes[0]?=some t:=by rw[<-vD,O];rfl
      unfold agH at h;split at h
      ·rename_i p n cap;split at h
       ·rename_i el D;have H:=kC (M _ _ D);refine⟨_,L ?_,h⟩;rw[ha];refine X ?_;intro w;simp[Builtin.len_,ht,underlying,H,goInt]
       ·exact h.elim
      ·rename_i s;split at h
       ·rename_i D;have H:=xv (M _ _ D);refine⟨_,L ?_,h⟩;rw[ha];refine X ?_;intro w;simp[Builtin.len_,ht,underlying,H,goInt]
       ·exact h.elim
      ·exact h.elim
     ·exact h.elim
    ·exact h.elim
   case h_2=>
    split at h
    ·rename_i t ts x O h2;split at h
     ·rename_i v A;have ha:c.args.map e=#[v]:=by apply yq;rw[vH,h2];simp[G _ _ A]
      have ht:c.argTypes[0]?=some t:=by rw[<-vD,O];rfl
      unfold agI at h;split at h
      ·rename_i p n cap;split at h
       ·rename_i el D;have H:=kC (M _ _ D);refine⟨_,L ?_,h⟩;rw[ha];refine X ?_;intro w;simp[Builtin.cap_,ht,underlying,H,goInt]
       ·exact h.elim
      ·exact h.elim
     ·exact h.elim
    ·exact h.elim
   case h_3=>
    split at h
    ·rename_i k a k' b A;refine⟨_,L ?_,h⟩;rw[Q A];refine X ?_;intro w;simp[Builtin.min_,Builtin.min2]
    ·exact h.elim
   case h_4=>
    split at h
    ·rename_i k a k' b A;refine⟨_,L ?_,h⟩;rw[Q A];refine X ?_;intro w;simp[Builtin.max_,Builtin.max2]
    ·exact h.elim
   case h_5=>
    split at h
    ·rename_i k a b A;refine⟨_,L ?_,h⟩;rw[Q A];exact X .pure
    ·exact h.elim
   case h_6=>
    split at h
    ·rename_i k a b A;refine⟨_,L ?_,h⟩;rw[Q A];exact X .pure
    ·exact h.elim
   all_goals exact h.elim
  ·exact h.elim
 all_goals exact h.elim
end
def an(h:Heap)(a:Addr):Nat->List Value->Prop
 |_,[]=>True
 |n,v::r=>cellOf h (a.add n)=some v/\an h a (n+1) r
structure Bd where
 a:Addr
 ty:Ty
 n:Nat
def Bd.holds(r:Bd)(h:Heap)(y:r.ty.den):Prop:=
 match r.ty,y with
 | .sc s,y=>cellOf h r.a=some (s.enc y)
 | .agg l,y=>an h r.a 0 (BW l y)
 | .arr s,y=>y.length=r.n/\an h r.a 0 (y.map s.enc)
def xE(T:kA)(op:Op)(ev:Operand->Option Value):Option Bd:=
 match op with
 | .load t x=>match ev x with
  |some (.pointer (some a))=>match T.get t with
   |some i=>match i.df with
    | .struct _=>match i.ty with
     | .agg l=>bif wx l.length i.size then some ⟨a,i.ty,i.size⟩else none
     |_=>none
    | .array _ _=>match i.ty with
     | .arr _=>some ⟨a,i.ty,i.size⟩
     |_=>none
    | .other=>none
    |_=>match i.ty with
     | .sc _=>some ⟨a,i.ty,1⟩
     |_=>none
   |none=>none
  |_=>none
 |_=>none
theorem Jq:∀(l:List Sc) (x:NH l),(BW l x).length=l.length
 |[],_=>rfl
 |[_],_=>rfl
 |_::t::r,x=>by simp only[BW,zm];rw[Jq (t::r) x.2];rfl
theorem run_loadCells{P:Program}{w:World}{a:Addr}:∀(vs:List Value) (i:Nat) (b:Array Value),an w.heap a i vs->
  (loadCellsFrom a i vs.length b).run P w=.ok (b++vs.toArray) w
 |[],i,b,_=>by simp[loadCellsFrom]
 |v::r,i,b,h=>by
  simp only[zm,loadCellsFrom,Sem.run_bind,run_load,NF,h.1,Result.andThen_ok];rw[run_loadCells r (i+1) (b.push v) h.2];simp
theorem DG{C:CG}(k:C.Ok){ev:Operand->Option Value}{e:Operand->Value}(E:∀x v,ev x=some v->e x=v){o:Oper}{r:Bd}
  (b:xE C.T o.op ev=some r) {y:r.ty.den} {w:World} (d:r.holds w.heap y):(execOp e o).run C.P w=.ok (.value (r.ty.enc y)) w:=by
 unfold xE at b;split at b
 ·rename_i t x q;simp only[execOp,q];split at b
  ·rename_i a B;rw[E _ _ B];split at b
   ·rename_i i p;have f:(∀v,(loadVar t a).run C.P w=.ok v w->(do let s<-vM t (.pointer (some a));pure (Next.value s):Sem Next).run C.P w=.ok (.value v) w):=by intro v z;have:vM t (.pointer (some a))=loadVar t a:=rfl;rw[this,Sem.run_bind,z];rfl
    split at b
    ·rename_i H h;split at b
     ·rename_i l g;cases hb:wx l.length i.size with
      |false=>rw[hb]at b;cases b
      |true=>
       rw[hb]at b;simp only[cond_true,zS.injEq]at b;subst b;have j:=zK hb;have c:∀(ty:Ty) (y:ty.den),ty=.agg l->Bd.holds ⟨a,ty,i.size⟩ w.heap y->(loadVar t a).run C.P w=.ok (ty.enc y) w:=by rintro ty y rfl d;unfold loadVar;rw[Sem.run_bind,(lB k p).1 H h w];simp only[Result.andThen_ok,if_true,Sem.run_bind,eu k p w];have m:=run_loadCells (P:=C.P) (w:=w) (a:=a) (BW l y) 0 #[] d;rw[Jq,j]at m;unfold loadCells;rw[m];simp
       exact f _ (c i.ty y g d)
     ·cases b
    ·rename_i n D h;split at b
     ·rename_i s g;cases b;have c:∀(ty:Ty) (y:ty.den),ty=.arr s->Bd.holds ⟨a,ty,i.size⟩ w.heap y->(loadVar t a).run C.P w=.ok (ty.enc y) w:=by rintro ty y rfl ⟨g,d⟩;unfold loadVar;rw[Sem.run_bind,(lB k p).2.1 n D h w];simp only[Result.andThen_ok,if_true,Sem.run_bind,eu k p w];have m:=run_loadCells (P:=C.P) (w:=w) (a:=a) (y.map s.enc) 0 #[] d;rw[List.length_map,g]at m;unfold loadCells;rw[m];simp
      exact f _ (c i.ty y g d)
     ·cases b
    ·cases b
    ·rename_i F A G;split at b
     ·rename_i s g;cases b;have c:∀(ty:Ty) (y:ty.den),ty=.sc s->Bd.holds ⟨a,ty,1⟩ w.heap y->(loadVar t a).run C.P w=.ok (ty.enc y) w:=by rintro ty y rfl d;have u:cellOf w.heap a=some (s.enc y):=d;unfold loadVar;rw[Sem.run_bind,(lB k p).2.2 F A G w];simp[NF,u]
      exact f _ (c i.ty y g d)
     ·cases b
   ·cases b
  ·cases b
 ·cases b
def Typed(t:Ty)(K:Value->Heap->Prop)(v:Value)(h:Heap):Prop:=∃x:t.den,v=t.enc x/\K (t.enc x) h
def Ll(t:Rt)(K:Value->Heap->Prop)(v:Value)(h:Heap):Prop:=∃x:t.den,v=t.enc x/\K (t.enc x) h
def Lm(K:Value->Heap->Prop)(v:Value)(h:Heap):Prop:=∃a:Addr,v=.pointer (some a)/\K (.pointer (some a)) h
def agK(T:kA)(t:TypeId)(tup:List (TypeId×List Ty)):Option Rt:=
 match tup.find? (λp=>wx p.1 t)with
 |some p=>some (.many p.2)
 |none=>match T.get t with
  |some i=>some (.one i.ty)
  |none=>none
structure Ctx extends CG where
 tup:List (TypeId×List Ty)
 fns:List Bool
structure Ctx.Ok (C:Ctx):Prop extends CG.Ok C.toCG where
 fns:(C.P.funcs.toList.map λf=>!(f.name== "runtime.NumGoroutine")&&f.body.isSome)=C.fns
def Xj(C:Ctx)(g:FuncId)(args:List Value)(t:TypeId)(K:Value->Heap->Prop)(h:Heap):Prop:=
 match C.fns[g]? with
 |some true=>match agK C.T t C.tup with
  |some r=>ab C.P g args.toArray h (Ll r K)
  |none=>False
 |_=>False
def Ln(C:Ctx)(o:Oper)(ev:Operand->Option Value)(K:Value->Heap->Prop)(h:Heap):Prop:=
 match o.op with
 | .store t a x=>match ev a,ev x with
  |some p,some v=>af C.P (Instr.storeAt t p v) h λ_ h'=>K undef h'
  |_,_=>False
 | .alloc t=>af C.P (Instr.alloc t true (.tuple #[])) h (Lm K)
 | .box t x=>match ev x with
  |some v=>af C.P (Instr.box t v) h (Lm K)
  |none=>False
 | .makeSlice t l c=>match ev l,ev c with
  |some l,some c=>af C.P (Instr.makeSlice t l c) h (Typed (.sc .slc) K)
  |_,_=>False
 | .buildSlice t n parts=>match FR ev parts.toList with
  |some ps=>af C.P (Instr.buildSlice t n ps.toArray) h (Typed (.sc .slc) K)
  |none=>False
 | .makeMap t none=>af C.P (Instr.makeMap t none) h (Typed (.sc .mp) K)
 | .lookup t x ix ok=>match ev x,ev ix,agK C.T o.type C.tup with
  |some m,some k,some r=>af C.P (Instr.lookup t m k ok) h (Ll r K)
  |_,_,_=>False
 | .mapUpdate t m k x=>match ev m,ev k,ev x with
  |some m,some k,some v=>af C.P (Instr.mapUpdate t m k v) h λ_ h'=>K undef h'
  |_,_,_=>False
 | .insert t m k x=>match ev m,ev k,ev x with
  |some m,some k,some v=>af C.P (Instr.mapUpdate t m k v) h λ_ h'=>K undef h'
  |_,_,_=>False
 | .convert s d x=>match ev x,C.T.get o.type with
  |some v,some i=>af C.P (convert s d v) h (Typed i.ty K)
  |_,_=>False
 | .binOp op t x y _=>match ev x,ev y,C.T.get o.type with
  |some a,some b,some i=>af C.P (do eqGuard op t x y a b;binOp op t a b) h (Typed i.ty K)
  |some a,some b,none=>af C.P (do eqGuard op t x y a b;binOp op t a b) h (Typed (.sc .bool) K)
  |_,_,_=>False
 | .slice t x lo hi mx=>match optVal ev lo,optVal ev hi,optVal ev mx,ev x with
  |some l,some r,some m,some v=>af C.P (y8 t v l r m) h (Typed (.sc .slc) K)
  |_,_,_,_=>False
 | .call c=>match c.callee with
  | .builtin .append=>match rK ev c.args.toList with
   |some vs=>af C.P (Builtin.append_ c.argTypes o.type vs.toArray) h (Typed (.sc .slc) K)
   |none=>False
  | .builtin .copy=>match rK ev c.args.toList with
   |some vs=>af C.P (Builtin.copy_ c.argTypes o.type vs.toArray) h (Typed (.sc (.int .i64)) K)
   |none=>False
  | .builtin .clear=>match rK ev c.args.toList with
   |some vs=>af C.P (Builtin.clear_ c.argTypes o.type vs.toArray) h K
   |none=>False
  | .builtin .len=>match rK ev c.args.toList with
   |some vs=>af C.P (Builtin.len_ c.argTypes o.type vs.toArray) h (Typed (.sc (.int .i64)) K)
   |none=>False
  | .builtin .unsafeString=>match rK ev c.args.toList with
   |some vs=>af C.P (Builtin.unsafeString_ c.argTypes o.type vs.toArray) h (Typed (.sc .str) K)
   |none=>False
  | .builtin .delete=>match rK ev c.args.toList with
   |some vs=>af C.P (Builtin.delete_ c.argTypes o.type vs.toArray) h K
   |none=>False
  | .value f=>match ev f,rK ev c.args.toList with
   |some (.func (.func g) ⟨first⟩ ⟨caps⟩),some vs=>Xj C g (first++vs++caps) o.type K h
   |_,_=>False
  |_=>False
 |_=>False
where
 optVal (ev:Operand->Option Value):Option Operand->Option (Option Value)
  |none=>some none
  |some x=>match ev x with
   |some v=>some (some v)
   |none=>none
section
variable {P:Program} {h:Heap} {K:Value->Heap->Prop}
theorem gb{s:Sem Value}(a:af P s h K):CE P (do pure (.value (<-s))) h K:=
 af.bind (a.mono λ_ _ b=>af.pure' b)
theorem Kg{s:Sem Unit}(a:af P s h λ_ h'=>K undef h'):CE P (do s;pure .skip) h K:=
 af.bind (a.mono λ_ _ b=>af.pure' b)
theorem Typed.out{t:Ty}{v:Value}{h:Heap}(x:Typed t K v h):K v h:=by obtain⟨y,rfl,a⟩:=x;exact a
theorem Ll.out{t:Rt}{v:Value}{h:Heap}(x:Ll t K v h):K v h:=by obtain⟨y,rfl,a⟩:=x;exact a
theorem Lm.out{v:Value}{h:Heap}(x:Lm K v h):K v h:=by obtain⟨y,rfl,a⟩:=x;exact a
end
theorem UE{C:Ctx}(d:C.Ok){g:FuncId}{args:List Value}{t:TypeId}{K:Value->Heap->Prop}{h:Heap}(b:Xj C g args t K h):
  CE C.P (callFunc g args.toArray) h K:=by
 unfold Xj at b;split at b
 ·rename_i f;split at b
  ·rename_i r i;have a:=congrArg (·[g]?) d.fns;simp only[qR,f]at a;cases hf:C.P.funcs.toList[g]? with
   |none=>rw[hf]at a;cases a
   |some fn=>
    rw[hf]at a;simp only[qY,zS.injEq,qz,Bool.not_eq_true']at a;have c:C.P.funcs[g]?=some fn:=by simpa using hf
    have e:fn.body.isNone=false:=by cases hbb:fn.body<;>simp[hbb]at a⊢
    unfold callFunc;refine af.bind (af.acs ?_);simp only[c,a.1,e];exact af.pure' (b.mono λv h' x=>x.out)
  ·exact b.elim
 ·exact b.elim
theorem Xk{C:Ctx}(X:C.Ok){ev:Operand->Option Value}{e:Operand->Value}(A:∀x v,ev x=some v->e x=v){o:Oper}
  {K:Value->Heap->Prop} {h:Heap} (j:Ln C o ev K h):CE C.P (execOp e o) h K:=by
 have G:∀{x:Option Operand} {r:Option Value},Ln.optVal ev x=some r->x.map e=r:=by
  intro x r J;cases x with
  |none=>cases J;rfl
  |some y=>
   simp only[Ln.optVal]at J;split at J
   ·rename_i v B;cases J;rw[qY,A _ _ B]
   ·cases J
 unfold Ln at j;split at j
 ·rename_i t a x q;simp only[execOp,q];split at j
  ·rename_i p v Y B;rw[A _ _ Y,A _ _ B];exact Kg j
  ·exact j.elim
 ·rename_i t q;simp only[execOp,q];exact gb (j.mono λ_ _ x=>x.out)
 ·rename_i t x q;simp only[execOp,q];split at j
  ·rename_i v B;rw[A _ _ B];exact gb (j.mono λ_ _ x=>x.out)
  ·exact j.elim
 ·rename_i t l c q;simp only[execOp,q];split at j
  ·rename_i v u B S;rw[A _ _ B,A _ _ S];exact gb (j.mono λ_ _ x=>x.out)
  ·exact j.elim
 ·rename_i t n parts q;simp only[execOp,q];split at j
  ·rename_i Z M;have:(parts.map λ(i,x)=>(i,e x))=Z.toArray:=by apply yq;have:=Jo A M;simpa using this
   rw[this];exact gb (j.mono λ_ _ x=>x.out)
  ·exact j.elim
 ·rename_i t q;simp only[execOp,q];exact gb (j.mono λ_ _ x=>x.out)
 ·rename_i t x ix ok q;simp only[execOp,q];split at j
  ·rename_i m k r H E R;rw[A _ _ H,A _ _ E];exact gb (j.mono λ_ _ x=>x.out)
  ·exact j.elim
 ·rename_i t m k x q;simp only[execOp,q];split at j
  ·rename_i V W v H E B;rw[A _ _ H,A _ _ E,A _ _ B];exact Kg j
  ·exact j.elim
 ·rename_i t m k x q;simp only[execOp,q];split at j
  ·rename_i V W v H E B;rw[A _ _ H,A _ _ E,A _ _ B];exact Kg j
  ·exact j.elim
 ·rename_i s d x q;simp only[execOp,q];split at j
  ·rename_i v i B Q;rw[A _ _ B];exact gb (j.mono λ_ _ x=>x.out)
  ·exact j.elim
 ·rename_i op t x y u q;simp only[execOp,q];split at j
  ·rename_i a b i L N Q;rw[A _ _ L,A _ _ N];exact gb (j.mono λ_ _ x=>x.out)
  ·rename_i a b L N Q;rw[A _ _ L,A _ _ N];exact gb (j.mono λ_ _ x=>x.out)
  ·exact j.elim
 ·rename_i t x lo Q mx q;simp only[execOp,q];split at j
  ·rename_i l r m v U R H B;rw[G U,G R,G H,A _ _ B];exact gb (j.mono λ_ _ x=>x.out)
  ·exact j.elim
 ·rename_i c q;simp only[execOp,q];have w:∀{vs:List Value},rK ev c.args.toList=some vs->c.args.map e=vs.toArray:=λB=>by
   apply yq;simpa using DF A B
  split at j
  ·rename_i D;split at j
   ·rename_i vs z;unfold resolve;rw[D,w z];exact gb (j.mono λ_ _ x=>x.out)
   ·exact j.elim
  ·rename_i D;split at j
   ·rename_i vs z;unfold resolve;rw[D,w z];exact gb (j.mono λ_ _ x=>x.out)
   ·exact j.elim
  ·rename_i D;split at j
   ·rename_i vs z;unfold resolve;rw[D,w z];exact gb j
   ·exact j.elim
  ·rename_i D;split at j
   ·rename_i vs z;unfold resolve;rw[D,w z];exact gb (j.mono λ_ _ x=>x.out)
   ·exact j.elim
  ·rename_i D;split at j
   ·rename_i vs z;unfold resolve;rw[D,w z];exact gb (j.mono λ_ _ x=>x.out)
   ·exact j.elim
  ·rename_i D;split at j
   ·rename_i vs z;unfold resolve;rw[D,w z];exact gb j
   ·exact j.elim
  ·rename_i f D;split at j
   ·rename_i g first F vs T z
    unfold resolve;rw[D,w z];simp only[A _ _ T];have:=UE X j;have I:(⟨first⟩:Array Value)++vs.toArray++(⟨F⟩:Array Value)=(first++vs++F).toArray:=by simp
    have O:CE C.P (callFunc g ((⟨first⟩:Array Value)++vs.toArray++(⟨F⟩:Array Value))) h K:=by rw[I];exact this
    simp only[Deferred.ofValue];exact O
   ·exact j.elim
  ·exact j.elim
 ·exact j.elim
def put(n:Nat)(a:Option Tmp)(K:Env->Heap->Prop)(ρ:Env)(v:Value)(h:Heap):Prop:=
 match a with
 |some d=>bif vK d n then K (.val d v::ρ) h else False
 |none=>K ρ h
theorem xF{n:Nat}{b:Option Tmp}{K:Env->Heap->Prop}{ρ:Env}{v:Value}{h:Heap}(c:put n b K ρ v h){a:Act}(e:Fits n a ρ):
  ∃ρ',Fits n (a.put b v) ρ'/\Ext ρ ρ' a (a.put b v)/\K ρ' h:=by
 unfold put at c;cases b with
 |none=>exact⟨ρ,e,Ext.refl _ _,c⟩
 |some d=>
  simp only at c;cases hb:vK d n with
  |false=>rw[hb]at c;exact c.elim
  |true=>rw[hb]at c;exact⟨_,e.put hb v,Ext.put v v,c⟩
def acz(C:Ctx)(n:Nat)(o:Oper)(K:Env->Heap->Prop)(ρ:Env)(h:Heap):Prop:=
 match CH C.P C.T o.op ρ.eval with
 | .no=>match xE C.T o.op ρ.eval with
  |some r=>∃y:r.ty.den,r.holds h y/\put n o.dst K ρ (r.ty.enc y) h
  |none=>Ln C o ρ.eval (put n o.dst K ρ) h
 |p=>p.holds λv=>put n o.dst K ρ v h
def Lo(ops:Array Oper)(o:Oper)(ρ:Env)(a skip:Env->Prop):Prop:=
 match o.guard with
 |none=>a ρ
 |some (j,want)=>match(ops[j]?).bind (·.dst)with
  |some d=>match ρ.get d with
   |some (.bool b)=>Br b (bif want then a (.val d (.bool true)::ρ)else skip (.val d (.bool true)::ρ)) (bif want then skip (.val d (.bool false)::ρ)else a (.val d (.bool false)::ρ))
   |some (.tuple _)=>skip ρ
   |_=>False
  |none=>False
theorem Fits.known{n:Nat}{a:Act}{ρ:Env}(c:Fits n a ρ){d:Nat}{v:Value}(e:ρ.get d=some v):Fits n a (.val d v::ρ)/\Ext ρ (.val d v::ρ) a a:=by
 refine⟨⟨c.size,c.defers,λt x b=>?_⟩,⟨[.val d v],rfl,λ_ _=>rfl⟩⟩;simp only[Env.get]at b;cases hb:wx d t with
 |false=>rw[hb]at b;exact c.get t x b
 |true=>
  rw[hb]at b;have:=zK hb;subst this;rw[cond_true]at b;exact c.get _ x (e.trans b)
theorem Jr{ops:Array Oper}{o:Oper}{ρ:Env}{f skip:Env->Prop}{n:Nat}{a:Act}(e:Fits n a ρ)(c:Lo ops o ρ f skip):
  ∃ρ',Fits n a ρ'/\Ext ρ ρ' a a/\((Region.wanted o (yielded ops a.tmps)=true/\f ρ')∨(Region.wanted o (yielded ops a.tmps)=false/\skip ρ')):=by
 unfold Lo at c;unfold Region.wanted;split at c
 ·rename_i l;rw[l];exact⟨ρ,e,Ext.refl _ _,.inl ⟨rfl,c⟩⟩
 ·rename_i j g l;rw[l];split at c
  ·rename_i d p;split at c
   ·rename_i b i;have m:yielded ops a.tmps j=some b:=by unfold yielded;rw[p];simp[e.get _ _ i]
    simp only[m];obtain⟨k,h⟩:=e.known i;cases b<;>cases g<;>simp only[Br,cond_true,cond_false]at c
    ·exact⟨_,k,h,.inl ⟨rfl,c⟩⟩
    ·exact⟨_,k,h,.inr ⟨rfl,c⟩⟩
    ·exact⟨_,k,h,.inr ⟨rfl,c⟩⟩
    ·exact⟨_,k,h,.inl ⟨rfl,c⟩⟩
   ·rename_i vs i;have m:yielded ops a.tmps j=none:=by unfold yielded;rw[p];simp[e.get _ _ i]
    simp only[m];exact⟨ρ,e,Ext.refl _ _,.inr ⟨by simp,c⟩⟩
   ·exact c.elim
  ·exact c.elim
theorem Zl{C:Ctx}(g:C.Ok){n:Nat}{o:Oper}{K:Env->Heap->Prop}{ρ:Env}{a:Act}{w:World}(j:Fits n a ρ)(d:acz C n o K ρ w.heap)
  {Q:Exit->Act->World->Prop} {next:Act->World->Prop}
  (l:∀a' w' ρ',Fits n a' ρ'->Ext ρ ρ' a a'->dl w w'->K ρ' w'.heap->next a' w'):o.wp C.P a w next Q:=by
 have f:∀x v,ρ.eval x=some v->a.eval x=v:=λx v h=>j.eval h;have b:∀v w',dl w w'->put n o.dst K ρ v w'.heap->next (a.put o.dst v) w':=λv w' p t=>by
  obtain⟨ρ',s,q,h3⟩:=xF t j;exact l _ _ _ s q p h3
 have c:(CH C.P C.T o.op ρ.eval).holds (λv=>put n o.dst K ρ v w.heap)->o.wp C.P a w next Q:=λh=>by
  obtain⟨v,m,i⟩:=Lk g.toOk f h;unfold Oper.wp;rw[m w];exact b v w (dl.refl w) i
 unfold acz at d;split at d
 ·split at d
  ·rename_i r e;obtain⟨y,k,i⟩:=d;unfold Oper.wp;rw[DG g.toOk f e k];exact b _ w (dl.refl w) i
  ·exact aif (Xk g f d) b
 ·exact c d
def Iv(C:Ctx)(n:Nat)(ops:Array Oper)(o:Oper)(K:Env->Heap->Prop)(ρ:Env)(h:Heap):Prop:=
 Lo ops o ρ (λρ=>acz C n o K ρ h) (λρ=>put n o.dst K ρ undef h)
theorem Lp{C:Ctx}(l:C.Ok){n:Nat}{ops:Array Oper}{o:Oper}{i:Nat}(p:ops[i]?=some o){K:Env->Heap->Prop}{ρ:Env}{a:Act}{w:World}
  (f:Fits n a ρ) (q:Iv C n ops o K ρ w.heap) {Q:Exit->Act->World->Prop} {next:Act->World->Prop}
  (c:∀a' w' ρ',Fits n a' ρ'->Ext ρ ρ' a a'->dl w w'->K ρ' w'.heap->next a' w'):wpOp C.P ops Q i next a w:=by
 obtain⟨ρ',e,d,h3⟩:=Jr f q;unfold wpOp;simp only[p];rcases h3 with⟨hw,hr⟩|⟨hw,hr⟩
 ·simp only[hw,if_true];exact .inl (Zl l e hr λa' w' b k x2 x3 h=>c _ _ _ k (d.trans x2) x3 h)
 ·simp only[hw,zk,if_false];obtain⟨b,m,j,g⟩:=xF hr e;exact c _ _ _ m (d.trans j) (dl.refl w) g
def acA(C:Ctx)(n:Nat)(ops:Array Oper)(K:Env->Heap->Prop):List Oper->Env->Heap->Prop
 |[],ρ,h=>K ρ h
 |o::r,ρ,h=>Iv C n ops o (acA C n ops K r) ρ h
def Out(n:Nat)(Q:Exit->Env->Heap->Prop)(ρ:Env)(a:Act)(w:World):Exit->Act->World->Prop:=λe a' w'=>
 ∃ρ',Fits n a' ρ'/\Ext ρ ρ' a a'/\dl w w'/\Q e ρ' w'.heap
theorem OS{C:Ctx}(b:C.Ok){n:Nat}{ops:Array Oper}{K:Env->Heap->Prop}{Q:Exit->Act->World->Prop}{ρ0:Env}{a0:Act}{w0:World}
  (c:∀a w ρ,Fits n a ρ->Ext ρ0 ρ a0 a->dl w0 w->K ρ w.heap->Q .normal a w):
  ∀(r:List Oper) (i:Nat),(∀j,r[j]?=ops[i+j]?)->∀(ρ:Env) (a:Act) (w:World),Fits n a ρ->Ext ρ0 ρ a0 a->dl w0 w->acA C n ops K r ρ w.heap->
   wpOps C.P ops Q (List.range' i r.length) a w
 |[],i,_,ρ,a,w,hf,hx,hl,hs=>c a w ρ hf hx hl hs
 |o::r,i,hr,ρ,a,w,hf,hx,hl,hs=>by
  have d:ops[i]?=some o:=by simpa using(hr 0).symm
  rw[zm,List.range'_succ,wpOps_cons];refine Lp b d hf hs λa' w' ρ' f e h3 g=>?_;exact OS b c r (i+1) (λj=>by have:=hr (j+1);simpa[Nat.add_assoc,Nat.add_comm 1 j]using this) ρ' a' w' f (hx.trans e) (hl.trans h3) g
abbrev av:=List (Addr×Value)
def av.ok:av->Heap->Prop
 |[],_=>True
 |p::r,h=>cellOf h p.1=some p.2/\av.ok r h
def mX(a:Addr):Nat->List Value->av->av
 |_,[],L=>L
 |n,v::r,L=>(a.add n,v)::mX a (n+1) r L
theorem nX{a:Addr}{h:Heap}:∀{vs:List Value} {n:Nat} {L:av},(mX a n vs L).ok h↔an h a n vs/\L.ok h
 |[],_,L=>by simp[mX,an]
 |v::r,n,L=>by simp only[mX,av.ok,an,nX (vs:=r),and_assoc]
def Bd.held(r:Bd)(y:r.ty.den)(L:av):av:=
 match r.ty,y with
 | .sc s,y=>(r.a,s.enc y)::L
 | .agg l,y=>mX r.a 0 (BW l y) L
 | .arr s,y=>mX r.a 0 (y.map s.enc) L
theorem Bd.afz{r:Bd}{y:r.ty.den}{L:av}{c:Heap}(b:r.holds c y){m:Heap}:(r.held y L).ok m↔r.holds m y/\L.ok m:=by
 obtain⟨a,ty,n⟩:=r;cases ty with
 |sc s=>exact Iff.rfl
 |agg l=>exact nX
 |arr s=>exact nX.trans ⟨λx=>⟨⟨b.1,x.1⟩,x.2⟩,λx=>⟨x.1.2,x.2⟩⟩
structure gg where
 op:Nat
 r:Bd
 y:r.ty.den
def flat:List gg->av
 |[]=>[]
 |p::r=>p.r.held p.y (flat r)
def gg.ok(p:gg)(w:World):Prop:=p.r.holds w.heap p.y
def waits(ops:Array Oper)(j i:Nat):Bool:=match ops[j]? with
 |some o=>o.after.any λe=>Region.binds .any e&&wx e.on i
 |none=>false
def keep(ops:Array Oper)(j:Nat):List gg->List gg
 |[]=>[]
 |p::r=>bif waits ops j p.op then keep ops j r else p::keep ops j r
theorem se{ops:Array Oper}{j:Nat}:∀{L:List gg},∀p∈keep ops j L,p∈L
 |[],p,h=>by cases h
 |q::r,p,h=>by
  unfold keep at h;cases hw:waits ops j q.op with
  |true=>rw[hw]at h;exact qC _ (se p h)
  |false=>
   rw[hw]at h;rcases qV.1 h with rfl|h
   ·exact qI
   ·exact qC _ (se p h)
theorem DH{ops:Array Oper}{j:Nat}:∀{L:List gg} {p:gg},p∈L->waits ops j p.op=false->p∈keep ops j L
 |q::r,p,h,hw=>by
  unfold keep;rcases qV.1 h with rfl|h
  ·rw[hw];exact qI
  ·cases hq:waits ops j q.op with
   |true=>exact DH h hw
   |false=>exact qC _ (DH h hw)
theorem Kh{ops:Array Oper}{j:Nat}{p:gg}:∀{M:List gg},p∈keep ops j M->waits ops j p.op=false
 |[],h=>by cases h
 |q::r,h=>by
  unfold keep at h;cases hq:waits ops j q.op with
  |true=>rw[hq]at h;exact Kh h
  |false=>
   rw[hq]at h;rcases qV.1 h with rfl|h
   ·exact hq
   ·exact Kh h
theorem FS{ops:Array Oper}{j:Nat}{L a:List gg}(c:∀p∈a,p∈L):∀p∈keep ops j a,p∈keep ops j L:=
 λp b=>DH (c p (se p b)) (Kh b)
def mB(P:Program)(ops:Array Oper)(Q:Exit->Act->World->Prop):Nat->List gg->Array Bool->Act->World->Prop
 |0,_,listed,a,w=>Region.ready .any ops listed=[]/\Q .normal a w
 |fuel+1,L,listed,a,w=>
  (Region.ready .any ops listed=[]->Q .normal a w)/\
  ∀i∈Region.ready .any ops listed,wpOp P ops Q i (λa' w'=>(∀p∈keep ops i L,p.ok w')/\mB P ops Q fuel (keep ops i L) (listed.setIfInBounds i true) a' w') a w
theorem Lq{P:Program}{ops:Array Oper}{Q:Exit->Act->World->Prop}:∀(c:Nat) (L:List gg) (b:Array Bool) (a:Act) (w:World),mB P ops Q c L b a w->wpAny P .any ops Q c b a w
 |0,_,_,_,_,h=>h
 |c+1,_,_,_,_,h=>⟨h.1,λi d=>wpOp_mono (λa' w' h'=>Lq c _ _ a' w' h'.2) (h.2 i d)⟩
theorem DI{P:Program}{ops:Array Oper}{Q:Exit->Act->World->Prop}:∀(c:Nat) {L d:List gg} (b:Array Bool) (a:Act) (w:World),(∀p∈d,p∈L)->mB P ops Q c L b a w->mB P ops Q c d b a w
 |0,_,_,_,_,_,_,h=>h
 |c+1,_,_,_,_,_,hs,h=>⟨h.1,λi f=>wpOp_mono (λa' w' h'=>⟨λp e=>h'.1 p (FS hs p e),DI c _ a' w' (FS hs) h'.2⟩) (h.2 i f)⟩
theorem Ry{P:Program}{ops:Array Oper}{Q:Exit->Act->World->Prop}{i:Nat}{u:Oper}{v:Value}{T:World->Prop}{N:List gg}(Z:ops[i]?=some u)(z:∀(j:Nat) (o:Oper) cs b,ops[j]?=some o->o.op≠.select cs b)
  (hQ:∀c a w,Q (.panic c) (a.put u.dst v) w->Q (.panic c) a w) (hN:∀p∈N,p.op=i) (hT:∀w,(∀p∈N,p.ok w)->T w):
  ∀(f:Nat) (L:List gg) (d:Array Bool) (a:Act) (w:World),
   (∀j r,ops[j]?=some r->j≠i->d.getD j true=false->(∀e∈r.after,Region.binds .any e=true->e.on≠i)->u.apart ops r=true)->
   i∈Region.ready .any ops d->YieldsIf P ops T u v a->(∀p∈N,p.ok w)->(∀p∈L,p.ok w)->
   mB P ops Q f (N++L) (d.setIfInBounds i true) (a.put u.dst v) w->mB P ops Q (f+1) L d a w:=by
 intro f;have A:∀(f:Nat) (L:List gg) (d:Array Bool) (a:Act) (w:World),YieldsIf P ops T u v a->(∀p∈N,p.ok w)->(∀p∈L,p.ok w)->
   mB P ops Q f (N++L) (d.setIfInBounds i true) (a.put u.dst v) w->
   wpOp P ops Q i (λa' w'=>(∀p∈keep ops i L,p.ok w')/\mB P ops Q f (keep ops i L) (d.setIfInBounds i true) a' w') a w:=λf L d a w G q R H=>
  G.wpOp Z (hT w q) ⟨λp g=>R p (se p g),DI f _ _ _ (λp g=>zE _ (se p g)) H⟩
 induction f with
 |zero=>
  intro L d a w _ F G q R H;refine⟨λh=>(by rw[h]at F;cases F),λj S=>?_⟩;by_cases l:j=i
  ·subst l;exact A 0 L d a w G q R H
  ·have:=ready_mono S l;rw[H.1]at this;cases this
 |succ f ih=>
  intro L d a w n F G q R H;refine⟨λh=>(by rw[h]at F;cases F),λj S=>?_⟩;by_cases l:j=i
  ·subst l;exact A (f+1) L d a w G q R H
  ·have E:=H.2 j (ready_mono S l);obtain⟨B,r,s,K⟩:=mem_ready.1 S;have x:∀e∈r.after,Region.binds .any e=true->e.on≠i:=λe he M V=>by
    have E:=K e he M;have Y:=(mem_ready.1 F).1;rw[V]at E;rcases Nat.lt_or_ge i d.size with h'|h'
    ·simp[h']at Y E;rw[Y]at E;cases E
    ·simp[Array.getElem?_eq_none h']at E
   have I:(r.after.any λe=>Region.binds .any e&&wx e.on i)=false:=by
    cases hc:r.after.any λe=>Region.binds .any e&&wx e.on i with
    |false=>rfl
    |true=>
     obtain⟨k,W,M⟩:=Array.any_eq_true.1 hc;simp only[qz]at M;exact absurd (zK M.2) (x _ (Array.getElem_mem W) M.1)
   have D:waits ops j i=false:=by unfold waits;rw[s];exact I
   have y:∀p,p∈N->p∈keep ops j (N++L):=λp g=>DH (List.mem_append_left _ g) (by rw[hN p g];exact D);have m:∀p,p∈keep ops j L->p∈keep ops j (N++L):=FS λp g=>zE _ g;have h2:=wpOp_putIf s (n j r s l B x) (λcs b=>z i u cs b Z) (λcs b=>z j r cs b s) hQ G E;have t:∀k ok,ops[k]?=some ok->k≠i->(d.setIfInBounds j true).getD k true=false->
     (∀e∈ok.after,Region.binds .any e=true->e.on≠i)->u.apart ops ok=true:=λk ok W U J X=>by
    refine n k ok W U ?_ X;by_cases O:j=k
    ·subst O;exact B
    ·rw[getD_set_ne true O]at J;exact J
   refine wpOp_mono (λa' w' h3=>⟨λp g=>h3.2.1 p (m p g),ih (keep ops j L) (d.setIfInBounds j true) a' w' t (ready_mono F (Ne.symm l)) h3.1 (λp g=>h3.2.1 p (y p g)) (λp g=>h3.2.1 p (m p g)) ?_⟩) h2;rw[Array.setIfInBounds_comm _ _ l];refine DI _ _ _ _ (λp g=>?_) h3.2.2;rcases List.mem_append.1 g with g|g
   ·exact y p g
   ·exact m p g
theorem BY{P:Program}{ops:Array Oper}{Q:Exit->Act->World->Prop}{i:Nat}{e:Oper}{v:Value}{T:World->Prop}{N:List gg}{d:Nat}{L:List gg}{b:Array Bool}{a:Act}{w:World}(g:ops[i]?=some e)
  (q:Region.noSelect ops=true) (k:Region.free .any ops b i=true) (n:(Region.ready .any ops b).contains i=true)
  (r:∀c a w,Q (.panic c) (a.put e.dst v) w->Q (.panic c) a w) (m:∀p∈N,p.op=i) (l:∀w,(∀p∈N,p.ok w)->T w) (j:YieldsIf P ops T e v a) (f:∀p∈N,p.ok w) (o:∀p∈L,p.ok w)
  (h:mB P ops Q d (N++L) (b.setIfInBounds i true) (a.put e.dst v) w):mB P ops Q (d+1) L b a w:=
 Ry g (Region.noSelect_spec q) r m l d L b a w (Region.free_spec g k) (by simpa using n) j f o h
theorem NI:∀{L:List gg} {w0:World},(∀p∈L,p.ok w0)->∀{m:Heap},(flat L).ok m->∀p∈L,p.r.holds m p.y
 |[],_,_,_,_,p,a=>by cases a
 |q::r,w0,h0,m,h,p,a=>by
  have h:=(Bd.afz (h0 q qI)).1 h;rcases qV.1 a with rfl|a
  ·exact h.1
  ·exact NI (λp a=>h0 p (qC _ a)) h.2 p a
def aeF(T:kA)(t:TypeId):Bool:=match T.get t with
 |some i=>match i.ty with
  | .sc .slc=>true
  |_=>false
 |none=>false
def aeG(T:kA):Op->Bool
 | .convert s d _=>!(aeF T s||aeF T d)
 | .move _| .assign _| .pick .. | .nilCheck _| .fieldAddr .. | .indexAddr .. | .index .. | .field .. | .extract .. | .binOp .. | .unOp .. | .build .. | .makeFunc .. | .load .. =>true
 | .slice _ _ _ _ none=>true
 | .call c=>match c.callee with
  | .builtin .len| .builtin .cap| .builtin .min| .builtin .max| .builtin .real| .builtin .imag=>true
  |_=>false
 |_=>false
def oF(T:kA)(ops:Array Oper)(a:Array Bool):List Nat->Option Nat
 |[]=>none
 |i::r=>match ops[i]? with
  |some o=>bif aeG T o.op&&Region.free .any ops a i then some i else oF T ops a r
  |none=>oF T ops a r
def Xl(C:Ctx)(n:Nat)(ops:Array Oper)(i:Nat)(o:Oper)(L:List gg)(K:List gg->Env->Heap->Prop)(ρ:Env)(h:Heap):Prop:=
 Lo ops o ρ (λρ=>match CH C.P C.T o.op ρ.eval with
  | .no=>match xE C.T o.op ρ.eval with
   |some r=>∃y:r.ty.den,r.holds h y/\put n o.dst (K (⟨i,r,y⟩::L)) ρ (r.ty.enc y) h
   |none=>False
  |p=>p.holds λv=>put n o.dst (K L) ρ v h) (λρ=>put n o.dst (K L) ρ undef h)
def Rz(C:Ctx)(n:Nat)(ops:Array Oper)(K:Nat->Env->Heap->Prop)(ρ:Env)(h:Heap):List Nat->Prop
 |[]=>True
 |[i]=>match ops[i]? with
  |some o=>Iv C n ops o (K i) ρ h
  |none=>False
 |i::j::r=>(match ops[i]? with
  |some o=>Iv C n ops o (K i) ρ h
  |none=>False)/\Rz C n ops K ρ h (j::r)
def xG(C:Ctx)(n:Nat)(ops:Array Oper)(K:Env->Heap->Prop):Nat->Array Bool->List gg->Env->Heap->Prop
 |0,listed,_,ρ,h=>bif (Region.ready .any ops listed).isEmpty then K ρ h else False
 |k+1,listed,L,ρ,h=>match oF C.T ops listed (Region.ready .any ops listed)with
  |some i=>match ops[i]? with
   |some o=>Xl C n ops i o L (xG C n ops K k (listed.setIfInBounds i true)) ρ h
   |none=>False
  |none=>match Region.ready .any ops listed with
   |[]=>K ρ h
   |i::r=>Rz C n ops (λi ρ h=>(flat (keep ops i L)).ok h/\xG C n ops K k (listed.setIfInBounds i true) (keep ops i L) ρ h) ρ h (i::r)
theorem ug{T:kA}{ops:Array Oper}{a:Array Bool}:∀{rs:List Nat} {i:Nat},oF T ops a rs=some i->i∈rs/\Region.free .any ops a i=true
 |[],_,h=>by cases h
 |j::r,i,h=>by
  simp only[oF]at h;split at h
  ·rename_i o b;cases hb:(aeG T o.op&&Region.free .any ops a j)with
   |true=>
    rw[hb]at h;cases h;simp only[qz]at hb;exact⟨qI,hb.2⟩
   |false=>
    rw[hb]at h;have:=ug h;exact⟨qC _ this.1,this.2⟩
  ·have:=ug h;exact⟨qC _ this.1,this.2⟩
theorem OT{C:Ctx}{n:Nat}{ops:Array Oper}{K:Nat->Env->Heap->Prop}{ρ:Env}{h:Heap}:∀{l:List Nat},Rz C n ops K ρ h l->∀i∈l,∃o,ops[i]?=some o/\Iv C n ops o (K i) ρ h
 |[],_,i,hi=>by cases hi
 |[j],ha,i,hi=>by
  simp only[qB]at hi;subst hi;simp only[Rz]at ha;split at ha
  ·rename_i o a;exact⟨o,a,ha⟩
  ·exact ha.elim
 |j::k::r,ha,i,hi=>by
  obtain⟨b,c⟩:=ha;rcases qV.1 hi with rfl|hi
  ·split at b
   ·rename_i o a;exact⟨o,a,b⟩
   ·exact b.elim
  ·exact OT c i hi
section
variable {C:Ctx} {n:Nat} {ops:Array Oper} {K:Env->Heap->Prop} {Q:Exit->Act->World->Prop} {ρ0:Env} {a0:Act} {w0:World}
theorem OU(G:C.Ok)(J:Region.noSelect ops=true)
  (U:∀a w ρ,Fits n a ρ->Ext ρ0 ρ a0 a->dl w0 w->K ρ w.heap->Q .normal a w) (A:∀c a w,¬Q (.panic c) a w):
  ∀(k:Nat) (b:Array Bool) (L:List gg) (ρ:Env) (a:Act) (w:World),Fits n a ρ->Ext ρ0 ρ a0 a->dl w0 w->(∀p∈L,p.ok w)->
   xG C n ops K k b L ρ w.heap->mB C.P ops Q k L b a w
 |0,b,L,ρ,a,w,hf,hx,hl,hL,h=>by
  simp only[xG]at h;cases hb:(Region.ready .any ops b).isEmpty with
  |false=>rw[hb]at h;exact h.elim
  |true=>rw[hb]at h;exact⟨by simpa using hb,U _ _ _ hf hx hl h⟩
 |k+1,b,L,ρ,a,w,hf,hx,hl,hL,h=>by
  have M:=OU G J U A k;simp only[xG]at h;split at h
  ·rename_i i I;obtain⟨u,f⟩:=ug I;have e:(Region.ready .any ops b).contains i=true:=by simpa using u
   split at h
   ·rename_i o B;unfold Xl at h;obtain⟨ρ',H,S,h3⟩:=Jr hf h;have q:∀c a w (v:Value),Q (.panic c) (Act.put a o.dst v) w->Q (.panic c) a w:=λc a w v hq=>absurd hq (A c _ w);have Z:∀x v,Env.eval ρ' x=some v->a.eval x=v:=λx v h=>H.eval h;rcases h3 with⟨t,g⟩|⟨t,g⟩
    ·have s:(CH C.P C.T o.op (Env.eval ρ')).holds (λv=>put n o.dst (xG C n ops K k (b.setIfInBounds i true) L) ρ' v w.heap)->
       mB C.P ops Q (k+1) L b a w:=λd=>by
      obtain⟨v,hv,V⟩:=Lk G.toOk Z d;obtain⟨m,F,D,z⟩:=xF V H;exact BY (N:=[]) (T:=λ_=>True) B J f e (λc a w=>q c a w v) (λp d=>by cases d) (λ_ _=>trivial) (.inl ⟨t,λw _=>hv w⟩) (λp d=>by cases d) hL
       (M _ L m _ w F (hx.trans (S.trans D)) hl hL z)
     split at g
     ·split at g
      ·rename_i r E;obtain⟨y,X,V⟩:=g;obtain⟨m,F,D,z⟩:=xF V H;have W:∀p∈[(⟨i,r,y⟩:gg)],p.ok w:=λp d=>by rw[qB]at d;subst d;exact X
       refine BY (N:=[⟨i,r,y⟩]) (T:=λw=>r.holds w.heap y) B J f e (λc a w=>q c a w _) (λp d=>by rw[qB]at d;subst d;rfl)
        (λw h=>h ⟨i,r,y⟩ (qB.2 rfl)) (.inl ⟨t,λw t=>DG G.toOk Z E t⟩) W hL ?_
       refine M _ (⟨i,r,y⟩::L) m _ w F (hx.trans (S.trans D)) hl (λp d=>?_) z;rcases qV.1 d with rfl|d
       ·exact X
       ·exact hL p d
      ·exact g.elim
     ·exact s g
    ·obtain⟨m,F,D,z⟩:=xF g H;exact BY (N:=[]) (T:=λ_=>True) B J f e (λc a w=>q c a w undef) (λp d=>by cases d) (λ_ _=>trivial) (.inr ⟨t,rfl⟩) (λp d=>by cases d) hL
      (M _ L m _ w F (hx.trans (S.trans D)) hl hL z)
   ·exact h.elim
  ·split at h
   ·rename_i g;exact⟨λ_=>U _ _ _ hf hx hl h,λi I=>by rw[g]at I;cases I⟩
   ·rename_i i r g;refine⟨λh0=>absurd (g▸h0) (by simp),λj Y=>?_⟩;rw[g]at Y;obtain⟨o,B,R⟩:=OT h j Y;have l:∀p∈keep ops j L,p.ok w:=λp d=>hL p (se p d);exact Lp G B hf R λa' w' ρ' x1 x2 x3 O=>⟨NI l O.1,M _ (keep ops j L) ρ' a' w' x1 (hx.trans x2) (hl.trans x3) (NI l O.1) O.2⟩
end
def sched(T:kA)(ops:Array Oper):Nat->Array Bool->Option (List (Nat×Bool))
 |0,listed=>bif (Region.ready .any ops listed).isEmpty then some []else none
 |k+1,listed=>match oF T ops listed (Region.ready .any ops listed)with
  |some i=>(sched T ops k (listed.setIfInBounds i true)).map ((i,true)::·)
  |none=>match Region.ready .any ops listed with
   |[]=>some []
   |[i]=>(sched T ops k (listed.setIfInBounds i true)).map ((i,false)::·)
   |_::_::_=>none
def sY(C:Ctx)(n:Nat)(ops:Array Oper)(K:Env->Heap->Prop):List (Nat×Bool)->List gg->Env->Heap->Prop
 |[],_,ρ,h=>K ρ h
 |(i,true)::r,L,ρ,h=>match ops[i]? with
  |some o=>Xl C n ops i o L (sY C n ops K r) ρ h
  |none=>False
 |(i,false)::r,L,ρ,h=>match ops[i]? with
  |some o=>Iv C n ops o (λρ h=>(flat (keep ops i L)).ok h/\sY C n ops K r (keep ops i L) ρ h) ρ h
  |none=>False
theorem OV{C:Ctx}{n:Nat}{ops:Array Oper}{K:Env->Heap->Prop}:∀(k:Nat) (a:Array Bool) (l:List (Nat×Bool)),sched C.T ops k a=some l->
  xG C n ops K k a=sY C n ops K l
 |0,a,l,hs=>by
  simp only[sched]at hs;cases hb:(Region.ready .any ops a).isEmpty with
  |false=>rw[hb]at hs;cases hs
  |true=>
   rw[hb]at hs;cases hs;funext L ρ h;simp only[xG,hb,sY,cond_true]
 |k+1,a,l,hs=>by
  have c:=λi=>OV (C:=C) (n:=n) (ops:=ops) (K:=K) k (a.setIfInBounds i true);funext L ρ h;unfold sched at hs;unfold xG;cases hi:oF C.T ops a (Region.ready .any ops a)with
  |some i=>
   rw[hi]at hs;obtain⟨l',b,rfl⟩:=y0.1 hs;simp only[sY,c i l' b]
  |none=>
   rw[hi]at hs;generalize d:Region.ready .any ops a=rd at hs
   match rd,hs with
   |[],hs=>cases hs;simp only[sY]
   |[i],hs=>
    obtain⟨l',b,rfl⟩:=y0.1 hs;simp only[Rz,sY,c i l' b]
def NJ(C:Ctx)(n:Nat)(ops:Array Oper)(a:Bool)(K:Env->Heap->Prop)(ρ:Env)(h:Heap):Prop:=
 match a with
 |false=>acA C n ops K ops.toList ρ h
 |true=>bif Region.noSelect ops then(match sched C.T ops ops.size (vp ops.size false)with
  |some l=>sY C n ops K l [] ρ h
  |none=>xG C n ops K ops.size (vp ops.size false) [] ρ h)else False
theorem RB{C:Ctx}(g:C.Ok){n:Nat}{id:Nat}{ops:Array Oper}{b:Bool}{Q:Exit->Env->Heap->Prop}{ρ:Env}{a:Act}{w:World}(i:Fits n a ρ)
  (h:NJ C n ops b (Q .normal) ρ w.heap):(Code.region id ops b).wp C.P (λe a' w'=>(∀c,e≠.panic c)/\Out n Q ρ a w e a' w') a w:=by
 cases b with
 |false=>
  refine wp_region ?_;have:=OS g (Q:=λe a' w'=>(∀c,e≠.panic c)/\Out n Q ρ a w e a' w') (K:=Q .normal) (ρ0:=ρ) (a0:=a) (w0:=w) (λa' w' ρ' f x2 x3 d=>⟨λc e=>(by cases e),ρ',f,x2,x3,d⟩)
   ops.toList 0 (λj=>by simp) ρ a w i (Ext.refl _ _) (dl.refl _) h
  rw[List.range_eq_range'];simpa using this
 |true=>
  simp only[NJ]at h;cases hb:Region.noSelect ops with
  |false=>rw[hb]at h;exact h.elim
  |true=>
   rw[hb]at h;have h:xG C n ops (Q .normal) ops.size (vp ops.size false) [] ρ w.heap:=by
    simp only[cond_true]at h;split at h
    ·rename_i l k;rw[OV _ _ _ k];exact h
    ·exact h
   refine wp_region_any g.mixed (Lq _ [] _ _ _ ?_);exact OU g hb (Q:=λe a' w'=>(∀c,e≠.panic c)/\Out n Q ρ a w e a' w') (ρ0:=ρ) (a0:=a) (w0:=w) (λa' w' ρ' f x2 x3 d=>⟨λc e=>(by cases e),ρ',f,x2,x3,d⟩)
    (λc a w m=>m.1 c rfl) _ _ [] ρ a {w with drawn:=w.drawn+1} i (Ext.refl _ _) ⟨rfl,rfl,rfl,Nat.le_succ _⟩ (λp o=>by cases o) h
def bg{σ:Type}(rest:σ->Heap->Prop)(B:(σ->Heap->Prop)->Prop):Prop:=∃R:σ->Heap->Prop,(∀s h,R s h->rest s h)/\B R
def aJ{σ:Type}(B:σ->(σ->Heap->Prop)->Heap->Prop)(s:σ)(h:Heap):Prop:=
 ∃(τ:Type) (V:τ->σ) (I:τ->Heap->Prop) (μ:τ->Nat) (t0:τ),s=V t0/\I t0 h/\∀t h,I t h->B (V t) (λb h'=>∃a,b=V a/\I a h'/\μ a<μ t) h
theorem Zm{P:Program}{c:Code}{Q:Exit->Act->World->Prop}{a:Act}{w:World}{σ:Type}(R:σ->Act->World->Prop)(μ:σ->World->Nat)(t:σ)(v:R t a w)
  (h:∀s a w,R s a w->c.wp P (Exit.then (λa' w'=>∃m,R m a' w'/\μ m w'<μ s w) Q) a w):(Code.loop c).wp P Q a w:=by
 intro b k cs;have q:∀n s a w,μ s w=n->R s a w->
   ∃e a' w',Q e a' w'/\Arrives P (lone (b.at a (.code c::.inLoop c::k)) cs w) b k cs e a' w':=by
  intro n
  induction n using Nat.strongRecOn with
  |_ n ih=>
   intro s a w u A;obtain⟨e,j,g,f,d⟩:=h s a w A b (.inLoop c::k) cs;cases e with
   |normal=>
    obtain⟨m,o,r⟩:=f;obtain⟨y,B,z,p,i⟩:=ih (μ m g) (u▸r) m j g rfl o;exact⟨y,B,z,p,.of_steps (Steps.trans d (.one step_inLoop)) i⟩
   |exit id=>exact⟨_,j,g,f,.pass (x:=.inLoop c) rfl (λ_ _=>.inl (by simp)) d⟩
   |goto l=>exact⟨_,j,g,f,.pass (x:=.inLoop c) rfl (λ_ _=>.inl (by simp)) d⟩
   |ret=>exact⟨_,j,g,f,.pass (x:=.inLoop c) rfl (λ_ _=>.inl (by simp)) d⟩
   |panic ch=>exact⟨_,j,g,f,.pass (x:=.inLoop c) rfl (λ_ _=>.inl (by simp)) d⟩
   |outgrown=>exact⟨_,j,g,f,.pass (x:=.inLoop c) rfl (λ_ _=>.inl (by simp)) d⟩
 obtain⟨e,a',w',f,d⟩:=q _ t a w rfl v;exact⟨e,a',w',f,.of_steps (.one step_loop) d⟩
inductive ak where
 |n
 |two (a b:ak)
 |inn (a:ak)
 |loop (σ:dW) (κ:dm) (a:ak)
 |join (σ:dW) (κ:dm) (a:ak)
 |scope (l:Nat) (σ:dW) (κ:dm) (pre rest:List ak) (fwd:List (Nat×List ak))
 |fwd (a:ak) (fwd:List (Nat×List ak))
def ak.fst:ak->ak
 | .two a _=>a
 |_=>.n
def ak.snd:ak->ak
 | .two _ b=>b
 |_=>.n
def ak.sub:ak->ak
 | .inn a=>a
 |_=>.n
abbrev QT:=Exit->Env->Heap->Prop
def Lr(σ:dW)(κ:dm)(ρ:Env)(K:σ.den->Heap->Prop)(Q:QT):QT
 | .normal,ρ',h=>bif within σ κ ρ' (ρ'.length-ρ.length)then(match σ.read ρ' with|some s=>K s h|none=>False)else False
 |e,ρ',h=>Q e ρ' h
def Iw(next:Env->Heap->Prop)(Q:QT):QT
 | .normal,ρ,h=>next ρ h
 |e,ρ,h=>Q e ρ h
def Zn(id:Nat)(Q:QT):QT
 | .exit i,ρ,h=>bif wx i id then Q .normal ρ h else Q (.exit i) ρ h
 |e,ρ,h=>Q e ρ h
abbrev Rec:=Code->ak->QT->Env->Heap->Prop
def Be(rec:Rec):List Code->List ak->QT->Env->Heap->Prop
 |[],_,Q,ρ,h=>Q .normal ρ h
 |c::cs,[],Q,ρ,h=>rec c .n (Iw (Be rec cs [] Q) Q) ρ h
 |c::cs,x::xs,Q,ρ,h=>rec c x (Iw (Be rec cs xs Q) Q) ρ h
def chain:Code->Nat->Option (List Code×List Code)
 | .seq a b,l=>match chain a l with
  |some (p,r)=>some (p,r++[b])
  |none=>match chain b l with
   |some (p,r)=>some (a::p,r)
   |none=>none
 | .label l',l=>bif wx l' l then some ([],[])else none
 |_,_=>none
def aeH(a:List (Nat×List ak))(l:Nat):Option (List ak):=
 match a with
 |[]=>none
 |p::r=>bif wx p.1 l then some p.2 else aeH r l
def Ix(rec:Rec)(c:Code)(a:List (Nat×List ak))(Q:QT):Nat->QT
 |0=>λ_ _ _=>False
 |g+1=>λe ρ h=>match e with
  | .goto l=>match aeH a l with
   |some xs=>match chain c l with
    |some (_,r)=>Be rec r xs (Ix rec c a Q g) ρ h
    |none=>False
   |none=>Q (.goto l) ρ h
  |e=>Q e ρ h
def Xm(l:Nat)(σ:dW)(κ:dm)(ρ:Env)(K:σ.den->Heap->Prop)(Q:QT):QT
 | .goto l',ρ',h=>bif wx l' l then(bif within σ κ ρ' (ρ'.length-ρ.length)then(match σ.read ρ' with|some s=>K s h|none=>False)else False)else Q (.goto l') ρ' h
 |e,ρ',h=>Q e ρ' h
def RC(c:Code)(Q:QT):QT
 | .goto l,ρ,h=>match findLabel c l with
  |none=>Q (.goto l) ρ h
  |some _=>False
 |e,ρ,h=>Q e ρ h
def RD(C:Ctx)(n:Nat)(rec:Rec)(c:Code)(d:ak)(Q:QT)(ρ:Env)(h:Heap):Prop:=
 match d with
 | .join σ κ a=>bg (λs h=>Q .normal (σ.vals s (κ.over ρ)) h) (λK=>rec c a (Lr σ κ ρ K Q) ρ h)
 |d=>match c with
  | .skip=>Q .normal ρ h
  | .label _=>Q .normal ρ h
  | .region _ ops draw=>NJ C n ops draw (Q .normal) ρ h
  | .seq a b=>rec a d.fst (Iw (rec b d.snd Q) Q) ρ h
  | .cond x a b=>match ρ.eval x with
   |some (.bool t)=>Br t (rec a d.fst Q ρ h) (rec b d.snd Q ρ h)
   |_=>False
  | .block id c=>rec c d.sub (Zn id Q) ρ h
  | .exit id=>Q (.exit id) ρ h
  | .goto l=>Q (.goto l) ρ h
  | .ret=>Q .ret ρ h
  | .loop c=>match d with
   | .loop σ κ a=>match σ.read ρ with
    |some s0=>aJ (λs K h=>rec c a (Lr σ κ (σ.vals s (κ.over ρ)) K Q) (σ.vals s (κ.over ρ)) h) s0 h
    |none=>False
   |_=>False
  | .scope c=>match d with
   | .scope l σ κ pre rest fwd=>match chain c l with
    |some (p,r)=>Be rec p pre (Iw (λρ' h'=>match σ.read ρ' with
     |some s0=>aJ (λs K h=>Be rec r rest (Ix rec c fwd (Xm l σ κ (σ.vals s (κ.over ρ')) K (RC c Q)) 4) (σ.vals s (κ.over ρ')) h) s0 h'
     |none=>False) (RC c Q)) ρ h
    |none=>False
   | .fwd a fwd=>rec c a (Ix rec c fwd (RC c Q) 4) ρ h
   |_=>False
  |_=>False
def vc(C:Ctx)(n:Nat):Nat->Rec
 |0=>λ_ _ _ _ _=>False
 |f+1=>RD C n (vc C n f)
def Iy(C:Ctx)(n:Nat)(rec:Rec):Prop:=∀(c:Code) (b:ak) (Q:QT) (ρ:Env) (a:Act) (w:World),Fits n a ρ->rec c b Q ρ w.heap->c.wp C.P (Out n Q ρ a w) a w
section
variable {C:Ctx} {n:Nat} {Q:QT} {ρ ρ':Env} {a a':Act} {w w':World}
theorem Out.base{e:Exit}{c:Act}{b:World}(i:Ext ρ ρ' a a')(j:dl w w')(h:Out n Q ρ' a' w' e c b):Out n Q ρ a w e c b:=by obtain⟨d,k,g,h3,f⟩:=h;exact⟨d,k,i.trans g,j.trans h3,f⟩
theorem Out.then{next:Env->Heap->Prop}{N:Act->World->Prop}{i:Exit->Act->World->Prop}{e:Exit}{c:Act}{b:World}(h:Out n (Iw next Q) ρ a w e c b)
  (k:∀ρ',Fits n c ρ'->Ext ρ ρ' a c->dl w b->next ρ' b.heap->N c b) (l:Out n Q ρ a w e c b->e≠.normal->i e c b):Exit.then N i e c b:=by
 obtain⟨d,j,g,h3,f⟩:=h;cases e<;>first|exact k d j g h3 f|exact l ⟨d,j,g,h3,f⟩ (by simp)
def nY(P:Program):List Code->(Exit->Act->World->Prop)->Act->World->Prop
 |[],Q,a,w=>Q .normal a w
 |c::cs,Q,a,w=>c.wp P (Exit.then (nY P cs Q) Q) a w
theorem kX{P:Program}{Q d:Exit->Act->World->Prop}(b:∀e a w,Q e a w->d e a w):∀(l:List Code) (a:Act) (w:World),nY P l Q a w->nY P l d a w
 |[],_,_,h=>b _ _ _ h
 |c::cs,a,w,h=>wp_mono h λe a w h=>by
  cases e<;>first|exact kX b cs a w h|exact b _ _ _ h
theorem pF{rec:Rec}(d:Iy C n rec):∀(l:List Code) (xs:List ak) (Q:QT) (ρ:Env) (a:Act) (w:World),Fits n a ρ->Be rec l xs Q ρ w.heap->nY C.P l (Out n Q ρ a w) a w
 |[],_,Q,ρ,a,w,hf,h=>⟨ρ,hf,Ext.refl _ _,dl.refl _,h⟩
 |c::cs,[],Q,ρ,a,w,hf,h=>by
  refine wp_mono (d c .n _ ρ a w hf h) λe a' w' b=>b.then (λρ' g x2 x3 f=>?_) λb _=>b;exact kX (λe a w h=>h.base x2 x3) cs a' w' (pF d cs [] Q ρ' a' w' g f)
 |c::cs,x::xs,Q,ρ,a,w,hf,h=>by
  refine wp_mono (d c x _ ρ a w hf h) λe a' w' b=>b.then (λρ' g x2 x3 f=>?_) λb _=>b;exact kX (λe a w h=>h.base x2 x3) cs a' w' (pF d cs xs Q ρ' a' w' g f)
end
theorem BZ{P:Program}{b:Code}{Q:Exit->Act->World->Prop}:∀(l:List Code) (a:Act) (w:World),nY P (l++[b]) Q a w->nY P l (Exit.then (b.wp P Q) Q) a w
 |[],a,w,h=>by
  refine wp_mono h λe a w h=>?_;cases e<;>exact h
 |c::cs,a,w,h=>wp_mono h λe a w h=>by
  cases e<;>first|exact BZ cs a w h|exact h
theorem sI:∀{c:Code} {l:Nat} {p r:List Code},chain c l=some (p,r)->∃k,findLabel c l=some k/\
  (∀{P:Program} {Q:Exit->Act->World->Prop} {a:Act} {w:World},nY P r Q a w->k.wp P Q a w)/\
  (∀{P:Program} {Q:Exit->Act->World->Prop} {a:Act} {w:World},nY P p (Exit.then (nY P r Q) Q) a w->c.wp P Q a w)
 | .seq x y,l,p,r,h=>by
  simp only[chain]at h;split at h
  ·rename_i s m d;cases h;obtain⟨k,j,i,h3⟩:=sI d;refine⟨.seq k y,by simp[findLabel,j],λ{P Q a w} h=>wp_seq (i (BZ m a w h)),λ{P Q a w} h=>wp_seq (h3 ?_)⟩;refine kX (λe a w g=>?_) p a w h;cases e<;>first|exact BZ m a w g|exact g
  ·rename_i d;split at h
   ·rename_i s m n;cases h;obtain⟨k,j,i,h3⟩:=sI n;have o:findLabel x l=none:=by
     clear j i h3 n
     induction x with
     |seq a b iha ihb=>
      simp only[chain]at d;split at d
      ·cases d
      ·rename_i q;split at d
       ·cases d
       ·rename_i f;simp[findLabel,iha q,ihb f]
     |label l'=>
      simp only[chain]at d;cases f:wx l' l with
      |true=>rw[f]at d;cases d
      |false=>
       have:¬l'=l:=λe=>by subst e;simp at f
       simp[findLabel,this]
     |_=>rfl
    refine⟨k,by simp[findLabel,o,j],i,λ{P Q a w} h=>wp_seq (wp_mono h λe a w g=>?_)⟩;cases e<;>first|exact h3 g|exact g
   ·cases h
 | .label l',l,p,r,h=>by
  simp only[chain]at h;cases f:wx l' l with
  |false=>rw[f]at h;cases h
  |true=>
   rw[f]at h;cases h;have:=zK f;subst this;exact⟨.skip,by simp[findLabel],λh=>wp_skip h,λh=>wp_label h⟩
 | .skip,_,_,_,h=>by cases h
 | .region ..,_,_,_,h=>by cases h
 | .cond ..,_,_,_,h=>by cases h
 | .block ..,_,_,_,h=>by cases h
 | .loop _,_,_,_,h=>by cases h
 | .rangeFunc ..,_,_,_,h=>by cases h
 | .exit _,_,_,_,h=>by cases h
 | .scope _,_,_,_,h=>by cases h
 | .goto _,_,_,_,h=>by cases h
 | .ret,_,_,_,h=>by cases h
 | .refuse _,_,_,_,h=>by cases h
section
variable {P:Program} {c:Code} {Q:Exit->Act->World->Prop} {b:Frame} {k:List Item} {cs:List Frame}
def Reach(P:Program)(c:Code)(Q:Exit->Act->World->Prop)(b:Frame)(k:List Item)(d:List Frame)(a:Act)(w:World)(r:Code):Prop:=
 ∃e a' w',Q e a' w'/\Arrives P (lone (b.at a (.code r::.inScope c::k)) d w) b k d e a' w'
def Good(P:Program)(c:Code)(Q:Exit->Act->World->Prop)(b:Frame)(k:List Item)(d:List Frame):Exit->Act->World->Prop
 | .goto l,a,w=>match findLabel c l with
  |some r=>Reach P c Q b k d a w r
  |none=>Q (.goto l) a w
 |e,a,w=>Q e a w
theorem RE{m:Machine}{e:Exit}{a:Act}{w:World}(f:Good P c Q b k cs e a w)(d:Arrives P m b (.inScope c::k) cs e a w):
  ∃e a' w',Q e a' w'/\Arrives P m b k cs e a' w':=by
 cases e with
 |normal=>exact⟨.normal,a,w,f,Steps.trans d (.one step_inScope)⟩
 |exit id=>exact⟨.exit id,a,w,f,λh j=>d h (by simp[exitTo,j])⟩
 |goto l=>
  simp only[Good]at f;cases hf:findLabel c l with
  |none=>
   rw[hf]at f;exact⟨.goto l,a,w,f,λh j=>d h (by simp[gotoIn,hf,j])⟩
  |some r=>
   rw[hf]at f;obtain⟨n,o,p,i,g⟩:=f;exact⟨n,o,p,i,.of_steps (d _ (by simp[gotoIn,hf])) g⟩
 |ret=>exact⟨_,a,w,f,d⟩
 |panic ch=>exact⟨_,a,w,f,d⟩
 |outgrown=>exact⟨_,a,w,f,d⟩
theorem RF{r:Code}{a:Act}{w:World}(h:r.wp P (Good P c Q b k cs) a w):Reach P c Q b k cs a w r:=by obtain⟨e,a',w',f,d⟩:=h b (.inScope c::k) cs;exact RE f d
theorem EQ{a:Act}{w:World}(h:∀b k cs,c.wp P (Good P c Q b k cs) a w):(Code.scope c).wp P Q a w:=by intro b k cs;obtain⟨e,m,l,i,d⟩:=h b k cs b (.inScope c::k) cs;obtain⟨j,a',w',g,f⟩:=RE i d;exact⟨j,a',w',g,.of_steps (.one step_scope) f⟩
end
section
variable {C:Ctx} {n:Nat} {rec:Rec}
theorem DJ(t:Iy C n rec){c:Code}{o:List (Nat×List ak)}{u:QT}{s:Exit->Act->World->Prop}{b:Frame}{k:List Item}{q:List Frame}{ρ:Env}{a0:Act}{w0:World}
  (j:∀e f d i,Fits n d f->Ext ρ f a0 d->dl w0 i->u e f i.heap->Good C.P c s b k q e d i):
  ∀(g:Nat) (e:Exit) (f:Env) (d:Act) (i:World),Fits n d f->Ext ρ f a0 d->dl w0 i->Ix rec c o u g e f i.heap->Good C.P c s b k q e d i
 |0,_,_,_,_,_,_,_,h=>h.elim
 |g+1,e,f,d,i,hf,hx,hl,h=>by
  cases e with
  |goto l=>
   simp only[Ix]at h;split at h
   ·split at h
    ·rename_i p r m;obtain⟨F,D,B,_⟩:=sI m;simp only[Good,D];refine RF (B ?_);refine kX (λe a w y=>?_) _ _ _ (pF t _ _ _ f d i hf h);obtain⟨A,E,z,v,x⟩:=y;exact DJ t j g e A a w E (hx.trans z) (hl.trans v) x
    ·exact h.elim
   ·exact j _ _ _ _ hf hx hl h
  |normal=>exact j _ _ _ _ hf hx hl h
  |exit id=>exact j _ _ _ _ hf hx hl h
  |ret=>exact j _ _ _ _ hf hx hl h
  |panic ch=>exact j _ _ _ _ hf hx hl h
  |outgrown=>exact j _ _ _ _ hf hx hl h
theorem oR{c:Code}{Q:QT}{b:Frame}{k:List Item}{m:List Frame}{ρ:Env}{a0:Act}{w0:World}{e:Exit}{a:Env}{i:Act}{j:World}
  (d:Fits n i a) (f:Ext ρ a a0 i) (g:dl w0 j) (h:RC c Q e a j.heap):Good C.P c (Out n Q ρ a0 w0) b k m e i j:=by
 cases e with
 |goto l=>
  simp only[RC]at h;simp only[Good];split at h
  ·rename_i o;simp only[o];exact⟨a,d,f,g,h⟩
  ·exact h.elim
 |normal=>exact⟨a,d,f,g,h⟩
 |exit id=>exact⟨a,d,f,g,h⟩
 |ret=>exact⟨a,d,f,g,h⟩
 |panic ch=>exact⟨a,d,f,g,h⟩
 |outgrown=>exact⟨a,d,f,g,h⟩
theorem OW{a:Act}{σ:dW}{κ:dm}{ρ:Env}{s:σ.den}(b:Fits n a ρ)(c:σ.read ρ=some s):Fits n a (σ.vals s (κ.over ρ))/\Ext ρ (σ.vals s (κ.over ρ)) a a:=
 b.sa b (λ_ _ _=>rfl) c
theorem UF(A:Iy C n rec){c:Code}{l:Nat}{σ:dW}{κ:dm}{pre rest:List ak}{z:List (Nat×List ak)}{p r:List Code}(hc:chain c l=some (p,r)){Q:QT}{ρ:Env}{a:Act}{w:World}(U:Fits n a ρ)
  (h:Be rec p pre (Iw (λρ' h'=>match σ.read ρ' with
     |some S=>aJ (λs K h=>Be rec r rest (Ix rec c z (Xm l σ κ (σ.vals s (κ.over ρ')) K (RC c Q)) 4) (σ.vals s (κ.over ρ')) h) S h'
     |none=>False) (RC c Q)) ρ w.heap):(Code.scope c).wp C.P (Out n Q ρ a w) a w:=by
 refine EQ λb k cs=>?_;obtain⟨kk,h1,h2,h3⟩:=sI hc;refine h3 (kX (λe a' w' x=>?_) _ _ _ (pF A _ _ _ ρ a w U h));refine x.then (λρ' T x2 x3 E=>?_) (λx _=>?_)
 ·split at E
  ·rename_i S B;obtain⟨τ,V,I,μ,t0,W,hI,i⟩:=E;subst W;have g:=OW (κ:=κ) T B;have y:∀(m:Nat) (t:τ) (v:Act) (q:World),μ t=m->I t q.heap->Fits n v (σ.vals (V t) (κ.over ρ'))->Ext ρ' (σ.vals (V t) (κ.over ρ')) a' v->dl w' q->
     nY C.P r (Good C.P c (Out n Q ρ a w) b k cs) v q:=by
    intro m
    induction m using Nat.strongRecOn with
    |_ m ih=>
     intro t v q hm L G d f;refine kX (λe a2 Z x=>?_) _ _ _ (pF A _ _ _ _ v q G (i t q.heap L));obtain⟨ρ2,F,H,M,D⟩:=x;refine DJ A (ρ:=σ.vals (V t) (κ.over ρ')) (a0:=v) (w0:=q) (λe N a3 w3 j u z3 z4=>?_) 4 e ρ2 a2 Z F H M D;cases e with
     |goto l'=>
      simp only[Xm]at z4;cases hb:wx l' l with
      |false=>
       rw[hb]at z4;exact oR j (x2.trans (d.trans u)) (x3.trans (f.trans z3)) z4
      |true=>
       rw[hb]at z4;have:=zK hb;subst this;simp only[Good,h1];cases hw:within σ κ N (N.length-(σ.vals (V t) (κ.over ρ')).length)with
       |false=>rw[hw]at z4;exact z4.elim
       |true=>
        rw[hw]at z4;simp only[cond_true]at z4;split at z4
        ·rename_i s' J;have o:∀t,σ.has t=false->(κ.over []).fd t=false->a3.tmps[t]?=a'.tmps[t]?:=λt R O=>by
          rw[u.within hw t R O,d.sa t R O]
         obtain⟨X,u2⟩:=T.sa (κ:=κ) j o J;obtain⟨Y,e1,i1,i2⟩:=z4;subst e1;exact RF (h2 (ih _ (by rw[<-hm];exact i2) Y a3 w3 rfl i1 X u2 (f.trans z3)))
        ·exact z4.elim
     |normal=>exact oR j (x2.trans (d.trans u)) (x3.trans (f.trans z3)) z4
     |exit id=>exact oR j (x2.trans (d.trans u)) (x3.trans (f.trans z3)) z4
     |ret=>exact oR j (x2.trans (d.trans u)) (x3.trans (f.trans z3)) z4
     |panic ch=>exact oR j (x2.trans (d.trans u)) (x3.trans (f.trans z3)) z4
     |outgrown=>exact oR j (x2.trans (d.trans u)) (x3.trans (f.trans z3)) z4
   exact y _ t0 a' w' rfl hI g.1 g.2 (dl.refl _)
  ·exact E.elim
 ·obtain⟨ρ1,F,H,M,D⟩:=x;exact oR F H M D
theorem afA(hC:C.Ok)(o:Iy C n rec):Iy C n (RD C n rec):=by
 intro c O Q ρ a w g h;have q:∀{σ:dW} {κ:dm} {K:σ.den->Heap->Prop} {e:Exit} {a':Act} {w':World},Out n (Lr σ κ ρ K Q) ρ a w e a' w'->(∀s h,K s h->Q .normal (σ.vals s (κ.over ρ)) h)->Out n Q ρ a w e a' w':=by
  intro σ κ K e a' w' j hk;obtain⟨ρ',f,x2,x3,d⟩:=j;cases e with
  |normal=>
   simp only[Lr]at d;cases hw:within σ κ ρ' (ρ'.length-ρ.length)with
   |false=>rw[hw]at d;exact d.elim
   |true=>
    rw[hw]at d;simp only[cond_true]at d;split at d
    ·rename_i s hs;obtain⟨G,J⟩:=g.sa (κ:=κ) f (x2.within hw) hs;exact⟨_,G,J,x3,hk _ _ d⟩
    ·exact d.elim
  |exit id=>exact⟨ρ',f,x2,x3,d⟩
  |goto l=>exact⟨ρ',f,x2,x3,d⟩
  |ret=>exact⟨ρ',f,x2,x3,d⟩
  |panic ch=>exact⟨ρ',f,x2,x3,d⟩
  |outgrown=>exact⟨ρ',f,x2,x3,d⟩
 unfold RD at h;split at h
 ·rename_i σ κ x;obtain⟨K,Z,hB⟩:=h;exact wp_mono (o c x _ ρ a w g hB) λe a' w' j=>q j Z
 ·split at h
  ·exact wp_skip ⟨ρ,g,Ext.refl _ _,dl.refl _,h⟩
  ·exact wp_label ⟨ρ,g,Ext.refl _ _,dl.refl _,h⟩
  ·exact wp_mono (RB hC g h) λe a' w' j=>j.2
  ·rename_i x y;refine wp_seq (wp_mono (o x _ _ ρ a w g h) λe a' w' j=>j.then (λρ' f x2 x3 d=>?_) λj _=>j);exact wp_mono (o y _ _ ρ' a' w' f d) λe ad Y j=>j.base x2 x3
  ·rename_i x y z;split at h
   ·rename_i t X;refine wp_cond_split (g.eval X) (λe=>?_) (λe=>?_)
    ·subst e;exact o y _ _ ρ a w g h
    ·subst e;exact o z _ _ ρ a w g h
   ·exact h.elim
  ·rename_i id x;refine wp_block (wp_mono (o x _ _ ρ a w g h) λe a' w' j=>?_);obtain⟨ρ',f,x2,x3,d⟩:=j;cases e with
   |exit i=>
    simp only[Exit.inBlock];simp only[Zn]at d;cases hb:wx i id with
    |true=>
     rw[hb]at d;rw[if_pos (zK hb)];exact⟨ρ',f,x2,x3,d⟩
    |false=>
     rw[hb]at d;rw[if_neg λe=>by subst e;simp at hb];exact⟨ρ',f,x2,x3,d⟩
   |normal=>exact⟨ρ',f,x2,x3,d⟩
   |goto l=>exact⟨ρ',f,x2,x3,d⟩
   |ret=>exact⟨ρ',f,x2,x3,d⟩
   |panic ch=>exact⟨ρ',f,x2,x3,d⟩
   |outgrown=>exact⟨ρ',f,x2,x3,d⟩
  ·exact wp_exit ⟨ρ,g,Ext.refl _ _,dl.refl _,h⟩
  ·exact wp_goto ⟨ρ,g,Ext.refl _ _,dl.refl _,h⟩
  ·exact wp_ret ⟨ρ,g,Ext.refl _ _,dl.refl _,h⟩
  ·rename_i x;split at h
   ·rename_i σ κ y _;split at h
    ·rename_i s0 E;obtain⟨τ,V,I,μ,t0,R,S,u⟩:=h;subst R;have m:=OW (κ:=κ) g E;refine Zm (σ:=τ) (λt B D=>Fits n B (σ.vals (V t) (κ.over ρ))/\Ext ρ (σ.vals (V t) (κ.over ρ)) a B/\dl w D/\I t D.heap) (λt _=>μ t) t0 ⟨m.1,m.2,dl.refl _,S⟩ ?_;rintro t B D ⟨F,v,z3,z4⟩;refine wp_mono (o x y _ _ B D F (u t _ z4)) λe W w2 j=>?_;obtain⟨ρ',f,x2,x3,d⟩:=j;cases e with
     |normal=>
      simp only[Lr]at d;cases hw:within σ κ ρ' (ρ'.length-(σ.vals (V t) (κ.over ρ)).length)with
      |false=>rw[hw]at d;exact d.elim
      |true=>
       rw[hw]at d;simp only[cond_true]at d;split at d
       ·rename_i s' H;have A:∀t,σ.has t=false->(κ.over []).fd t=false->W.tmps[t]?=a.tmps[t]?:=λt M L=>by
         rw[x2.within hw t M L,v.sa t M L]
        obtain⟨G,J⟩:=g.sa (κ:=κ) f A H;obtain⟨t',N,U,T⟩:=d;subst N;exact⟨t',⟨G,J,z3.trans x3,U⟩,T⟩
       ·exact d.elim
     |exit id=>exact⟨ρ',f,v.trans x2,z3.trans x3,d⟩
     |goto l=>exact⟨ρ',f,v.trans x2,z3.trans x3,d⟩
     |ret=>exact⟨ρ',f,v.trans x2,z3.trans x3,d⟩
     |panic ch=>exact⟨ρ',f,v.trans x2,z3.trans x3,d⟩
     |outgrown=>exact⟨ρ',f,v.trans x2,z3.trans x3,d⟩
    ·exact h.elim
   ·exact h.elim
  ·rename_i x;split at h
   ·split at h
    ·rename_i p r P;exact UF o P g h
    ·exact h.elim
   ·refine EQ λb k cs=>wp_mono (o x _ _ ρ a w g h) λe a' w' j=>?_;obtain⟨ρ',f,x2,x3,d⟩:=j;exact DJ o (ρ:=ρ) (a0:=a) (w0:=w) (λe ρ3 a3 w3 F v z3 z4=>oR F v z3 z4) 4 e ρ' a' w' f x2 x3 d
   ·exact h.elim
  ·exact h.elim
theorem RG(a:C.Ok):∀f,Iy C n (vc C n f)
 |0=>λ_ _ _ _ _ _ _ h=>h.elim
 |f+1=>afA a (RG a f)
end
def FT(C:Ctx)(ρ:Env):List ResultVar->(List Value->Prop)->Heap->Prop
 |[],K,_=>K []
 | .tmp t::r,K,h=>match ρ.get t with
  |some v=>FT C ρ r (λvs=>K (v::vs)) h
  |none=>False
 | .cell a t::r,K,h=>match xE C.T (.load t (.tmp a)) ρ.eval with
  |some q=>∃y:q.ty.den,q.holds h y/\FT C ρ r (λvs=>K (q.ty.enc y::vs)) h
  |none=>False
def FU:List Value->Value
 |[v]=>v
 |vs=>.tuple vs.toArray
def aiB(C:Ctx)(rs:List ResultVar)(R:Value->Heap->Prop):QT
 | .normal,ρ,h=>FT C ρ rs (λvs=>R (FU vs) h) h
 | .ret,ρ,h=>FT C ρ rs (λvs=>R (FU vs) h) h
 |_,_,_=>False
def FV:Nat->List Value->Env
 |_,[]=>[]
 |n,v::r=>.val n v::FV (n+1) r
def fnV(C:Ctx)(d:Func)(a:Nat)(b:ak)(args:List Value)(R:Value->Heap->Prop)(h:Heap):Prop:=
 match d.body with
 |some c=>vc C d.ntmps a c b (aiB C d.results.toList R) (FV 0 args) h
 |none=>False
theorem Ls:∀{args:List Value} {n t:Nat} {v:Value},(FV n args).get t=some v->n<=t/\args[t-n]?=some v
 |[],_,_,_,h=>by cases h
 |u::r,n,t,v,h=>by
  simp only[FV,Env.get]at h;cases hb:wx n t with
  |true=>
   rw[hb]at h;have:=zK hb;subst this;simpa using h
  |false=>
   rw[hb]at h;obtain⟨c,a⟩:=Ls (args:=r) h;refine⟨by omega,?_⟩;obtain⟨k,b⟩:∃k,t-n=k+1:=⟨t-(n+1),by omega⟩
   rw[b,List.getElem?_cons_succ];have:t-(n+1)=k:=by omega
   rw[<-this];exact a
theorem acB{C:CG}(g:C.Ok){ev:Operand->Option Value}{e:Operand->Value}(h:∀x v,ev x=some v->e x=v){t:TypeId}{x:Operand}{q:Bd}
  (f:xE C.T (.load t x) ev=some q) {y:q.ty.den} {w:World} (d:q.holds w.heap y):(vM t (e x)).run C.P w=.ok (q.ty.enc y) w:=by
 have c:(do pure (Next.value (<-vM t (e x))):Sem Next).run C.P w=.ok (.value (q.ty.enc y)) w:=DG g h (o:=⟨none,.load t x,0, "",#[],none⟩) f d;rw[Sem.run_bind]at c;cases hr:(vM t (e x)).run C.P w with
 |halt a b=>rw[hr]at c;cases c
 |ok v w'=>
  rw[hr]at c;simp only[Result.andThen_ok]at c;cases c;rfl
theorem FW{C:Ctx}(k:C.Ok){n:Nat}{a:Act}{ρ:Env}(d:Fits n a ρ):∀{rs:List ResultVar} {K:List Value->Prop} {w:World},FT C ρ rs K w.heap->
  ∃vs,(rs.mapM (λ| .tmp t=>pure (a.tmps.getD t undef)| .cell x t=>(do loadVar t (<-asAddr (a.tmps.getD x undef)):Sem Value)):Sem (List Value)).run C.P w=.ok vs w/\K vs
 |[],K,w,h=>⟨[],rfl,h⟩
 | .tmp t::r,K,w,h=>by
  simp only[FT]at h;split at h
  ·rename_i v p;obtain⟨vs,l,i⟩:=FW k d h;refine⟨v::vs,?_,i⟩;have g:a.tmps.getD t undef=v:=by simp[Array.getD_eq_getD_getElem?,d.get t v p]
   rw[List.mapM_cons,Sem.run_bind,Sem.run_pure,Result.andThen_ok,Sem.run_bind,l,g];rfl
  ·exact h.elim
 | .cell x t::r,K,w,h=>by
  simp only[FT]at h;split at h
  ·rename_i q f;obtain⟨y,o,h⟩:=h;obtain⟨vs,l,i⟩:=FW k d h;refine⟨q.ty.enc y::vs,?_,i⟩;have m:=acB k.toOk (e:=a.eval) (λx v h=>d.eval h) f o;have s:∃c,a.eval (.tmp x)=.pointer (some c):=by
    unfold xE at f;simp only at f;split at f
    ·rename_i c b;exact⟨c,d.eval b⟩
    ·cases f
   obtain⟨c,b⟩:=s;have g:a.tmps.getD x undef=.pointer (some c):=b;rw[b]at m;rw[List.mapM_cons,Sem.run_bind];simp only[g];have j:(do loadVar t (<-asAddr (.pointer (some c))):Sem Value).run C.P w=.ok (q.ty.enc y) w:=m;rw[j,Result.andThen_ok,Sem.run_bind,l];rfl
  ·exact h.elim
theorem afB{C:Ctx}(o:C.Ok){f:FuncId}{b:Func}(p:C.P.funcs[f]?=some b){a:Nat}{g:ak}{args:List Value}(z:args.length<=b.ntmps){R:Value->Heap->Prop}{h:Heap}
  (j:fnV C b a g args R h):ab C.P f args.toArray h R:=by
 rintro w rfl;unfold fnV at j;split at j
 ·rename_i c q;refine calls_of_wp p q ?_;have d:Fits b.ntmps {tmps:=args.toArray++vp (b.ntmps-args.toArray.size) undef,defers:=[]} (FV 0 args):=by refine⟨by simp;omega,rfl,λt v y=>?_⟩;obtain⟨_,i⟩:=Ls y;rw[Nat.sub_zero]at i;have k:t<args.length:=(qm.1 i).1;simp only[Array.getElem?_append,List.size_toArray,k,if_true,List.getElem?_toArray];exact i
  refine wp_mono (RG o a c g _ _ _ w d j) λe a' w' s=>?_;obtain⟨ρ',m,x2,x3,l⟩:=s;have fin:FT C ρ' b.results.toList (λvs=>R (FU vs) w'.heap) w'.heap->a'.defers=[]/\∃v,(results b a'.tmps).run C.P w'=.ok v w'/\(∃n,Ending.returned v=.returned n/\dl w w'/\R n w'.heap):=λx=>by
   obtain⟨vs,u,i⟩:=FW o m x;refine⟨m.defers,FU vs,?_,FU vs,rfl,x3,i⟩;unfold results;rw[vh,map_eq_pure_bind,bind_assoc,Sem.run_bind];refine(congrArg (λr=>Result.andThen r _) u).trans ?_;simp only[Result.andThen_ok,pure_bind,Sem.run_pure];cases vs with
   |nil=>rfl
   |cons v r=>cases r<;>rfl
  cases e<;>first|exact fin l|exact l.elim
 ·exact j.elim
theorem az{C:Ctx}(g:C.Ok){f:FuncId}{b:Func}(d:C.P.funcs[f]?=some b)(a:ak){args:List Value}{R:Value->Heap->Prop}{h:Heap}{Q:Prop}(i:Q)
  (c:vY args.length b.ntmps=true:=by kernel_rfl) (e:fnV C b 300 a args R h=Q:=by kernel_rfl):ab C.P f args.toArray h R:=afB g d (zJ c) (cast e.symm i)
def aA(P:Program)(s:Sem Value)(r:Rt)(h:Heap)(K:r.den->Heap->Prop):Prop:=af P s h λv h'=>∃x:r.den,v=r.enc x/\K x h'
def aP(P:Program)(s:Sem Value)(h:Heap)(K:Addr->Heap->Prop):Prop:=af P s h λv h'=>∃a:Addr,v=.pointer (some a)/\K a h'
def ae(P:Program)(f:FuncId)(args:Array Value)(r:Rt)(h:Heap)(K:r.den->Heap->Prop):Prop:=ab P f args h λv h'=>∃x:r.den,v=r.enc x/\K x h'
def iM(C:Ctx)(g:FuncId)(args:List Value)(r:Rt)(h:Heap)(K:r.den->Heap->Prop):Prop:=
 match C.fns[g]? with
 |some true=>ae C.P g args.toArray r h K
 |_=>False
theorem fq{C:Ctx}{g:FuncId}{args:List Value}{r:Rt}{h:Heap}{K:r.den->Heap->Prop}(b:C.fns[g]?=some true)(a:ae C.P g args.toArray r h K):iM C g args r h K:=by unfold iM;rw[b];exact a
end Go.Vc
abbrev cC:=List (List UInt8)
abbrev aY:=List UInt8
abbrev bz:=List (List Int)
abbrev au:=List Int
abbrev aQ:=Option Go.Addr
abbrev ba:=List Go.Value
abbrev Ki:=Go.Value->Go.Vc.Heap->Prop
abbrev cU:=Go.FuncId×Array Go.Value×Array Go.Value
abbrev Go.Vc.ak.tn(a:Go.Vc.ak):Go.Vc.ak:=.two .n a
universe u
theorem j1{c:Prop}{h:Decidable c}(hc:c){α:Sort u}{t e:α}:ite c t e=t:=if_pos hc
theorem j3{c:Prop}{h:Decidable c}(hnc:¬c){α:Sort u}{t e:α}:ite c t e=e:=if_neg hnc
theorem j6{p:Prop}[inst:Decidable p]:p->decide p=true:=decide_eq_true
theorem j7{p:Prop}[inst:Decidable p]:¬p->decide p=false:=decide_eq_false
theorem j8{p:Prop}[inst:Decidable p]:decide p=true->p:=of_decide_eq_true
theorem k0{α:Sort u}{a:α}:a=a:=rfl
theorem k4{p:Prop}(h:p:=by omega):p:=h
theorem k6{p:Prop}(h:p:=by decide):p:=h
theorem k7{p:Prop}(h:p:=by dsimp only;omega):p:=h
theorem k8{p:Prop}(h:p:=by simp;omega):p:=h
theorem k9{p:Prop}(h:p:=by simp):p:=h
theorem lb{p:Prop}(h:p:=by dsimp only;rw[ag _];rfl):p:=h
theorem ld{p:Prop}(h:p:=by rw[ag _];rfl):p:=h
theorem ln{p:Prop}(h:p:=by cases e):p:=h
theorem l0{p:Prop}(h:p:=by kernel_rfl):p:=h
theorem l4{p:Prop}(h:p:=by decide+kernel):p:=h
theorem l5{p:Prop}(h:p:=by rw[ag _];omega):p:=h
theorem l6{p:Prop}(h:p:=by simpa using h):p:=h
theorem l7{p:Prop}(h:p:=by simpa using a):p:=h
theorem l9{p:Prop}(h:p:=by cases h):p:=h
theorem mn{p:Prop}(h:p:=by simp[aK]):p:=h
theorem m4{p:Prop}(h:p:=by rw[bX];omega):p:=h
theorem m5{p:Prop}(h:p:=by simpa using b):p:=h
theorem m6{p:Prop}(h:p:=by rw[addr_add];exact hb.cell k0):p:=h
theorem m7{p:Prop}(h:p:=by rfl):p:=h
theorem m8{p:Prop}(h:p:=by simp at d;omega):p:=h
theorem m9{p:Prop}(h:p:=by simp[bW];omega):p:=h
theorem nn{p:Prop}(h:p:=by simpa using g):p:=h
theorem nq{p:Prop}(h:p:=by simp[Value.cells]):p:=h
theorem ns{p:Prop}(h:p:=by rw[ze];omega):p:=h
theorem n3{p:Prop}(h:p:=by simpa using e):p:=h
theorem n4{p:Prop}(h:p:=by simpa using H):p:=h
theorem n5{p:Prop}(h:p:=by rw[addr_add];exact a3.cell k0):p:=h
theorem n7{p:Prop}(h:p:=by simp[cG];omega):p:=h
theorem n8{p:Prop}(h:p:=by dsimp only;simp;omega):p:=h
theorem n9{p:Prop}(h:p:=by simpa using p):p:=h
theorem oi{p:Prop}(h:p:=by rw[qw];omega):p:=h
theorem oj{p:Prop}(h:p:=by simp[c]):p:=h
theorem oo{p:Prop}(h:p:=by simpa using c):p:=h
theorem o0{p:Prop}(h:p:=by simp[dI];omega):p:=h
theorem o4{p:Prop}(h:p:=by simp[dF];omega):p:=h
theorem o5{p:Prop}(h:p:=by simp at h):p:=h
theorem o6{p:Prop}(h:p:=by unfold jb;rw[o.refl];rfl):p:=h
theorem o7{p:Prop}(h:p:=by simp[a]):p:=h
theorem o8{p:Prop}(h:p:=by rw[<-w];exact n.cell0 k0):p:=h
theorem o9{p:Prop}(h:p:=by simp[iF]):p:=h
theorem pa{p:Prop}(h:p:=by simp[gA]):p:=h
theorem pb{p:Prop}(h:p:=by simpa using e2):p:=h
theorem pt{p:Prop}(h:p:=by rw[tR d];omega):p:=h
theorem p0{p:Prop}(h:p:=by simp[b]):p:=h
theorem p5{p:Prop}(h:p:=by rw[qi (ql _)]):p:=h
theorem p6{p:Prop}(h:p:=by simpa using d):p:=h
theorem p7{p:Prop}(h:p:=by unfold fp;simp;omega):p:=h
theorem p8{p:Prop}(h:p:=by simpa using z):p:=h
theorem p9{p:Prop}(h:p:=by assumption):p:=h
theorem qa{p:Prop}(h:p:=by rw[qZ];omega):p:=h
theorem qb{p:Prop}(h:p:=by rw[F.wl];omega):p:=h
theorem qs{p:Prop}(h:p:=by simp[g]):p:=h
theorem q6{p:Prop}(h:p:=by rw[l]):p:=h
theorem rb{p:Prop}(h:p:=by simp[h]):p:=h
theorem sb{p:Prop}(h:p:=by simp[f]):p:=h
theorem sp{p:Prop}(h:p:=by rw[wrap_u64];omega):p:=h
theorem sz{p:Prop}(h:p:=by have:=Z.tt.2;omega):p:=h
theorem sL{p:Prop}(h:p:=by simp[cG]):p:=h
theorem tg{p:Prop}(h:p:=by simpa using n):p:=h
theorem tp{p:Prop}(h:p:=by rw[r]):p:=h
theorem t6{p:Prop}(h:p:=by rw[t];rfl):p:=h
theorem t7{p:Prop}(h:p:=by simp at f;omega):p:=h
theorem t8{p:Prop}(h:p:=by simp[e]):p:=h
theorem u0{p:Prop}(h:p:=by simp[iD];omega):p:=h
theorem u1{p:Prop}(h:p:=by simp[fG];omega):p:=h
theorem u5{p:Prop}(h:p:=by rw[j7 b];rfl):p:=h
theorem u6{p:Prop}(h:p:=by simp[d]):p:=h
theorem u7{p:Prop}(h:p:=by rw[L];exact E):p:=h
theorem u9{p:Prop}(h:p:=by rw[e1];decide):p:=h
theorem v1{p:Prop}(h:p:=by rw[hG];rfl):p:=h
theorem v2{p:Prop}(h:p:=by simpa using m):p:=h
theorem v6{p:Prop}(h:p:=by simpa using s):p:=h
theorem x0{p:Prop}(h:p:=by simpa using q):p:=h
theorem yr{p:Prop}(h:p:=by simpa using t):p:=h
theorem zv{p:Prop}(h:p:=by rw[me];omega):p:=h
theorem A0{p:Prop}(h:p:=by rw[hJ];omega):p:=h
theorem A1{p:Prop}(h:p:=by rw[gv];omega):p:=h
theorem A3{p:Prop}(h:p:=by rw[e];rfl):p:=h
theorem A4{p:Prop}(h:p:=by simp[aK,b]):p:=h
abbrev ql:=@Nat.le_refl
abbrev qz:=@Bool.and_eq_true
abbrev zk:=@Bool.false_eq_true
abbrev z7:=@Bool.or_eq_true
abbrev zA:=@List.cons_append
abbrev qm:=@List.getElem?_eq_some_iff
abbrev qR:=@List.getElem?_map
abbrev zm:=@List.length_cons
abbrev zE:=@List.mem_append_right
abbrev qV:=@List.mem_cons
abbrev qC:=@List.mem_cons_of_mem
abbrev qI:=@List.mem_cons_self
abbrev qB:=@List.mem_singleton
abbrev qY:=@Option.map_some
abbrev yk:=@Nat.add_assoc
abbrev zr:=@Nat.add_sub_cancel_left
abbrev wO:=@Nat.add_zero
abbrev zf:=@Nat.le_trans
abbrev q7:=@Nat.lt_of_lt_of_le
abbrev zu:=@Nat.lt_succ_iff_lt_or_eq
abbrev yt:=@Nat.mod_lt
abbrev wk:=@Nat.mul_le_mul
abbrev zo:=@Nat.mul_le_mul_right
abbrev zc:=@Nat.sub_self
abbrev zO:=@Nat.succ_mul
abbrev z6:=@Nat.zero_add
abbrev yA:=@Array.ext_getElem?
abbrev wu:=@Array.getElem?_modify
abbrev qU:=@List.all_eq_true
abbrev qt:=@List.append_assoc
abbrev qL:=@List.append_nil
abbrev zL:=@List.drop_drop
abbrev qP:=@List.drop_eq_getElem_cons
abbrev zi:=@List.drop_of_length_le
abbrev q8:=@List.eq_nil_of_length_eq_zero
abbrev wC:=@List.ext_getElem
abbrev zP:=@List.ext_getElem?
abbrev zl:=@List.filter_append
abbrev zp:=@List.filter_cons
abbrev wB:=@List.filter_eq_nil_iff
abbrev yh:=@List.find?_eq_none
abbrev zj:=@List.flatMap_append
abbrev zg:=@List.flatMap_cons
abbrev wv:=@List.foldl_append
abbrev zC:=@List.foldl_cons
abbrev wM:=@List.foldl_nil
abbrev qe:=@List.getD_eq_getElem?_getD
abbrev qp:=@List.getElem?_append_left
abbrev qj:=@List.getElem?_append_right
abbrev qE:=@List.getElem?_cons_succ
abbrev wz:=@List.getElem?_drop
abbrev qd:=@List.getElem?_eq_getElem
abbrev qQ:=@List.getElem?_eq_none
abbrev zb:=@List.getElem?_set
abbrev zN:=@List.getElem?_set_ne
abbrev zq:=@List.getElem?_set_self
abbrev zZ:=@List.getElem?_toArray
abbrev wH:=@List.getElem?_zipWith
abbrev we:=@List.getElem_drop
abbrev qh:=@List.getElem_mem
abbrev qK:=@List.getElem_of_mem
abbrev qy:=@List.length_append
abbrev ze:=@List.length_drop
abbrev qw:=@List.length_map
abbrev wJ:=@List.length_mergeSort
abbrev zt:=@List.length_range
abbrev zF:=@List.length_set
abbrev qZ:=@List.length_take
abbrev qA:=@List.mem_append
abbrev qH:=@List.mem_filter
abbrev zB:=@List.mem_flatMap
abbrev qo:=@List.mem_map
abbrev zI:=@List.mem_of_mem_take
abbrev qD:=@List.mem_range
abbrev ye:=@List.mergeSort_perm
abbrev z8:=@List.nil_append
abbrev wW:=@List.pairwise_append
abbrev zD:=@List.pairwise_cons
abbrev zd:=@List.pairwise_iff_getElem
abbrev yo:=@List.pairwise_mergeSort
abbrev yL:=@List.range_eq_range'
abbrev zR:=@List.range_succ
abbrev yM:=@List.set_set
abbrev w8:=@List.size_toArray
abbrev qJ:=@List.take_append_drop
abbrev qS:=@List.take_length
abbrev qi:=@List.take_of_length_le
abbrev zG:=@List.take_succ_eq_append_getElem
abbrev yx:=@List.zipWith_append
abbrev w6:=@Bool.not_false
abbrev zQ:=@Bool.true_and
abbrev yi:=@Int.emod_lt_of_pos
abbrev yH:=@Int.emod_nonneg
abbrev vt:=@Int.tmod_lt_of_pos
abbrev qn:=@Int.toNat_natCast
abbrev yI:=@UInt8.toNat_inj
abbrev zU:=@UInt8.xor_zero
abbrev wm:=@UInt8.zero_xor
abbrev wV:=@BitVec.ofInt_natCast
abbrev wG:=@List.any_eq_false
abbrev wc:=@List.any_eq_true
abbrev zW:=@List.filter_eq_self
abbrev wD:=@List.findIdx_lt_length
abbrev wN:=@List.getElem_append_left
abbrev qT:=@List.length_filter_le
abbrev wQ:=@List.map_map
abbrev zn:=@List.mem_append_left
abbrev wT:=@List.mem_replicate
abbrev wP:=@List.nodup_cons
abbrev wE:=@Bool.not_eq_true'
abbrev w4:=@Bool.not_true
abbrev vg:=@UInt8.xor_comm
abbrev yC:=@Int.mul_le_mul
abbrev vB:=@Int.mul_nonneg
abbrev vU:=@Int.mul_pos
abbrev wA:=@Int.natCast_mul
abbrev yD:=@Int.tmod_eq_emod_of_nonneg
abbrev wU:=@Nat.mul_one
abbrev zy:=@Nat.zero_le
abbrev y7:=@List.all_append
abbrev yK:=@List.any_append
abbrev yJ:=@List.filter_nil
abbrev zT:=@List.flatMap_nil
abbrev zw:=@List.getElem?_range
abbrev wb:=@List.getElem?_replicate
abbrev yc:=@List.getElem_take
abbrev yX:=@List.getElem_zip
abbrev yw:=@List.length_nil
abbrev qW:=@List.map_append
abbrev vy:=@List.map_mergeSort
abbrev yB:=@List.mem_mergeSort
abbrev yd:=@List.replicate_succ
abbrev qX:=@List.set_append_right
abbrev zx:=@List.set_cons_zero
abbrev vm:=@Bool.false_or
abbrev yY:=@Prod.ext
abbrev wj:=@Int.natCast_nonneg
abbrev yR:=@Int.ofNat_le
abbrev wo:=@List.getElem_map
abbrev yj:=@List.map_cons
abbrev vC:=@List.map_nil
abbrev wF:=@List.pairwise_map
abbrev zX:=@List.getElem_append_right
abbrev yE:=@List.mem_iff_getElem?
abbrev wK:=@List.length_replicate
abbrev wY:=@List.mem_flatten
