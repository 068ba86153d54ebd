/- Part of the proofs that the laws of this seat answer true whatever the input reads, and leave it as it was; no condition. -/
import Derived.Calls
import Derived.Orders
import Derived.Scope
import Derived.KernelRfl
import Derived.Laws.Sem
import Derived.OrdersHeld
set_option linter.unusedVariables false
set_option linter.unusedSimpArgs false
open Nat renaming add_assoc -> yn, beq -> wm, ble -> vJ, blt -> vw, eq_of_beq_eq_true -> zD, le_of_ble_eq_true -> zC, le_refl -> ql, le_trans -> zl, mul_one -> wN
open Bool renaming and_eq_true -> qy, false_eq_true -> zd, not_eq_true' -> wV, not_false -> wU, not_true -> wS, or_eq_false_iff -> w7, or_eq_true -> wx
open List renaming append_assoc -> qo, cons_append -> zu, getElem?_cons_succ -> qz, getElem?_eq_some_iff -> qm, getElem?_map -> qN, getElem?_toArray -> zM, length_cons -> zi, length_map -> qw, map_cons -> w4, mem_append -> qE, mem_append_left -> yA, mem_append_right -> wF, mem_cons -> zc, mem_cons_of_mem -> qU, mem_cons_self -> q8, mem_singleton -> qG, range -> qC, range_eq_range' -> yB, size_toArray -> wW
open BitVec renaming ofInt -> qA
open Go.IntKind renaming i64 -> vR
open Go.Instr renaming alloc -> qJ, box -> qL, build -> vy, buildSlice -> qt, fill -> wh, loadAt -> vA, makeSlice -> qB, slice -> vz, sliceAt -> wy, sliceBound -> yW, sliceBounds -> zP, storeAt -> qf
open Prod renaming fst -> qK, snd -> zA
open Option renaming map_eq_some_iff -> yM, map_some -> qO, some -> zJ
open Array renaming ext' -> yg, getElem?_eq_some_iff -> yS, getElem?_toList -> vo, mapM_eq_mapM_toList -> yZ, replicate -> y9, toList_map -> vt
open Go.Builtin renaming append_ -> qq, clear_ -> yp, copy_ -> wT
namespace Go.Vc
open Go
abbrev Heap:=Array Obj
def cellOf(h:Heap)(a:Addr):Option Value:=
 match h[a.block]? with
 |some (.cells c _ _)=>if a.spot.isSome then none else c[a.off]?
 |_=>none
def WO(h:Heap)(a:Addr):Bool:=
 match h[a.block]? with
 |some (.cells _ _ (lo,hi))=>lo<=a.off&&a.off<hi
 |_=>false
def WP(h:Heap)(a:Addr)(v:Value):Heap:=
 h.modify a.block fun
  | .cells c elem frozen=>.cells (if a.spot.isSome then c else c.setIfInBounds a.off v) elem frozen
  |o=>o
def shapeOf(h:Heap)(r:Nat):Option (TypeId×Nat):=match h[r]? with|some (.cells c elem _)=>some (elem,c.size)|_=>none
theorem aby(w:World)(r:Nat):w.shape? r=shapeOf w.heap r:=rfl
theorem MQ(w:World)(a:Addr):w.cell? a=cellOf w.heap a:=rfl
theorem adT(w:World)(a:Addr):w.frozen? a=WO w.heap a:=rfl
theorem adU(w:World)(a:Addr)(v:Value):(w.setCell a v).heap=WP w.heap a v:=rfl
structure cN (w w':World):Prop where
 os:w'.os=w.os
 tape:w'.tape=w.tape
 output:w'.output=w.output
 drawn:w.drawn<=w'.drawn
theorem cN.refl(w:World):cN w w:=⟨rfl,rfl,rfl,ql _⟩
theorem cN.trans{a b c:World}(h:cN a b)(k:cN b c):cN a c:=⟨k.os.trans h.os,k.tape.trans h.tape,k.output.trans h.output,zl h.drawn k.drawn⟩
def ac(P:Program)(f:FuncId)(args:Array Value)(h:Heap)(R:Value->Heap->Prop):Prop:=
 ∀w,w.heap=h->Calls P f args w fun e w'=>∃v,e=.returned v/\cN w w'/\R v w'.heap
theorem ac.mono{P:Program}{f:FuncId}{args:Array Value}{h:Heap}{R a:Value->Heap->Prop}(b:ac P f args h R)
  (c:∀v h',R v h'->a v h'):ac P f args h a:=fun w g=>
 (b w g).mono fun _ _ ⟨v,e,d,r⟩=>⟨v,e,d,c _ _ r⟩
def ag{α:Type}(P:Program)(s:Sem α)(h:Heap)(K:α->Heap->Prop):Prop:=
 ∀w,w.heap=h->∃v w',s.run P w=.ok v w'/\cN w w'/\K v w'.heap
section
variable {α β:Type} {P:Program} {h:Heap}
theorem ag.pure'{K:α->Heap->Prop}{a:α}(c:K a h):ag P (Pure.pure a) h K:=fun w b=>⟨a,w,rfl,cN.refl w,by rw[b];exact c⟩
theorem ag.bind{s:Sem α}{f:α->Sem β}{K:β->Heap->Prop}(e:ag P s h fun v h'=>ag P (f v) h' K):ag P (s>>=f) h K:=by
 intro w k;obtain⟨v,w',i,j,l⟩:=e w k;obtain⟨g,c,d,a,b⟩:=l w' rfl;exact⟨g,c,by rw[Sem.run_bind,i];exact d,j.trans a,b⟩
theorem ag.mono{s:Sem α}{K d:α->Heap->Prop}(e:ag P s h K)(f:∀v h',K v h'->d v h'):ag P s h d:=fun w g=>
 let⟨v,w',a,b,c⟩:=e w g;⟨v,w',a,b,f _ _ c⟩
theorem ag.abz{K:Program->Heap->Prop}(b:K P h):ag P program h K:=fun w a=>⟨P,w,rfl,cN.refl w,by rw[a];exact b⟩
theorem ag.aeY{a:Addr}{v v0:Value}{m:Mode}{K:Unit->Heap->Prop}(c:v.oneCell'=true)(d:cellOf h a=some v0)(e:WO h a=false)(f:K () (WP h a v)):
  ag P (store a v m) h K:=fun w b=>
 ⟨(),w.setCell a v,by rw[run_store _ _ _ _ _ c,MQ,b,d];simp[adT,b,e],⟨rfl,rfl,rfl,ql _⟩,by rw[adU,b];exact f⟩
theorem ag.rk{o:Obj}{K:Nat->Heap->Prop}(b:K h.size (h.push o)):ag P (newObj o) h K:=fun w a=>
 ⟨w.heap.size,_,run_newObj P w o,⟨rfl,rfl,rfl,ql _⟩,by simp only[a];exact b⟩
theorem ag.Jl{n:Nat}{K:Unit->Heap->Prop}(b:K () h):ag P (askRoom n) h K:=fun w a=>⟨(),w,run_askRoom P w n,cN.refl w,by rw[a];exact b⟩
theorem ag.MR{q:Question}{K:Nat->Heap->Prop}(b:(q.forced=true->K 0 h)/\(q.forced=false->∀n,K (q.cut n) h)):ag P (choose q) h K:=by
 intro w a;cases hq:q.forced with
 |true=>exact⟨0,w,by rw[run_choose,hq];rfl,cN.refl w,by rw[a];exact b.1 hq⟩
 |false=>exact⟨q.cut (w.tape w.drawn q),{w with drawn:=w.drawn+1},by rw[run_choose,hq];rfl,⟨rfl,rfl,rfl,Nat.le_succ _⟩,by show K _ w.heap;rw[a];exact b.2 hq _⟩
theorem ag.aeZ{r:Nat}{K:Option (TypeId×Nat)->Heap->Prop}(b:K (shapeOf h r) h):ag P (shape r) h K:=fun w a=>
 ⟨_,w,run_shape P w r,cN.refl w,by rw[a,aby,a];exact b⟩
end
def BP(P:Program)(s:Sem Next)(h:Heap)(K:Value->Heap->Prop):Prop:=
 ag P s h fun a h'=>match a with
  | .value v=>K v h'
  | .skip=>K undef h'
  | .enter f args=>ac P f args h' K
  |_=>False
theorem agl{P:Program}{o:Oper}{a:Act}{w:World}{K:Value->Heap->Prop}{Q:Exit->Act->World->Prop}
  (i:BP P (execOp a.eval o) w.heap K) {next:Act->World->Prop}
  (d:∀v w',cN w w'->K v w'.heap->next (a.put o.dst v) w'):o.wp P a w next Q:=by
 obtain⟨j,w',h,g,b⟩:=i w rfl;unfold Oper.wp;rw[h];cases j<;>simp only at b<;>simp only[Oper.upon]
 case value v=>exact d _ _ g b
 case skip=>exact d _ _ g b
 case enter f args=>
  refine(b w' rfl).mono ?_;rintro e k ⟨v,rfl,c,r⟩;exact d _ _ (g.trans c) r
structure Sl where
 ptr:Option Addr
 len:Nat
 cap:Nat
 deriving Inhabited
inductive Sc where
 |int (k:IntKind)|bool|str|ptr|slc|flt (k:FloatKind)|cpx (k:FloatKind)|mp|fn|any|adr
@[reducible] def Sc.den:Sc->Type
 | .int _=>Int
 | .bool=>Bool
 | .str=>ByteArray
 | .ptr=>Option Addr
 | .slc=>Sl
 | .flt _=>Nat
 | .cpx _=>Nat×Nat
 | .mp=>Option Nat
 | .fn=>FuncId×Array Value×Array Value
 | .any=>Value
 | .adr=>Addr
@[reducible] def Sc.enc:(s:Sc)->s.den->Value
 | .int k,n=>.int k n
 | .bool,x=>.bool x
 | .str,x=>.string x
 | .ptr,a=>.pointer a
 | .slc,x=>.slice x.ptr x.len x.cap
 | .flt k,n=>.float k n
 | .cpx k,x=>.complex k x.1 x.2
 | .mp,r=>.map r
 | .fn,x=>.func (.func x.1) x.2.1 x.2.2
 | .any,v=>v
 | .adr,a=>.pointer (some a)
def BQ:IntKind->IntKind->Bool
 | .i8,.i8| .i16,.i16| .i32,.i32| .i64,.i64| .u8,.u8| .u16,.u16| .u32,.u32| .u64,.u64=>true
 |_,_=>false
theorem IB:∀{a b:IntKind},BQ a b=true->a=b:=by
 intro a b;cases a<;>cases b<;>simp[BQ]
def Fy:FloatKind->FloatKind->Bool
 | .f32,.f32| .f64,.f64=>true
 |_,_=>false
theorem Fz:∀{a b:FloatKind},Fy a b=true->a=b:=by
 intro a b;cases a<;>cases b<;>simp[Fy]
def Sc.dec:(s:Sc)->Value->Option s.den
 | .int k,.int k' n=>bif BQ k k' then some n else none
 | .bool,.bool x=>some x
 | .str,.string x=>some x
 | .ptr,.pointer a=>some a
 | .slc,.slice a l c=>some ⟨a,l,c⟩
 | .flt k,.float k' n=>bif Fy k k' then some n else none
 | .cpx k,.complex k' a b=>bif Fy k k' then some (a,b)else none
 | .mp,.map r=>some r
 | .fn,.func (.func g) f c=>some (g,f,c)
 | .any,v=>some v
 | .adr,.pointer (some a)=>some a
 |_,_=>none
theorem Sc.rl{s:Sc}{v:Value}{x:s.den}(h:s.dec v=some x):v=s.enc x:=by
 cases s<;>cases v<;>simp only[Sc.dec]at h<;>try(first|(cases h;done)|(cases h;rfl))
 case int.int k k' n=>
  cases hk:BQ k k'<;>simp[hk]at h;have:=IB hk;subst this;subst h;rfl
 case flt.float k k' n=>
  cases hk:Fy k k'<;>simp[hk]at h;have:=Fz hk;subst this;subst h;rfl
 case cpx.complex k k' a b=>
  cases hk:Fy k k'<;>simp[hk]at h;have:=Fz hk;subst this;subst h;rfl
 case fn.func g f c=>
  cases g<;>first|(cases h;done)|skip
  obtain⟨l⟩:=f;cases l<;>first|(cases h;done)|(cases h;rfl)
 case adr.pointer a=>
  cases a<;>first|(cases h;done)|(cases h;rfl)
@[reducible] def MS:List Sc->Type
 |[]=>Unit
 |[s]=>s.den
 |s::t::r=>s.den×MS (t::r)
@[reducible] def AU:(l:List Sc)->MS l->List Value
 |[],_=>[]
 |[s],x=>[s.enc x]
 |s::t::r,x=>s.enc x.1::AU (t::r) x.2
def WQ:(l:List Sc)->List Value->Option (MS l)
 |[],[]=>some ()
 |[s],[v]=>s.dec v
 |s::t::r,v::vs=>match s.dec v with
  |some x=>match WQ (t::r) vs with
   |some y=>some (x,y)
   |none=>none
  |none=>none
 |_,_=>none
theorem YY:∀{l:List Sc} {vs:List Value} {x:MS l},WQ l vs=some x->vs=AU l x:=by
 intro l vs
 fun_induction WQ l vs with
 |case1=>intro x _;rfl
 |case2 s v=>intro x h;simp only[AU];rw[Sc.rl h]
 |case3 s t r v vs x hx y hy ih=>intro z h;cases h;simp only[AU];rw[Sc.rl hx,ih hy]
 |case4=>intro x h;cases h
 |case5=>intro x h;cases h
 |case6=>intro x h;cases h
inductive Ty where
 |sc (s:Sc)
 |agg (l:List Sc)
 |arr (s:Sc)
@[reducible] def Ty.den:Ty->Type
 | .sc s=>s.den
 | .agg l=>MS l
 | .arr s=>List s.den
@[reducible] def Ty.enc:(t:Ty)->t.den->Value
 | .sc s,x=>s.enc x
 | .agg l,x=>.agg (AU l x).toArray
 | .arr s,x=>.agg (x.map s.enc).toArray
def Ty.dec:(t:Ty)->Value->Option t.den
 | .sc s,v=>s.dec v
 | .agg l,.agg ⟨cs⟩=>WQ l cs
 |_,_=>none
theorem Ty.rl{t:Ty}{v:Value}{x:t.den}(h:t.dec v=some x):v=t.enc x:=by
 unfold Ty.dec at h;split at h
 ·exact Sc.rl h
 ·have:=YY h;subst this;rfl
 ·cases h
@[reducible] def WR:List Ty->Type
 |[]=>Unit
 |[s]=>s.den
 |s::t::r=>s.den×WR (t::r)
@[reducible] def adv:(l:List Ty)->WR l->List Value
 |[],_=>[]
 |[s],x=>[s.enc x]
 |s::t::r,x=>s.enc x.1::adv (t::r) x.2
inductive Rt where
 |one (t:Ty)
 |many (l:List Ty)
@[reducible] def Rt.den:Rt->Type
 | .one t=>t.den
 | .many l=>WR l
@[reducible] def Rt.enc:(r:Rt)->r.den->Value
 | .one t,x=>t.enc x
 | .many l,x=>.tuple (adv l x).toArray
inductive bW where
 |val (t:Nat) (x:Value)
 |kil (lo hi:Nat)
abbrev Env:=List bW
def bW.dR:bW->Nat->Bool
 | .val s _,t=>wm s t
 | .kil lo hi,t=>vJ lo t&&vw t hi
def Env.get:Env->Nat->Option Value
 |[],_=>none
 | .val s x::r,t=>bif wm s t then some x else Env.get r t
 | .kil lo hi::r,t=>bif vJ lo t&&vw t hi then none else Env.get r t
def Env.dR:Env->Nat->Bool
 |[],_=>false
 |e::r,t=>e.dR t||Env.dR r t
theorem Env.abA(e:bW)(r:Env)(t:Nat)(h:e.dR t=false):Env.get (e::r) t=Env.get r t:=by
 cases e<;>simp only[bW.dR]at h<;>simp[Env.get,h]
theorem Env.get_append{δ ρ:Env}{t:Nat}(h:δ.dR t=false):Env.get (δ++ρ) t=Env.get ρ t:=by
 induction δ with
 |nil=>rfl
 |cons e r ih=>
  simp only[Env.dR,w7]at h;rw[zu,Env.abA _ _ _ h.1,ih h.2]
theorem Env.AV{δ ρ:Env}{t:Nat}:Env.dR (δ++ρ) t=(δ.dR t||ρ.dR t):=by
 induction δ with
 |nil=>simp[Env.dR]
 |cons e r ih=>simp[Env.dR,ih,Bool.or_assoc]
structure Fits (n:Nat) (a:Act) (ρ:Env):Prop where
 size:a.tmps.size=n
 defers:a.defers=[]
 get:∀t x,ρ.get t=some x->a.tmps[t]?=some x
def Ext(ρ b:Env)(a c:Act):Prop:=∃δ:Env,b=δ++ρ/\∀t,δ.dR t=false->c.tmps[t]?=a.tmps[t]?
theorem Ext.refl(ρ:Env)(a:Act):Ext ρ ρ a a:=⟨[],rfl,fun _ _=>rfl⟩
theorem Ext.trans{ρ e b:Env}{a f c:Act}(h:Ext ρ e a f)(k:Ext e b f c):Ext ρ b a c:=by
 obtain⟨δ,rfl,h⟩:=h;obtain⟨g,rfl,k⟩:=k;refine⟨g++δ,by simp,fun t d=>?_⟩;rw[Env.AV,w7]at d;rw[k t d.1,h t d.2]
def Env.eval(ρ:Env):Operand->Option Value
 | .tmp t=>ρ.get t
 | .const v=>some v
 | .global g=>some (.pointer (some ⟨g,0,none⟩))
 | .func f=>some (.func (.func f) #[] #[])
theorem Fits.eval{n:Nat}{a:Act}{ρ:Env}(h:Fits n a ρ){x:Operand}{v:Value}(b:ρ.eval x=some v):a.eval x=v:=by
 cases x<;>simp only[Env.eval]at b<;>simp only[Act.eval]
 case tmp t=>have:=h.get t v b;simp[Array.getD_eq_getD_getElem?,this]
 all_goals (injection b)
theorem Fits.put{n:Nat}{a:Act}{ρ:Env}(h:Fits n a ρ){d:Nat}(f:vw d n=true)(v:Value):Fits n (a.put (some d) v) (.val d v::ρ):=by
 have c:d<n:=zC f;refine⟨by simp[Act.put,h.size],h.defers,fun t x b=>?_⟩;simp only[Env.get]at b;simp only[Act.put,Array.getElem?_setIfInBounds];cases hb:wm d t with
 |true=>
  rw[hb]at b;have:d=t:=zD hb;subst this;simp at b;simp[h.size,c,b]
 |false=>
  rw[hb]at b;have:d≠t:=fun e=>by subst e;simp at hb
  simp only[this,if_false];exact h.get t x b
theorem Ext.put{ρ:Env}{a:Act}{d:Nat}(v u:Value):Ext ρ (.val d u::ρ) a (a.put (some d) v):=by
 refine⟨[.val d u],rfl,fun t b=>?_⟩;simp only[Env.dR,bW.dR,Bool.or_false]at b;have:d≠t:=fun e=>by subst e;simp at b
 simp[Act.put,this]
abbrev dt:=List (Nat×Ty)
@[reducible] def dt.den:dt->Type
 |[]=>Unit
 |[s]=>s.2.den
 |s::t::r=>s.2.den×dt.den (t::r)
def dt.vals:(σ:dt)->σ.den->Env->Env
 |[],_,ρ=>ρ
 |[s],x,ρ=>.val s.1 (s.2.enc x)::ρ
 |s::t::r,x,ρ=>.val s.1 (s.2.enc x.1)::dt.vals (t::r) x.2 ρ
def dt.read:(σ:dt)->Env->Option σ.den
 |[],_=>some ()
 |[s],ρ=>match ρ.get s.1 with
  |some v=>s.2.dec v
  |none=>none
 |s::t::r,ρ=>match ρ.get s.1 with
  |some v=>match s.2.dec v with
   |some x=>match dt.read (t::r) ρ with
    |some y=>some (x,y)
    |none=>none
   |none=>none
  |none=>none
def dt.has:dt->Nat->Bool
 |[],_=>false
 |s::r,t=>wm s.1 t||dt.has r t
abbrev cQ:=List (Nat×Nat)
def cQ.over:cQ->Env->Env
 |[],ρ=>ρ
 |(lo,hi)::r,ρ=>.kil lo hi::cQ.over r ρ
def cQ.has:cQ->Nat->Nat->Bool
 |[],_,_=>false
 |(lo,hi)::r,a,b=>(vJ lo a&&vJ b hi)||cQ.has r a b
def within(σ:dt)(κ:cQ):Env->Nat->Bool
 |_,0=>true
 |[],_+1=>true
 | .val t _::r,n+1=>(dt.has σ t||cQ.has κ t (t+1))&&within σ κ r n
 | .kil lo hi::r,n+1=>cQ.has κ lo hi&&within σ κ r n
theorem cQ.abB{κ:cQ}{a b:Nat}(h:κ.has a b=true){t:Nat}(e:a<=t)(f:t<b)(ρ:Env):∃δ:Env,κ.over ρ=δ++ρ/\δ.dR t=true:=by
 induction κ with
 |nil=>simp[cQ.has]at h
 |cons p r ih=>
  obtain⟨c,d⟩:=p;simp only[cQ.has,wx,qy]at h;obtain⟨δ,j⟩:∃δ:Env,cQ.over r ρ=δ++ρ:=by
   clear ih h
   induction r with
   |nil=>exact⟨[],rfl⟩
   |cons q r ih=>obtain⟨δ,h⟩:=ih;exact⟨.kil q.1 q.2::δ,by show bW.kil q.1 q.2::cQ.over r ρ=_;rw[h];rfl⟩
  rcases h with h|h
  ·have k:=zC h.1;have l:=zC h.2;refine⟨.kil c d::δ,by simp[cQ.over,j],?_⟩;have g:vJ c t=true:=Nat.ble_eq_true_of_le (by omega);have x2:vw t d=true:=by unfold vw;exact Nat.ble_eq_true_of_le (by omega)
   simp[Env.dR,bW.dR,g,x2]
  ·obtain⟨i,e,f⟩:=ih h;exact⟨.kil c d::i,by simp[cQ.over,e],by simp[Env.dR,f]⟩
theorem cQ.QU(κ:cQ)(ρ:Env):κ.over ρ=κ.over []++ρ:=by
 induction κ with
 |nil=>rfl
 |cons p r ih=>obtain⟨b,a⟩:=p;simp[cQ.over,ih]
theorem dt.Jm:∀(σ:dt) (x:σ.den) (ρ:Env),σ.vals x ρ=σ.vals x []++ρ
 |[],_,ρ=>rfl
 |[s],x,ρ=>rfl
 |s::t::r,x,ρ=>by simp only[dt.vals];rw[dt.Jm (t::r) x.2 ρ];rfl
theorem dt.Af:∀(σ:dt) (x:σ.den) (t:Nat),(σ.vals x []).dR t=σ.has t
 |[],_,_=>rfl
 |[s],x,t=>by simp[dt.vals,Env.dR,bW.dR,dt.has]
 |s::u::r,x,t=>by
  have:=dt.Af (u::r) x.2 t;simp only[dt.vals,Env.dR,bW.dR,this];rfl
theorem dt.QV:∀(σ:dt) (x:σ.den) (e:Env) (t:Nat),σ.has t=true->((σ.vals x [])++e).get t=(σ.vals x []).get t
 |[],_,_,_,h=>by cases h
 |[s],x,e,t,h=>by
  simp only[dt.has,Bool.or_false]at h;simp[dt.vals,Env.get,h]
 |s::u::r,x,e,t,h=>by
  simp only[dt.vals,zu,Env.get];cases hb:wm s.1 t with
  |true=>rfl
  |false=>
   have h':dt.has (u::r) t=true:=by
    have a:(wm s.1 t||dt.has (u::r) t)=true:=h;rw[hb]at a;exact a
   simpa using dt.QV (u::r) x.2 e t h'
theorem cQ.Ox{κ:cQ}{a b t:Nat}(h:κ.has a b=true)(c:a<=t)(d:t<b):(κ.over []).dR t=true:=by
 obtain⟨δ,f,e⟩:=cQ.abB h c d [];rw[f];simpa using e
theorem bK{σ:dt}{κ:cQ}:∀{δ ρ:Env},within σ κ (δ++ρ) δ.length=true->∀t,σ.has t=false->(κ.over []).dR t=false->δ.dR t=false
 |[],_,_,_,_,_=>rfl
 | .val s x::r,ρ,h,t,h1,h2=>by
  simp only[zu,zi,within,qy,wx]at h;simp only[Env.dR,bW.dR,w7];refine⟨?_,bK h.2 t h1 h2⟩;cases hb:wm s t with
  |false=>rfl
  |true=>
   have:s=t:=zD hb;subst this;rcases h.1 with h|h
   ·rw[h]at h1;cases h1
   ·rw[cQ.Ox h (ql _) (Nat.lt_succ_self _)]at h2;cases h2
 | .kil lo hi::r,ρ,h,t,h1,h2=>by
  simp only[zu,zi,within,qy]at h;simp only[Env.dR,bW.dR,w7];refine⟨?_,bK h.2 t h1 h2⟩;cases hb:(vJ lo t&&vw t hi)with
  |false=>rfl
  |true=>
   simp only[qy]at hb;have a:=zC hb.1;have b:t<hi:=zC hb.2;rw[cQ.Ox h.1 a b]at h2;cases h2
theorem dt.QW:∀{σ:dt} {ρ:Env} {x:σ.den} {t:Nat} {v:Value},σ.read ρ=some x->(σ.vals x []).get t=some v->ρ.get t=some v∨False
 |[],_,_,_,_,_,h=>by simp[dt.vals,Env.get]at h
 |[s],ρ,x,t,v,h,hv=>by
  simp only[dt.read]at h;split at h
  ·rename_i u a;simp only[dt.vals,Env.get]at hv;cases hb:wm s.1 t with
   |true=>
    rw[hb]at hv;have:=zD hb;simp at hv;subst hv;rw[<-Ty.rl h,<-this];exact .inl a
   |false=>rw[hb]at hv;simp at hv
  ·cases h
 |s::u::r,ρ,x,t,v,h,hv=>by
  simp only[dt.read]at h;split at h
  ·rename_i z b;split at h
   ·rename_i y d;split at h
    ·rename_i w c;cases h;simp only[dt.vals,Env.get]at hv;cases hb:wm s.1 t with
     |true=>
      rw[hb]at hv;have:=zD hb;simp at hv;subst hv;rw[<-Ty.rl d,<-this];exact .inl b
     |false=>
      rw[hb]at hv;exact dt.QW (σ:=u::r) c hv
    ·cases h
   ·cases h
  ·cases h
theorem Fits.rm{n:Nat}{a d:Act}{σ:dt}{κ:cQ}{ρ g:Env}{x:σ.den}(i:Fits n a ρ)(h:Fits n d g)
  (b:∀t,σ.has t=false->(κ.over []).dR t=false->d.tmps[t]?=a.tmps[t]?) (k:σ.read g=some x):
  Fits n d (σ.vals x (κ.over ρ))/\Ext ρ (σ.vals x (κ.over ρ)) a d:=by
 rw[dt.Jm,cQ.QU];refine⟨⟨h.size,h.defers,fun t v c=>?_⟩,⟨σ.vals x []++κ.over [],by simp,fun t f=>?_⟩⟩
 ·cases h1:σ.has t with
  |true=>
   have:∀(e:Env),((σ.vals x [])++e).get t=(σ.vals x []).get t:=fun e=>dt.QV σ x e t h1;rw[this]at c;rcases dt.QW k c with h2|h2
   ·exact h.get t v h2
   ·exact h2.elim
  |false=>
   rw[Env.get_append (by rw[dt.Af];exact h1)]at c;cases h2:(κ.over []).dR t with
   |true=>
    have:∀(e:Env),((κ.over [])++e).get t=none:=by
     intro e;clear b c
     induction κ with
     |nil=>simp[cQ.over,Env.dR]at h2
     |cons p r ih=>
      obtain⟨l,j⟩:=p;simp only[cQ.over,Env.dR,bW.dR]at h2;simp only[cQ.over,zu,Env.get];cases hb:(vJ l t&&vw t j)with
      |true=>rfl
      |false=>rw[hb]at h2;simp at h2;simpa using ih h2
    rw[this]at c;cases c
   |false=>
    rw[Env.get_append h2]at c;rw[b t h1 h2];exact i.get t v c
 ·rw[Env.AV,w7,dt.Af]at f;exact b t f.1 f.2
theorem Ext.within{a d:Act}{σ:dt}{κ:cQ}{ρ c:Env}(h:Ext ρ c a d)(e:within σ κ c (c.length-ρ.length)=true):
  ∀t,σ.has t=false->(κ.over []).dR t=false->d.tmps[t]?=a.tmps[t]?:=by
 obtain⟨δ,rfl,i⟩:=h;have b:(δ++ρ).length-ρ.length=δ.length:=by simp
 rw[b]at e;exact fun t f g=>i t (bK e t f g)
theorem Ext.rm{a b:Act}{σ:dt}{κ:cQ}{ρ:Env}{x:σ.den}(f:Ext ρ (σ.vals x (κ.over ρ)) a b):
  ∀t,σ.has t=false->(κ.over []).dR t=false->b.tmps[t]?=a.tmps[t]?:=by
 obtain⟨δ,c,g⟩:=f;rw[dt.Jm,cQ.QU,<-qo]at c;have:=List.append_cancel_right c;subst this;exact fun t d e=>g t (by rw[Env.AV,dt.Af,d,e];rfl)
inductive IC where
 |int (k:IntKind)|bool|str|flt|cpx|mp|fn|other
 |slice (e:TypeId)|array (n:Nat) (e:TypeId)|struct (fs:List (Nat×TypeId))|ptr (e:TypeId)
def iG:Option TypeDesc->IC
 |some (.int k)=>.int k
 |some .bool=>.bool
 |some .string=>.str
 |some (.float _)=>.flt
 |some (.complex _)=>.cpx
 |some (.map ..)=>.mp
 |some (.func ..)=>.fn
 |some (.slice e)=>.slice e
 |some (.array n e)=>.array n e
 |some (.struct fs)=>.struct (fs.toList.map fun f=>(f.offset,f.type))
 |some (.pointer e)=>.ptr e
 |_=>.other
structure TI where
 cE:IC
 ty:Ty
 size:Nat
 bytes:Nat
 zero:List Value
abbrev lO:=List TI
def lO.seen(P:Program)(t:TypeId):IC×Option (Nat×Nat×Option (List Value)):=
 (iG (P.underlying t),(P.info? t).map fun i=>(i.size,i.bytes,i.zero.map (·.cells.toList)))
def lO.told(i:TI):IC×Option (Nat×Nat×Option (List Value)):=(i.cE,some (i.size,i.bytes,some i.zero))
def lO.get:lO->Nat->Option TI
 |[],_=>none
 |i::_,0=>some i
 |_::r,t+1=>lO.get r t
structure BR where
 P:Program
 T:lO
structure BR.Ok (C:BR):Prop where
 tbl:(qC C.T.length).map (lO.seen C.P)=C.T.map lO.told
 mixed:C.P.follows .mixedOrders=true
theorem lO.get_eq:∀(T:lO) (t:Nat),T.get t=T[t]?
 |[],_=>rfl
 |_::_,0=>rfl
 |_::r,t+1=>by simp[lO.get,lO.get_eq r t]
theorem BR.Ok.at{C:BR}(h:C.Ok){t:Nat}{i:TI}(a:C.T.get t=some i):lO.seen C.P t=lO.told i:=by
 rw[lO.get_eq]at a;have b:t<C.T.length:=(qm.1 a).1;have:=congrArg (·[t]?) h.tbl;simp[b]at this;rw[this,(qm.1 a).2]
def Br(b:Bool)(A B:Prop):Prop:=match b with
 |true=>A
 |false=>B
inductive PV:Type 1 where
 |no
 |val (v:Value)
 |cond (c:Prop) (v:Value)
 |ex (X:Type) (c:X->Prop) (v:X->Value)
 |br (b:Bool) (x y:Value)
def PV.holds(p:PV)(K:Value->Prop):Prop:=match p with
 | .no=>False
 | .val v=>K v
 | .cond c v=>c/\K v
 | .ex _ c v=>∃x,c x/\K (v x)
 | .br b x y=>Br b (K x) (K y)
def sn(P:Program)(s:Sem Next)(v:Value):Prop:=∀w,s.run P w=.ok (.value v) w
def aI{α:Type}(P:Program)(s:Sem α)(v:α):Prop:=∀w,s.run P w=.ok v w
def jC(P:Program)(op:BinOp)(t:TypeId)(x y:Operand)(a b r:Value):Prop:=aI P (do eqGuard op t x y a b;binOp op t a b) r
def adw:Operand->Bool
 | .tmp _=>true
 |_=>false
def abC(P:Program)(t:TypeId)(x y:Operand)(d:Option IC)(op:BinOp):Value->Value->PV
 | .int k a,.int k' b=>
  match op with
  | .shl=>.cond (0<=b) (.int k (k.wrap (a*2^min b.toNat k.bits)))
  | .shr=>.cond (0<=b) (.int k (a.fdiv (2^min b.toNat k.bits)))
  |_=>bif BQ k k' then
   match op with
   | .add=>.val (.int k (k.wrap (a+b)))
   | .sub=>.val (.int k (k.wrap (a-b)))
   | .mul=>.val (.int k (k.wrap (a*b)))
   | .quo=>.cond (b≠0) (.int k (k.wrap (a.tdiv b)))
   | .rem=>.cond (b≠0) (.int k (a.tmod b))
   | .and=>.val (.int k (k.wrap (qA k.bits a&&&qA k.bits b).toNat))
   | .or=>.val (.int k (k.wrap (qA k.bits a|||qA k.bits b).toNat))
   | .xor=>.val (.int k (k.wrap (qA k.bits a^^^qA k.bits b).toNat))
   | .andNot=>.val (.int k (k.wrap (qA k.bits a&&&~~~qA k.bits b).toNat))
   | .eql=>.val (.bool (a==b))
   | .neq=>.val (.bool (a !=b))
   | .lss=>.val (.bool (decide (a<b)))
   | .leq=>.val (.bool (decide (a<=b)))
   | .gtr=>.val (.bool (decide (a>b)))
   | .geq=>.val (.bool (decide (a>=b)))
   |_=>.no
  else .no
 | .float k a,.float k' b=>bif Fy k k' then
   match op with
   | .add=>.ex Nat (fun r=>k.format.add a b=some r) (fun r=>.float k r)
   | .sub=>.ex Nat (fun r=>k.format.sub a b=some r) (fun r=>.float k r)
   | .mul=>.ex Nat (fun r=>k.format.mul a b=some r) (fun r=>.float k r)
   | .quo=>.ex Nat (fun r=>k.format.div a b=some r) (fun r=>.float k r)
   | .eql=>.val (.bool (k.format.order a b==some .eq))
   | .neq=>.val (.bool (k.format.order a b !=some .eq))
   | .lss=>.val (.bool (k.format.order a b==some .lt))
   | .gtr=>.val (.bool (k.format.order a b==some .gt))
   |_=>.no
  else .no
 | .string a,.string b=>
  match op with
  | .eql=>.val (.bool (a.toList==b.toList))
  | .neq=>.val (.bool (!(a.toList==b.toList)))
  | .lss=>.val (.bool (Op.bytesLess a.toList b.toList))
  | .leq=>.val (.bool (Op.bytesLess a.toList b.toList||a.toList==b.toList))
  | .gtr=>.val (.bool (!(Op.bytesLess a.toList b.toList||a.toList==b.toList)))
  | .geq=>.val (.bool (!(Op.bytesLess a.toList b.toList)))
  | .add=>.cond (((a.size+b.size:Nat):Int)<=vR.max) (.string (a++b))
  |_=>.no
 | .bool a,.bool b=>
  match d with
  |some .bool=>match op with
   | .eql=>.val (.bool (a==b))
   | .neq=>.val (.bool (!(a==b)))
   |_=>.no
  |_=>.no
 | .pointer a,.pointer b=>bif adw y then .ex Bool (fun r=>jC P op t x y (.pointer a) (.pointer b) (.bool r)) (fun r=>.bool r)else
  match b with
  |none=>match d with
   |some (.ptr _)=>match op with
    | .eql=>.val (.bool a.isNone)
    | .neq=>.val (.bool (!a.isNone))
    |_=>.no
   |_=>.no
  |some _=>.no
 | .slice a _ _,.slice none _ _=>
  match d with
  |some (.slice _)=>match op with
   | .eql=>.val (.bool a.isNone)
   | .neq=>.val (.bool (!a.isNone))
   |_=>.no
  |_=>.no
 | .agg a,.agg b=>.ex Bool (fun r=>jC P op t x y (.agg a) (.agg b) (.bool r)) (fun r=>.bool r)
 | .complex k a b,.complex k' c e=>
  match op with
  | .eql| .neq=>.ex Bool (fun r=>jC P op t x y (.complex k a b) (.complex k' c e) (.bool r)) (fun r=>.bool r)
  |_=>.ex (Nat×Nat) (fun r=>jC P op t x y (.complex k a b) (.complex k' c e) (.complex k r.1 r.2)) (fun r=>.complex k r.1 r.2)
 |_,_=>.no
def unV(op:UnOp):Value->PV
 | .bool b=>match op with
  | .not=>.val (.bool !b)
  |_=>.no
 | .int k n=>match op with
  | .neg=>.val (.int k (k.wrap (0-n)))
  | .xor=>.val (.int k (k.wrap (qA k.bits (if k.signed then-1 else k.max)^^^qA k.bits n).toNat))
  |_=>.no
 |_=>.no
def pX(ev:Operand->Option Value):List Operand->Option (List Value)
 |[]=>some []
 |x::r=>match ev x with
  |some v=>match pX ev r with
   |some vs=>some (v::vs)
   |none=>none
  |none=>none
def FA(ev:Operand->Option Value):List (Nat×Operand)->Option (List (Nat×Value))
 |[]=>some []
 |(n,x)::r=>match ev x with
  |some v=>match FA ev r with
   |some vs=>some ((n,v)::vs)
   |none=>none
  |none=>none
def placesOf(T:lO):List (Nat×TypeId)->Option (List (Nat×Nat))
 |[]=>some []
 |(off,t)::r=>match T.get t with
  |some j=>match placesOf T r with
   |some ps=>some ((off,j.size)::ps)
   |none=>none
  |none=>none
def Kq(ev:Operand->Option Value):Option Operand->Option (Option Int)
 |none=>some none
 |some x=>match ev x with
  |some (.int _ n)=>some (some n)
  |_=>none
def afa(d:Option IC):Value->PV
 | .slice _ n _=>match d with
  |some (.slice _)=>.val (.int .i64 n)
  |_=>.no
 | .string s=>match d with
  |some .str=>.val (.int .i64 s.size)
  |_=>.no
 |_=>.no
def afb(d:Option IC):Value->PV
 | .slice _ _ n=>match d with
  |some (.slice _)=>.val (.int .i64 n)
  |_=>.no
 |_=>.no
def adx(d:Option IC):Value->PV
 | .int _ n=>match d with
  |some (.int k)=>.val (.int k (k.wrap n))
  |_=>.no
 |_=>.no
def BS(P:Program)(T:lO)(op:Op)(ev:Operand->Option Value):PV:=
 match op with
 | .move x| .assign x=>match ev x with
  |some v=>.val v
  |none=>.no
 | .pick c a b=>match ev c,ev a,ev b with
  |some (.bool t),some x,some y=>.br t x y
  |_,_,_=>.no
 | .nilCheck x=>match ev x with
  |some (.pointer p)=>.ex Addr (fun a=>p=some a) (fun a=>.pointer (some a))
  |_=>.no
 | .fieldAddr s x f=>match ev x with
  |some (.pointer (some a))=>match T.get s with
   |some i=>match i.cE with
    | .struct fs=>match fs[f]? with
     |some (off,t)=>match T.get t with
      |some j=>bif wm j.size 0 then .no else .val (.pointer (some (a.add off)))
      |none=>.no
     |none=>.no
    |_=>.no
   |none=>.no
  |_=>.no
 | .indexAddr t x ix=>match ev ix with
  |some (.int _ n)=>match ev x with
   |some (.slice p len _)=>match T.get t with
    |some i=>match i.cE with
     | .slice e=>match T.get e with
      |some j=>.ex Addr (fun a=>p=some a/\0<=n/\n<(len:Int)) (fun a=>.pointer (some (a.add (n.toNat*j.size))))
      |none=>.no
     |_=>.no
    |none=>.no
   |some (.pointer (some a))=>match T.get t with
    |some i=>match i.cE with
     | .array m e=>match T.get e with
      |some j=>.cond (0<=n/\n<(m:Int)) (.pointer (some (a.add (n.toNat*j.size))))
      |none=>.no
     |_=>.no
    |none=>.no
   |_=>.no
  |_=>.no
 | .index t x ix=>match ev ix with
  |some (.int _ n)=>match ev x with
   |some (.string s)=>match T.get t with
    |some i=>match i.cE with
     | .str=>.ex UInt8 (fun b=>0<=n/\s.data[n.toNat]?=some b) (fun b=>.int .u8 b.toNat)
     |_=>.no
    |none=>.no
   |some (.agg cs)=>match T.get t with
    |some i=>match i.cE with
     | .array m e=>match T.get e with
      |some j=>match j.ty with
       | .sc s=>match j.cE with
        | .struct _=>.no
        | .array _ _=>.no
        | .other=>.no
        |_=>bif wm j.size 1 then .ex s.den (fun y=>0<=n/\n<(m:Int)/\cs[n.toNat]?=some (s.enc y)) (fun y=>s.enc y)else .no
       |_=>.no
      |none=>.no
     |_=>.no
    |none=>.no
   |_=>.no
  |_=>.no
 | .field s x f=>match ev x with
  |some (.agg ⟨cs⟩)=>match T.get s with
   |some i=>match i.cE with
    | .struct fs=>match fs[f]? with
     |some (off,t)=>match T.get t with
      |some j=>match j.cE with
       | .struct _=>.val (.agg ((cs.drop off).take j.size).toArray)
       | .array _ _=>.val (.agg ((cs.drop off).take j.size).toArray)
       | .other=>.no
       |_=>match cs[off]? with
        |some v=>.val v
        |none=>.no
      |none=>.no
     |none=>.no
    |_=>.no
   |none=>.no
  |_=>.no
 | .slice t x lo hi mx=>match mx with
  |some _=>.no
  |none=>match Kq ev lo,Kq ev hi with
   |some l,some r=>match ev x with
    |some (.slice p len cap)=>match T.get t with
     |some i=>match i.cE with
      | .slice e=>match T.get e with
       |some j=>match l,r with
        |none,none=>.val (.slice p len cap)
        |none,some r=>.cond (0<=r/\r<=(cap:Int)) (.slice p r.toNat cap)
        |some l,none=>.cond (0<=l/\l<=(len:Int)) (.slice (if cap=l.toNat then p else p.map (·.add (l.toNat*j.size))) (len-l.toNat) (cap-l.toNat))
        |some l,some r=>.cond (0<=l/\l<=r/\r<=(cap:Int)) (.slice (if cap=l.toNat then p else p.map (·.add (l.toNat*j.size))) (r.toNat-l.toNat) (cap-l.toNat))
       |none=>.no
      |_=>.no
     |none=>.no
    |some (.string s)=>match T.get t with
     |some i=>match i.cE with
      | .str=>match l,r with
       |none,none=>.val (.string (s.extract 0 s.size))
       |none,some r=>.cond (0<=r/\r<=(s.size:Int)) (.string (s.extract 0 r.toNat))
       |some l,none=>.cond (0<=l/\l<=(s.size:Int)) (.string (s.extract l.toNat s.size))
       |some l,some r=>.cond (0<=l/\l<=r/\r<=(s.size:Int)) (.string (s.extract l.toNat r.toNat))
      |_=>.no
     |none=>.no
    |some (.pointer (some a))=>match T.get t with
     |some i=>match i.cE with
      | .array n e=>match T.get e with
       |some j=>match l,r with
        |none,none=>.val (.slice (some a) n n)
        |none,some r=>.cond (0<=r/\r<=(n:Int)) (.slice (some a) r.toNat n)
        |some l,none=>.cond (0<=l/\l<=(n:Int)) (.slice (some (if n=l.toNat then a else a.add (l.toNat*j.size))) (n-l.toNat) (n-l.toNat))
        |some l,some r=>.cond (0<=l/\l<=r/\r<=(n:Int)) (.slice (some (if n=l.toNat then a else a.add (l.toNat*j.size))) (r.toNat-l.toNat) (n-l.toNat))
       |none=>.no
      |_=>.no
     |none=>.no
    |_=>.no
   |_,_=>.no
 | .extract x n=>match ev x with
  |some (.tuple ⟨vs⟩)=>match vs[n]? with
   |some v=>.val v
   |none=>.no
  |_=>.no
 | .binOp op t x y _=>match ev x,ev y with
  |some a,some b=>abC P t x y ((T.get t).map (·.cE)) op a b
  |_,_=>.no
 | .unOp op _ x=>match ev x with
  |some v=>unV op v
  |none=>.no
 | .convert src dst x=>match ev x,(T.get src).map TI.cE with
  |some v,some (IC.int _)=>adx ((T.get dst).map (·.cE)) v
  |_,_=>.no
 | .build t parts=>match FA ev parts.toList with
  |some vs=>match T.get t with
   |some i=>bif vw 24 i.size then .ex Value (fun v=>aI P (vy t vs.toArray) v) (fun v=>v)else match i.cE with
    | .struct fs=>match placesOf T fs with
     |some ps=>match wh (fun n=>ps[n]?) i.zero.toArray vs with
      |some cells=>.val (.agg cells)
      |none=>.no
     |none=>.no
    | .array _ e=>match T.get e with
     |some j=>match wh (fun n=>some (n*j.size,j.size)) i.zero.toArray vs with
      |some cells=>.val (.agg cells)
      |none=>.no
     |none=>.no
    |_=>.no
   |none=>.no
  |none=>.no
 | .makeFunc fn first captured=>match pX ev first.toList,pX ev captured.toList with
  |some a,some b=>.val (.func fn a.toArray b.toArray)
  |_,_=>.no
 | .call c=>match c.callee with
  | .builtin b=>match b with
   | .len=>match c.argTypes.toList,c.args.toList with
    |t::_,[x]=>match ev x with
     |some v=>afa ((T.get t).map (·.cE)) v
     |none=>.no
    |_,_=>.no
   | .cap=>match c.argTypes.toList,c.args.toList with
    |t::_,[x]=>match ev x with
     |some v=>afb ((T.get t).map (·.cE)) v
     |none=>.no
    |_,_=>.no
   | .min=>match pX ev c.args.toList with
    |some [.int k a,.int _ b]=>.val (.int k (if b<a then b else a))
    |_=>.no
   | .max=>match pX ev c.args.toList with
    |some [.int k a,.int _ b]=>.val (.int k (if b>a then b else a))
    |_=>.no
   | .real=>match pX ev c.args.toList with
    |some [.complex k a _]=>.val (.float k a)
    |_=>.no
   | .imag=>match pX ev c.args.toList with
    |some [.complex k _ b]=>.val (.float k b)
    |_=>.no
   |_=>.no
  |_=>.no
 |_=>.no
theorem aI.next{P:Program}{s:Sem Value}{v:Value}(h:aI P s v):sn P (do pure (.value (<-s))) v:=fun w=>by
 rw[Sem.run_bind,h w];rfl
theorem aI.pure{α:Type}{P:Program}{v:α}:aI P (pure v) v:=fun _=>rfl
theorem aI.bind{α β:Type}{P:Program}{s:Sem α}{f:α->Sem β}{v:α}{u:β}(h:aI P s v)(k:aI P (f v) u):aI P (s>>=f) u:=fun w=>by
 rw[Sem.run_bind,h w];exact k w
theorem HL{d:Option TypeDesc}{k:IntKind}(h:iG d=.int k):d=some (.int k):=by
 unfold iG at h;split at h<;>cases h;rfl
theorem abD{d:Option TypeDesc}(h:iG d=.bool):d=some .bool:=by
 unfold iG at h;split at h<;>cases h;rfl
theorem uH{d:Option TypeDesc}(h:iG d=.str):d=some .string:=by
 unfold iG at h;split at h<;>cases h;rfl
theorem iS{d:Option TypeDesc}{e:TypeId}(h:iG d=.slice e):d=some (.slice e):=by
 unfold iG at h;split at h<;>cases h;rfl
theorem so{d:Option TypeDesc}{n:Nat}{e:TypeId}(h:iG d=.array n e):d=some (.array n e):=by
 unfold iG at h;split at h<;>cases h;rfl
theorem adV{d:Option TypeDesc}{e:TypeId}(h:iG d=.ptr e):d=some (.pointer e):=by
 unfold iG at h;split at h<;>cases h;rfl
theorem oT{d:Option TypeDesc}{b:List (Nat×TypeId)}(h:iG d=.struct b):∃a,d=some (.struct a)/\b=a.toList.map fun f=>(f.offset,f.type):=by
 unfold iG at h;split at h<;>cases h;exact⟨_,rfl,rfl⟩
section
variable {C:BR} {t:TypeId} {i:TI}
theorem BR.Ok.cE(h:C.Ok)(a:C.T.get t=some i):iG (C.P.underlying t)=i.cE:=congrArg qK (h.at a)
theorem BR.Ok.info(h:C.Ok)(d:C.T.get t=some i):∃f,C.P.info? t=some f/\f.size=i.size/\f.bytes=i.bytes/\∃z,f.zero=some z/\z.cells.toList=i.zero:=by
 have:=congrArg zA (h.at d);simp only[lO.seen,lO.told]at this;cases hf:C.P.info? t with
 |none=>rw[hf]at this;cases this
 |some f=>
  rw[hf]at this;simp only[qO,zJ.injEq,Prod.mk.injEq]at this;obtain⟨a,b,c⟩:=this;cases hz:f.zero with
  |none=>rw[hz]at c;cases c
  |some z=>rw[hz]at c;simp at c;exact⟨f,rfl,a,b,z,hz,by simpa using c⟩
theorem aN{P:Program}{t:TypeId}{d:TypeDesc}(h:P.underlying t=some d):aI P (underlying t) d:=fun w=>by
 simp[underlying,h]
theorem cR{P:Program}{t:TypeId}{d:TypeInfo}(h:P.info? t=some d):aI P (typeInfo t) d:=fun w=>by
 simp[typeInfo,h]
theorem dC(h:C.Ok)(c:C.T.get t=some i):aI C.P (sizeOf t) i.size:=by
 obtain⟨f,b,a,_⟩:=h.info c;rw[<-a];exact(cR b).bind .pure
theorem rY(h:C.Ok)(c:C.T.get t=some i):∃z,aI C.P (zeroValue t) z/\z.cells.toList=i.zero:=by
 obtain⟨f,b,_,_,z,d,a⟩:=h.info c;refine⟨z,(cR b).bind ?_,a⟩;rw[d];exact .pure
theorem kp(h:C.Ok)(k:C.T.get t=some i):(∀b,i.cE=.struct b->aI C.P (isAgg t) true)/\(∀n e,i.cE=.array n e->aI C.P (isAgg t) true)/\
  ((∀b,i.cE≠.struct b)->(∀n e,i.cE≠.array n e)->i.cE≠.other->aI C.P (isAgg t) false):=by
 have a:=h.cE k;refine⟨fun b c=>?_,fun n e c=>?_,fun g j h3=>?_⟩
 ·rw[c]at a;obtain⟨l,f,_⟩:=oT a;exact(aN f).bind .pure
 ·rw[c]at a;exact(aN (so a)).bind .pure
 ·cases hu:C.P.underlying t with
  |none=>rw[hu]at a;exact absurd a.symm h3
  |some d=>
   refine(aN hu).bind ?_;rw[hu]at a;cases d<;>first|exact .pure|(exfalso;simp only[iG]at a;first|exact g _ a.symm|exact j _ _ a.symm)
end
theorem Db{ev:Operand->Option Value}{e:Operand->Value}(b:∀x v,ev x=some v->e x=v):∀{l:List Operand} {vs:List Value},pX ev l=some vs->l.map e=vs:=by
 intro l
 induction l with
 |nil=>intro vs h;cases h;rfl
 |cons x r ih=>
  intro vs h;simp only[pX]at h;split at h
  ·rename_i v c;split at h
   ·rename_i us a;cases h;simp[b _ _ c,ih a]
   ·cases h
  ·cases h
theorem ID{ev:Operand->Option Value}{e:Operand->Value}(b:∀x v,ev x=some v->e x=v):∀{l:List (Nat×Operand)} {vs:List (Nat×Value)},FA ev l=some vs->l.map (fun p=>(p.1,e p.2))=vs:=by
 intro l
 induction l with
 |nil=>intro vs h;cases h;rfl
 |cons x r ih=>
  intro vs h;obtain⟨n,x⟩:=x;simp only[FA]at h;split at h
  ·rename_i v c;split at h
   ·rename_i us a;cases h;simp[b _ _ c,ih a]
   ·cases h
  ·cases h
section
variable {P:Program}
theorem Jn(t:TypeId)(x y:Value):Op.equal t x y=Op.equalIn (9999+1) t x y:=rfl
theorem adW{t:TypeId}(c:P.underlying t=some .bool)(d:Nat)(a b:Bool):aI P (Op.equalIn (d+1) t (.bool a) (.bool b)) (a==b):=fun w=>by
 simp[Op.equalIn,underlying,c]
theorem afc{t e:TypeId}(b:P.underlying t=some (.pointer e))(d:Nat)(a:Option Addr):aI P (Op.equalIn (d+1) t (.pointer a) (.pointer none)) a.isNone:=fun w=>by
 cases a<;>simp[Op.equalIn,underlying,b]
theorem abE{t e:TypeId}(b:P.underlying t=some (.slice e))(d:Nat)(a:Option Addr)(l c f g:Nat):aI P (Op.equalIn (d+1) t (.slice a l c) (.slice none f g)) a.isNone:=fun w=>by
 cases a<;>simp[Op.equalIn,underlying,b]
theorem WS{t:TypeId}{d:Option IC}{op:BinOp}{a b:Value}{x y:Operand}{K:Value->Prop}(o:∀q,d=some q->iG (P.underlying t)=q)
  (h:(abC P t x y d op a b).holds K):∃v,aI P (do eqGuard op t x y a b;binOp op t a b) v/\K v:=by
 have j:∀{a b:Value},¬(a=.nilIface/\b=.nilIface)->(∀u v,¬(a=.agg u/\b=.agg v))->aI P (eqGuard op t x y a b) ():=by
  intro a b i f w;simp only[eqGuard];cases op<;>simp only[wS,wU,zd,if_true,if_false]<;>
   first
    |rfl
    |(split<;>first|exact absurd ⟨rfl,rfl⟩ i|exact absurd ⟨rfl,rfl⟩ (f _ _)|rfl)
 unfold abC at h;split at h
 ·rename_i k a m b;have g:=j (a:=.int k a) (b:=.int m b) (by simp) (by simp);cases op<;>simp only at h
  case shl=>exact⟨_,g.bind fun w=>by simp only[binOp,Op.shift];rw[if_neg (by have:=h.1;omega)];rfl,h.2⟩
  case shr=>exact⟨_,g.bind fun w=>by simp only[binOp,Op.shift];rw[if_neg (by have:=h.1;omega)];rfl,h.2⟩
  all_goals
   cases hk:BQ k m with
   |false=>rw[hk]at h;simp[PV.holds]at h
   |true=>
    rw[hk]at h;simp only[cond_true,PV.holds]at h;have e:=IB hk;subst e
    first
     |exact⟨_,g.bind fun w=>by simp[binOp,Op.intArith,Op.intBits,Op.intCmp],h⟩
     |exact⟨_,g.bind fun w=>by simp[binOp,Op.intDiv,h.1],h.2⟩
     |exact h.elim
 ·rename_i k a m b;have g:=j (a:=.float k a) (b:=.float m b) (by simp) (by simp);cases hk:Fy k m with
  |false=>rw[hk]at h;simp[PV.holds]at h
  |true=>
   rw[hk]at h;have e:=Fz hk;subst e;cases op<;>simp only[cond_true,PV.holds]at h<;>
    first
     |(obtain⟨r,i,f⟩:=h;exact⟨_,g.bind fun w=>by simp[binOp,Op.floatArith,i],f⟩)
     |exact⟨_,g.bind fun w=>by simp[binOp,Op.floatCmp],h⟩
     |exact h.elim
 ·rename_i a b;have g:=j (a:=.string a) (b:=.string b) (by simp) (by simp);cases op<;>simp only[PV.holds]at h<;>
   first
    |exact⟨_,g.bind fun w=>by simp[binOp,Op.stringOp],h⟩
    |exact⟨_,g.bind fun w=>by simp only[binOp,Op.stringOp];rw[if_neg (by have:=h.1;omega)];rfl,h.2⟩
    |exact h.elim
 ·rename_i a b;have g:=j (a:=.bool a) (b:=.bool b) (by simp) (by simp);split at h
  ·have n:=abD (o _ rfl);cases op<;>simp only[PV.holds]at h<;>
    first
     |exact⟨_,g.bind (by simp only[binOp,Jn];exact(adW n _ a b).bind .pure),h⟩
     |exact h.elim
  ·exact h.elim
 ·rename_i a b;cases hy:adw y with
  |true=>
   rw[hy]at h;obtain⟨r,i,f⟩:=h;exact⟨_,i,f⟩
  |false=>
   rw[hy]at h;cases b with
   |some _=>exact h.elim
   |none=>
    have g:=j (a:=.pointer a) (b:=.pointer none) (by simp) (by simp);simp only[cond_false]at h;split at h
    ·rename_i e;have n:=adV (o _ rfl);cases op<;>simp only[PV.holds]at h<;>
      first
       |exact⟨_,g.bind (by simp only[binOp,Jn];exact(afc n _ a).bind .pure),h⟩
       |exact h.elim
    ·exact h.elim
 ·rename_i a l c s p;have g:=j (a:=.slice a l c) (b:=.slice none s p) (by simp) (by simp);split at h
  ·rename_i e;have n:=iS (o _ rfl);cases op<;>simp only[PV.holds]at h<;>
    first
     |exact⟨_,g.bind (by simp only[binOp,Jn];exact(abE n _ a l c s p).bind .pure),h⟩
     |exact h.elim
  ·exact h.elim
 ·obtain⟨r,i,f⟩:=h;exact⟨_,i,f⟩
 ·split at h
  ·obtain⟨r,i,f⟩:=h;exact⟨_,i,f⟩
  ·obtain⟨r,i,f⟩:=h;exact⟨_,i,f⟩
  ·obtain⟨r,i,f⟩:=h;exact⟨_,i,f⟩
 ·exact h.elim
end
theorem QX(a:List Value)(off n:Nat):((a.drop off).take n).toArray=(a.toArray).extract off (off+n):=by
 apply yg;simp[List.extract_eq_take_drop]
section
variable {C:BR} {ev:Operand->Option Value} {e:Operand->Value}
theorem nB(b:C.Ok):∀{c:List Field} {a:List (Nat×Nat)},placesOf C.T (c.map fun f=>(f.offset,f.type))=some a->
  aI C.P (c.mapM fun f=>(do pure (f.offset,<-sizeOf f.type):Sem (Nat×Nat))) a
 |[],a,h=>by cases h;exact .pure
 |f::r,a,h=>by
  simp only[w4,placesOf]at h;split at h
  ·rename_i j e;split at h
   ·rename_i g d;cases h;rw[List.mapM_cons];exact aI.bind ((dC b e).bind .pure) ((nB b d).bind .pure)
   ·cases h
  ·cases h
theorem IE(b:C.Ok){t:TypeId}{j:TI}(g:C.T.get t=some j)(c:∀h,j.cE≠.struct h)(d:∀n e,j.cE≠.array n e)(h3:j.cE≠.other)
  {a:Array Value} {off:Nat} {v:Value} (f:a[off]?=some v):aI C.P (part t a off) v:=by
 refine((kp b g).2.2 c d h3).bind ?_;rw[f];exact .pure
theorem QY(a:C.Ok){t:TypeId}{j:TI}(b:C.T.get t=some j)(h:(∃c,j.cE=.struct c)∨∃n e,j.cE=.array n e)
  {d:Array Value} {off:Nat}:aI C.P (part t d off) (.agg (d.extract off (off+j.size))):=by
 have f:aI C.P (isAgg t) true:=by
  rcases h with⟨c,h⟩|⟨n,e,h⟩
  ·exact(kp a b).1 c h
  ·exact(kp a b).2.1 n e h
 exact f.bind ((dC a b).bind .pure)
theorem Kr(I:C.Ok)(G:∀x v,ev x=some v->e x=v){o:Oper}{K:Value->Prop}(h:(BS C.P C.T o.op ev).holds K):
  ∃v,sn C.P (execOp e o) v/\K v:=by
 have M:∀t q,(C.T.get t).map (·.cE)=some q->iG (C.P.underlying t)=q:=fun t q h=>by
  cases F:C.T.get t with
  |none=>rw[F]at h;cases h
  |some i=>rw[F]at h;cases h;exact I.cE F
 cases hop:o.op<;>rw[hop]at h<;>simp only[BS]at h<;>simp only[execOp,hop]
 case move x=>
  split at h
  ·rename_i v A;rw[G _ _ A];exact⟨v,fun _=>rfl,h⟩
  ·exact h.elim
 case assign x=>
  split at h
  ·rename_i v A;rw[G _ _ A];exact⟨v,fun _=>rfl,h⟩
  ·exact h.elim
 case pick c a b=>
  split at h
  ·rename_i t x y Q h2 h3;rw[G _ _ Q,G _ _ h2,G _ _ h3];cases t
   ·exact⟨y,fun _=>rfl,h⟩
   ·exact⟨x,fun _=>rfl,h⟩
  ·exact h.elim
 case nilCheck x=>
  split at h
  ·rename_i p hp;obtain⟨a,rfl,B⟩:=h;rw[G _ _ hp];exact⟨_,fun _=>rfl,B⟩
  ·exact h.elim
 case fieldAddr s x f=>
  split at h
  ·rename_i a ha;rw[G _ _ ha];split at h
   ·rename_i i F;split at h
    ·rename_i fs X;split at h
     ·rename_i off t ah;split at h
      ·rename_i j R;cases hz:wm j.size 0 with
       |true=>rw[hz]at h;exact h.elim
       |false=>
        rw[hz]at h;have E:=I.cE F;rw[X]at E;obtain⟨gs,hg,rfl⟩:=oT E;simp only[qN,yM]at ah;obtain⟨g,ay,a0⟩:=ah;cases a0;refine⟨_,aI.next ((aN hg).bind ?_),h⟩;have ab:gs[f]?=some g:=by simpa using ay
        simp only[ab];refine aI.bind (v:=a) .pure (aI.bind (v:=a.add g.offset) ?_ .pure);unfold fieldPlace;refine(dC I R).bind ?_;have:j.size≠0:=fun e=>by rw[e]at hz;cases hz
        rw[if_neg this];exact .pure
      ·exact h.elim
     ·exact h.elim
    ·exact h.elim
   ·exact h.elim
  ·exact h.elim
 case indexAddr t x ix=>
  split at h
  ·rename_i k n hn;rw[G _ _ hn];split at h
   ·rename_i p len cap S;rw[G _ _ S];split at h
    ·rename_i i F;split at h
     ·rename_i el D;split at h
      ·rename_i j R;obtain⟨a,⟨rfl,h0,Q⟩,B⟩:=h;have E:=I.cE F;rw[D]at E;have H:=iS E;refine⟨_,aI.next ?_,B⟩;unfold Instr.indexAt;refine aI.bind (v:=(k,n)) .pure ?_;refine(aN H).bind ?_;refine aI.bind (v:=(some a,len,el)) .pure ?_;intro w;have:=dC I R w;simp only[Sem.run_bind,aN H w,Result.andThen_ok];cases hl:decide (len<=1)<;>simp[h0,Q,this]
      ·exact h.elim
     ·exact h.elim
    ·exact h.elim
   ·rename_i a S;rw[G _ _ S];split at h
    ·rename_i i F;split at h
     ·rename_i m el D;split at h
      ·rename_i j R;obtain⟨⟨h0,Q⟩,B⟩:=h;have E:=I.cE F;rw[D]at E;have H:=so E;refine⟨_,aI.next ?_,B⟩;unfold Instr.indexAt;refine aI.bind (v:=(k,n)) .pure ?_;refine(aN H).bind ?_;refine aI.bind (v:=(some a,m,el)) .pure ?_;intro w;have:=dC I R w;simp only[Sem.run_bind,aN H w,Result.andThen_ok];cases hl:decide (m<=1)<;>simp[h0,Q,this]
      ·exact h.elim
     ·exact h.elim
    ·exact h.elim
   ·exact h.elim
  ·exact h.elim
 case index t x ix=>
  split at h
  ·rename_i k n hn;rw[G _ _ hn];split at h
   ·rename_i s S;rw[G _ _ S];split at h
    ·rename_i i F;split at h
     ·rename_i D;obtain⟨b,⟨h0,Q⟩,B⟩:=h;have E:=I.cE F;rw[D]at E;have H:=uH E;refine⟨_,aI.next ?_,B⟩;unfold Instr.index;refine aI.bind (v:=(k,n)) .pure ?_;refine(aN H).bind ?_;have hb:s[n.toNat]?=some b:=by
       rw[yS]at Q;obtain⟨bd,hg⟩:=Q;have a6:n.toNat<s.size:=bd;rw[getElem?_pos s n.toNat a6];exact congrArg some hg
      simp only[h0,if_true,hb];exact .pure
     ·exact h.elim
    ·exact h.elim
   ·rename_i cs S;rw[G _ _ S];split at h
    ·rename_i i F;split at h
     ·rename_i m el D;split at h
      ·rename_i j R;split at h
       ·rename_i s hs;have E:=I.cE F;rw[D]at E;have H:=so E;have am:(∃y,(0<=n/\n<(m:Int)/\cs[n.toNat]?=some (s.enc y))/\K (s.enc y))->(∀fs,j.cE≠.struct fs)->(∀n e,j.cE≠.array n e)->j.cE≠.other->j.size=1->
          ∃v,sn C.P (do pure (.value (<-Instr.index t (.agg cs) (.int k n)))) v/\K v:=by
         rintro⟨y,⟨h0,Q,h2⟩,B⟩ d1 d2 d3 a8;refine⟨_,aI.next ?_,B⟩;unfold Instr.index;refine aI.bind (v:=(k,n)) .pure ?_;refine(aN H).bind ?_;simp only[h0,Q,and_self,if_true];refine(dC I R).bind ?_;rw[a8,wN];exact IE I R d1 d2 d3 h2
        split at h
        ·exact h.elim
        ·exact h.elim
        ·exact h.elim
        ·rename_i d1 d2 d3;cases hz:wm j.size 1 with
         |false=>rw[hz]at h;exact h.elim
         |true=>
          rw[hz]at h;exact am h d1 d2 d3 (zD hz)
       ·exact h.elim
      ·exact h.elim
     ·exact h.elim
    ·exact h.elim
   ·exact h.elim
  ·exact h.elim
 case field s x f=>
  split at h
  ·rename_i cs S;rw[G _ _ S];split at h
   ·rename_i i F;split at h
    ·rename_i fs X;split at h
     ·rename_i off t ah;split at h
      ·rename_i j R;have E:=I.cE F;rw[X]at E;obtain⟨gs,hg,rfl⟩:=oT E;simp only[qN,yM]at ah;obtain⟨g,ay,a0⟩:=ah;cases a0;have ab:gs[f]?=some g:=by simpa using ay
       have am:∀v,aI C.P (part g.type ⟨cs⟩ g.offset) v->K v->∃v,sn C.P (do pure (.value (<-Instr.field s (.agg ⟨cs⟩) f))) v/\K v:=by
        intro v A B;refine⟨v,aI.next ((aN hg).bind ?_),B⟩;simp only[ab];exact aI.bind (v:=(⟨cs⟩:Array Value)) .pure A
       split at h
       ·rename_i b0 ax;refine am _ (QY I R (.inl ⟨_,ax⟩)) ?_;rw[<-QX];exact h
       ·rename_i n' e' ax;refine am _ (QY I R (.inr ⟨_,_,ax⟩)) ?_;rw[<-QX];exact h
       ·exact h.elim
       ·rename_i d1 d2 d3;split at h
        ·rename_i v A;exact am v (IE I R d1 d2 d3 (by simpa using A)) h
        ·exact h.elim
      ·exact h.elim
     ·exact h.elim
    ·exact h.elim
   ·exact h.elim
  ·exact h.elim
 case slice t x V hi0 mx=>
  split at h
  ·exact h.elim
  ·split at h
   ·rename_i l r hl hr;have a5:(V=none/\l=none)∨∃y k m,V=some y/\e y=.int k m/\l=some m:=by
     cases V with
     |none=>cases hl;exact .inl ⟨rfl,rfl⟩
     |some y=>
      simp only[Kq]at hl;split at hl
      ·rename_i k m hm;cases hl;exact .inr ⟨y,k,m,rfl,G _ _ hm,rfl⟩
      ·cases hl
    have ap:(hi0=none/\r=none)∨∃y k m,hi0=some y/\e y=.int k m/\r=some m:=by
     cases hi0 with
     |none=>cases hr;exact .inl ⟨rfl,rfl⟩
     |some y=>
      simp only[Kq]at hr;split at hr
      ·rename_i k m hm;cases hr;exact .inr ⟨y,k,m,rfl,G _ _ hm,rfl⟩
      ·cases hr
    have J:∀(bb:Bool) (len cap:Nat) (V F:Option Value) (a b:Nat),(V=none->a=0)->(∀v,V=some v->∃k m,v=.int k m/\0<=m/\a=m.toNat/\m<=(b:Int))->
      (F=none->b=len)->(∀v,F=some v->∃k m,v=.int k m/\0<=m/\b=m.toNat/\m<=(cap:Int))->
      aI C.P (zP bb len cap V F none) (a,b,cap):=by
     intro bb len cap V F a b Q h2 h3 h4 w;cases F with
     |none=>
      have e1:=h3 rfl;subst e1;cases V with
      |none=>rw[Q rfl];simp[zP]
      |some v=>
       obtain⟨k,m,rfl,x1,rfl,x2⟩:=h2 v rfl;simp[zP,yW,asIntOf,x1,x2]
     |some u=>
      obtain⟨k',W,rfl,y1,rfl,y2⟩:=h4 u rfl;cases V with
      |none=>rw[Q rfl];simp[zP,yW,asIntOf,y1,y2]
      |some v=>
       obtain⟨k,m,rfl,x1,rfl,x2⟩:=h2 v rfl;have x3:¬max W 0<m:=by omega
       simp[zP,yW,asIntOf,x1,y1,y2,x3]
    split at h
    ·rename_i p len cap S;rw[G _ _ S];split at h
     ·rename_i i F;split at h
      ·rename_i el D;split at h
       ·rename_i j R;have E:=I.cE F;rw[D]at E;have H:=iS E;have fin:∀(a b:Nat) (v:Value),aI C.P (zP true len cap (V.map e) (hi0.map e) none) (a,b,cap)->
          v=.slice (if cap=a then p else p.map (·.add (a*j.size))) (b-a) (cap-a)->K v->
          ∃v,sn C.P (do pure (.value (<-wy t (.slice p len cap) (V.map e) (hi0.map e) (Option.map e none)))) v/\K v:=by
         intro a b v hb A B;refine⟨v,aI.next ?_,B⟩;unfold wy;refine(aN H).bind ?_;simp only[vz,Option.map_none];refine(aN H).bind ?_;refine hb.bind ?_;subst A;exact(dC I R).bind .pure
        have ad:(if cap=0 then p else p.map (·.add (0*j.size)))=p:=by
         cases p<;>simp[Addr.add]
        rcases a5 with⟨rfl,rfl⟩|⟨y,k,m,rfl,hy,rfl⟩<;>rcases ap with⟨rfl,rfl⟩|⟨y',k',W,rfl,hy',rfl⟩
        ·exact fin 0 len _ (J _ _ _ _ _ _ _ (fun _=>rfl) (by simp) (fun _=>rfl) (by simp)) (by rw[ad];rfl) h
        ·obtain⟨⟨U,Z⟩,B⟩:=h;exact fin 0 W.toNat _ (J _ _ _ _ _ _ _ (fun _=>rfl) (by simp) (by simp) (fun v A=>by cases A;exact⟨k',W,hy',U,rfl,Z⟩)) (by rw[ad];rfl) B
        ·obtain⟨⟨U,Z⟩,B⟩:=h;exact fin m.toNat len _ (J _ _ _ _ _ _ _ (by simp) (fun v A=>by cases A;exact⟨k,m,hy,U,rfl,Z⟩) (fun _=>rfl) (by simp)) rfl B
        ·obtain⟨⟨U,Z,a3⟩,B⟩:=h;exact fin m.toNat W.toNat _ (J _ _ _ _ _ _ _ (by simp) (fun v A=>by cases A;exact⟨k,m,hy,U,rfl,by omega⟩) (by simp) (fun v A=>by cases A;exact⟨k',W,hy',by omega,rfl,a3⟩)) rfl B
       ·exact h.elim
      ·exact h.elim
     ·exact h.elim
    ·rename_i s S;rw[G _ _ S];split at h
     ·rename_i i F;split at h
      ·rename_i D;have E:=I.cE F;rw[D]at E;have H:=uH E;have fin:∀(a b:Nat) (v:Value),aI C.P (zP false s.size s.size (V.map e) (hi0.map e) none) (a,b,s.size)->
         v=.string (s.extract a b)->K v->
         ∃v,sn C.P (do pure (.value (<-wy t (.string s) (V.map e) (hi0.map e) (Option.map e none)))) v/\K v:=by
        intro a b v hb A B;refine⟨v,aI.next ?_,B⟩;unfold wy;refine(aN H).bind ?_;simp only[vz,Option.map_none];refine(aN H).bind ?_;subst A;intro w;simp[hb w]
       rcases a5 with⟨rfl,rfl⟩|⟨y,k,m,rfl,hy,rfl⟩<;>rcases ap with⟨rfl,rfl⟩|⟨y',k',W,rfl,hy',rfl⟩
       ·exact fin 0 s.size _ (J _ _ _ _ _ _ _ (fun _=>rfl) (by simp) (fun _=>rfl) (by simp)) rfl h
       ·obtain⟨⟨U,Z⟩,B⟩:=h;exact fin 0 W.toNat _ (J _ _ _ _ _ _ _ (fun _=>rfl) (by simp) (by simp) (fun v A=>by cases A;exact⟨k',W,hy',U,rfl,Z⟩)) rfl B
       ·obtain⟨⟨U,Z⟩,B⟩:=h;exact fin m.toNat s.size _ (J _ _ _ _ _ _ _ (by simp) (fun v A=>by cases A;exact⟨k,m,hy,U,rfl,Z⟩) (fun _=>rfl) (by simp)) rfl B
       ·obtain⟨⟨U,Z,a3⟩,B⟩:=h;exact fin m.toNat W.toNat _ (J _ _ _ _ _ _ _ (by simp) (fun v A=>by cases A;exact⟨k,m,hy,U,rfl,by omega⟩) (by simp) (fun v A=>by cases A;exact⟨k',W,hy',by omega,rfl,a3⟩)) rfl B
      ·exact h.elim
     ·exact h.elim
    ·rename_i a S;rw[G _ _ S];split at h
     ·rename_i i F;split at h
      ·rename_i n el D;split at h
       ·rename_i j R;have E:=I.cE F;rw[D]at E;have H:=so E;have fin:∀(a' b:Nat) (v:Value),aI C.P (zP false n n (V.map e) (hi0.map e) none) (a',b,n)->
          v=.slice (some (if n=a' then a else a.add (a'*j.size))) (b-a') (n-a')->K v->
          ∃v,sn C.P (do pure (.value (<-wy t (.pointer (some a)) (V.map e) (hi0.map e) (Option.map e none)))) v/\K v:=by
         intro a' b v hb A B;refine⟨v,aI.next ?_,B⟩;unfold wy;refine(aN H).bind ?_;simp only[Option.map_none];refine aI.bind (v:=a) .pure ?_;refine hb.bind ?_;subst A;exact(dC I R).bind .pure
        have ad:(if n=0 then a else a.add (0*j.size))=a:=by simp[Addr.add]
        rcases a5 with⟨rfl,rfl⟩|⟨y,k,m,rfl,hy,rfl⟩<;>rcases ap with⟨rfl,rfl⟩|⟨y',k',W,rfl,hy',rfl⟩
        ·exact fin 0 n _ (J _ _ _ _ _ _ _ (fun _=>rfl) (by simp) (fun _=>rfl) (by simp)) (by rw[ad];rfl) h
        ·obtain⟨⟨U,Z⟩,B⟩:=h;exact fin 0 W.toNat _ (J _ _ _ _ _ _ _ (fun _=>rfl) (by simp) (by simp) (fun v A=>by cases A;exact⟨k',W,hy',U,rfl,Z⟩)) (by rw[ad];rfl) B
        ·obtain⟨⟨U,Z⟩,B⟩:=h;exact fin m.toNat n _ (J _ _ _ _ _ _ _ (by simp) (fun v A=>by cases A;exact⟨k,m,hy,U,rfl,Z⟩) (fun _=>rfl) (by simp)) rfl B
        ·obtain⟨⟨U,Z,a3⟩,B⟩:=h;exact fin m.toNat W.toNat _ (J _ _ _ _ _ _ _ (by simp) (fun v A=>by cases A;exact⟨k,m,hy,U,rfl,by omega⟩) (by simp) (fun v A=>by cases A;exact⟨k',W,hy',by omega,rfl,a3⟩)) rfl B
       ·exact h.elim
      ·exact h.elim
     ·exact h.elim
    ·exact h.elim
   ·exact h.elim
 case extract x n=>
  split at h
  ·rename_i vs S;rw[G _ _ S];split at h
   ·rename_i v A;refine⟨v,aI.next ?_,h⟩;have:(⟨vs⟩:Array Value)[n]?=some v:=by simpa using A
    simp only[Instr.extract,this];exact .pure
   ·exact h.elim
  ·exact h.elim
 case binOp op t x y u=>
  split at h
  ·rename_i a b ha hb;rw[G _ _ ha,G _ _ hb];obtain⟨v,A,B⟩:=WS (P:=C.P) (x:=x) (y:=y) (M t) h;exact⟨v,A.next,B⟩
  ·exact h.elim
 case unOp op t x=>
  split at h
  ·rename_i v A;rw[G _ _ A];unfold unV at h;split at h
   ·split at h
    ·exact⟨_,aI.next .pure,h⟩
    ·exact h.elim
   ·split at h
    ·exact⟨_,aI.next .pure,h⟩
    ·exact⟨_,aI.next .pure,h⟩
    ·exact h.elim
   ·exact h.elim
  ·exact h.elim
 case convert s d x=>
  split at h
  ·rename_i v ks A bq;rw[G _ _ A];have hs:=HL (M _ _ bq);unfold adx at h;split at h
   ·split at h
    ·rename_i n _ k B;have H:=HL (M _ _ B);refine⟨_,aI.next ?_,h⟩;unfold convert;refine(aN hs).bind ((aN H).bind ?_);exact .pure
    ·exact h.elim
   ·exact h.elim
  ·exact h.elim
 case build t parts=>
  split at h
  ·rename_i vs a7;have hp:(parts.map fun(i,x)=>(i,e x)).toList=vs:=by
    have:=ID G a7;simpa using this
   split at h
   ·rename_i i F;obtain⟨z,hz,a9⟩:=rY I F;have ao:i.zero.toArray=z.cells:=by rw[<-a9]
    cases hbig:vw 24 i.size with
    |true=>
     rw[hbig]at h;obtain⟨v,A,B⟩:=h;have br:(parts.map fun(i,x)=>(i,e x))=vs.toArray:=by rw[<-hp]
     refine⟨v,aI.next ?_,B⟩;show aI C.P (vy t (parts.map fun(i,x)=>(i,e x))) v;rw[br];exact A
    |false=>
    rw[hbig]at h;simp only[cond_false]at h;split at h
    ·rename_i fs X;have E:=I.cE F;rw[X]at E;obtain⟨gs,hg,rfl⟩:=oT E;split at h
     ·rename_i ps bk;split at h
      ·rename_i cells N;refine⟨_,aI.next (hz.bind ((aN hg).bind ?_)),h⟩;have bl:aI C.P (gs.mapM fun f=>(do pure (f.offset,<-sizeOf f.type):Sem (Nat×Nat))) ps.toArray:=by
        rw[yZ];intro w;have:=nB I bk w;rw[map_eq_pure_bind,Sem.run_bind,this];rfl
       refine bl.bind ?_;have a4:wh (fun n=>ps.toArray[n]?) z.cells (parts.map fun(i,x)=>(i,e x)).toList=some cells:=by
        rw[hp,<-ao];simpa using N
       rw[a4];exact .pure
      ·exact h.elim
     ·exact h.elim
    ·rename_i n el X;have E:=I.cE F;rw[X]at E;have H:=so E;split at h
     ·rename_i j R;split at h
      ·rename_i cells N;refine⟨_,aI.next (hz.bind ((aN H).bind ((dC I R).bind ?_))),h⟩;have a4:wh (fun i=>some (i*j.size,j.size)) z.cells (parts.map fun(i,x)=>(i,e x)).toList=some cells:=by
        rw[hp,<-ao];exact N
       rw[a4];exact .pure
      ·exact h.elim
     ·exact h.elim
    ·exact h.elim
   ·exact h.elim
  ·exact h.elim
 case makeFunc fn first captured=>
  split at h
  ·rename_i a b ha hb;have Q:first.map e=a.toArray:=by apply yg;simpa using Db G ha
   have h2:captured.map e=b.toArray:=by apply yg;simpa using Db G hb
   refine⟨_,aI.next ?_,h⟩;rw[Q,h2];exact .pure
  ·exact h.elim
 case call c=>
  split at h
  ·rename_i b hb;have L:∀{v:Value},aI C.P (builtin b c.argTypes o.type (c.args.map fun| .const _=>true|_=>false) (c.args.map e)) (.value v)->
     sn C.P (do let d<-resolve e c o.type;invoke d.target d.args) v:=by
    intro v A w;have:=A w;unfold resolve;rw[hb];exact this
   have O:∀{vs:List Value},pX ev c.args.toList=some vs->c.args.map e=vs.toArray:=fun A=>by
    apply yg;simpa using Db G A
   have Y:∀{s:Sem Value} {v:Value},aI C.P s v->aI C.P (do pure (Next.value (<-s))) (.value v):=fun hs=>hs.bind .pure;split at h
   case h_1=>
    split at h
    ·rename_i t ts x Q h2;split at h
     ·rename_i v A;have ha:c.args.map e=#[v]:=by
       apply yg;rw[vt,h2];simp[G _ _ A]
      have ht:c.argTypes[0]?=some t:=by
       rw[<-vo,Q];rfl
      unfold afa at h;split at h
      ·rename_i p n cap;split at h
       ·rename_i el D;have H:=iS (M _ _ D);refine⟨_,L ?_,h⟩;rw[ha];refine Y ?_;intro w;simp[Builtin.len_,ht,underlying,H,goInt]
       ·exact h.elim
      ·rename_i s;split at h
       ·rename_i D;have H:=uH (M _ _ D);refine⟨_,L ?_,h⟩;rw[ha];refine Y ?_;intro w;simp[Builtin.len_,ht,underlying,H,goInt]
       ·exact h.elim
      ·exact h.elim
     ·exact h.elim
    ·exact h.elim
   case h_2=>
    split at h
    ·rename_i t ts x Q h2;split at h
     ·rename_i v A;have ha:c.args.map e=#[v]:=by
       apply yg;rw[vt,h2];simp[G _ _ A]
      have ht:c.argTypes[0]?=some t:=by
       rw[<-vo,Q];rfl
      unfold afb at h;split at h
      ·rename_i p n cap;split at h
       ·rename_i el D;have H:=iS (M _ _ D);refine⟨_,L ?_,h⟩;rw[ha];refine Y ?_;intro w;simp[Builtin.cap_,ht,underlying,H,goInt]
       ·exact h.elim
      ·exact h.elim
     ·exact h.elim
    ·exact h.elim
   case h_3=>
    split at h
    ·rename_i k a k' b A;refine⟨_,L ?_,h⟩;rw[O A];refine Y ?_;intro w;simp[Builtin.min_,Builtin.min2]
    ·exact h.elim
   case h_4=>
    split at h
    ·rename_i k a k' b A;refine⟨_,L ?_,h⟩;rw[O A];refine Y ?_;intro w;simp[Builtin.max_,Builtin.max2]
    ·exact h.elim
   case h_5=>
    split at h
    ·rename_i k a b A;refine⟨_,L ?_,h⟩;rw[O A];exact Y .pure
    ·exact h.elim
   case h_6=>
    split at h
    ·rename_i k a b A;refine⟨_,L ?_,h⟩;rw[O A];exact Y .pure
    ·exact h.elim
   all_goals exact h.elim
  ·exact h.elim
 all_goals exact h.elim
end
def aj(h:Heap)(a:Addr):Nat->List Value->Prop
 |_,[]=>True
 |n,v::r=>cellOf h (a.add n)=some v/\aj h a (n+1) r
structure Ag where
 a:Addr
 ty:Ty
 n:Nat
def Ag.holds(r:Ag)(h:Heap)(y:r.ty.den):Prop:=
 match r.ty,y with
 | .sc s,y=>cellOf h r.a=some (s.enc y)
 | .agg l,y=>aj h r.a 0 (AU l y)
 | .arr s,y=>y.length=r.n/\aj h r.a 0 (y.map s.enc)
def uR(T:lO)(op:Op)(ev:Operand->Option Value):Option Ag:=
 match op with
 | .load t x=>match ev x with
  |some (.pointer (some a))=>match T.get t with
   |some i=>match i.cE with
    | .struct _=>match i.ty with
     | .agg l=>bif wm l.length i.size then some ⟨a,i.ty,i.size⟩else none
     |_=>none
    | .array _ _=>match i.ty with
     | .arr _=>some ⟨a,i.ty,i.size⟩
     |_=>none
    | .other=>none
    |_=>match i.ty with
     | .sc _=>some ⟨a,i.ty,1⟩
     |_=>none
   |none=>none
  |_=>none
 |_=>none
theorem IF:∀(l:List Sc) (x:MS l),(AU l x).length=l.length
 |[],_=>rfl
 |[_],_=>rfl
 |_::t::r,x=>by simp only[AU,zi];rw[IF (t::r) x.2];rfl
theorem run_loadCells{P:Program}{w:World}{a:Addr}:∀(vs:List Value) (i:Nat) (b:Array Value),aj w.heap a i vs->
  (loadCellsFrom a i vs.length b).run P w=.ok (b++vs.toArray) w
 |[],i,b,_=>by simp[loadCellsFrom]
 |v::r,i,b,h=>by
  simp only[zi,loadCellsFrom,Sem.run_bind,run_load,MQ,h.1,Result.andThen_ok];rw[run_loadCells r (i+1) (b.push v) h.2];simp
theorem Dc{C:BR}(k:C.Ok){ev:Operand->Option Value}{e:Operand->Value}(A:∀x v,ev x=some v->e x=v){o:Oper}{r:Ag}
  (b:uR C.T o.op ev=some r) {y:r.ty.den} {w:World} (d:r.holds w.heap y):(execOp e o).run C.P w=.ok (.value (r.ty.enc y)) w:=by
 unfold uR at b;split at b
 ·rename_i t x u;simp only[execOp,u];split at b
  ·rename_i a D;rw[A _ _ D];split at b
   ·rename_i i j;have f:(∀v,(loadVar t a).run C.P w=.ok v w->(do let s<-vA t (.pointer (some a));pure (Next.value s):Sem Next).run C.P w=.ok (.value v) w):=by
     intro v G;have:vA t (.pointer (some a))=loadVar t a:=rfl;rw[this,Sem.run_bind,G];rfl
    split at b
    ·rename_i H g;split at b
     ·rename_i l h;cases hb:wm l.length i.size with
      |false=>rw[hb]at b;cases b
      |true=>
       rw[hb]at b;simp only[cond_true,zJ.injEq]at b;subst b;have p:=zD hb;have c:∀(ty:Ty) (y:ty.den),ty=.agg l->Ag.holds ⟨a,ty,i.size⟩ w.heap y->(loadVar t a).run C.P w=.ok (ty.enc y) w:=by
        rintro ty y rfl d;unfold loadVar;rw[Sem.run_bind,(kp k j).1 H g w];simp only[Result.andThen_ok,if_true,Sem.run_bind,dC k j w];have m:=run_loadCells (P:=C.P) (w:=w) (a:=a) (AU l y) 0 #[] d;rw[IF,p]at m;unfold loadCells;rw[m];simp
       exact f _ (c i.ty y h d)
     ·cases b
    ·rename_i n F g;split at b
     ·rename_i s h;cases b;have c:∀(ty:Ty) (y:ty.den),ty=.arr s->Ag.holds ⟨a,ty,i.size⟩ w.heap y->(loadVar t a).run C.P w=.ok (ty.enc y) w:=by
       rintro ty y rfl ⟨h,d⟩;unfold loadVar;rw[Sem.run_bind,(kp k j).2.1 n F g w];simp only[Result.andThen_ok,if_true,Sem.run_bind,dC k j w];have m:=run_loadCells (P:=C.P) (w:=w) (a:=a) (y.map s.enc) 0 #[] d;rw[qw,h]at m;unfold loadCells;rw[m];simp
      exact f _ (c i.ty y h d)
     ·cases b
    ·cases b
    ·rename_i z E B;split at b
     ·rename_i s h;cases b;have c:∀(ty:Ty) (y:ty.den),ty=.sc s->Ag.holds ⟨a,ty,1⟩ w.heap y->(loadVar t a).run C.P w=.ok (ty.enc y) w:=by
       rintro ty y rfl d;have q:cellOf w.heap a=some (s.enc y):=d;unfold loadVar;rw[Sem.run_bind,(kp k j).2.2 z E B w];simp[MQ,q]
      exact f _ (c i.ty y h d)
     ·cases b
   ·cases b
  ·cases b
 ·cases b
def Typed(t:Ty)(K:Value->Heap->Prop)(v:Value)(h:Heap):Prop:=∃x:t.den,v=t.enc x/\K (t.enc x) h
def Ks(t:Rt)(K:Value->Heap->Prop)(v:Value)(h:Heap):Prop:=∃x:t.den,v=t.enc x/\K (t.enc x) h
def Kt(K:Value->Heap->Prop)(v:Value)(h:Heap):Prop:=∃a:Addr,v=.pointer (some a)/\K (.pointer (some a)) h
def afd(T:lO)(t:TypeId)(tup:List (TypeId×List Ty)):Option Rt:=
 match tup.find? (fun p=>wm p.1 t)with
 |some p=>some (.many p.2)
 |none=>match T.get t with
  |some i=>some (.one i.ty)
  |none=>none
structure Ctx extends BR where
 tup:List (TypeId×List Ty)
 fns:List Bool
structure Ctx.Ok (C:Ctx):Prop extends BR.Ok C.toBR where
 fns:(C.P.funcs.toList.map fun f=>!(f.name== "runtime.NumGoroutine")&&f.body.isSome)=C.fns
def WT(C:Ctx)(g:FuncId)(args:List Value)(t:TypeId)(K:Value->Heap->Prop)(h:Heap):Prop:=
 match C.fns[g]? with
 |some true=>match afd C.T t C.tup with
  |some r=>ac C.P g args.toArray h (Ks r K)
  |none=>False
 |_=>False
def Ku(C:Ctx)(o:Oper)(ev:Operand->Option Value)(K:Value->Heap->Prop)(h:Heap):Prop:=
 match o.op with
 | .store t a x=>match ev a,ev x with
  |some p,some v=>ag C.P (qf t p v) h fun _ h'=>K undef h'
  |_,_=>False
 | .alloc t=>ag C.P (qJ t true (.tuple #[])) h (Kt K)
 | .box t x=>match ev x with
  |some v=>ag C.P (qL t v) h (Kt K)
  |none=>False
 | .makeSlice t l c=>match ev l,ev c with
  |some l,some c=>ag C.P (qB t l c) h (Typed (.sc .slc) K)
  |_,_=>False
 | .buildSlice t n parts=>match FA ev parts.toList with
  |some ps=>ag C.P (qt t n ps.toArray) h (Typed (.sc .slc) K)
  |none=>False
 | .makeMap t none=>ag C.P (Instr.makeMap t none) h (Typed (.sc .mp) K)
 | .lookup t x ix ok=>match ev x,ev ix,afd C.T o.type C.tup with
  |some m,some k,some r=>ag C.P (Instr.lookup t m k ok) h (Ks r K)
  |_,_,_=>False
 | .mapUpdate t m k x=>match ev m,ev k,ev x with
  |some m,some k,some v=>ag C.P (Instr.mapUpdate t m k v) h fun _ h'=>K undef h'
  |_,_,_=>False
 | .convert s d x=>match ev x,C.T.get o.type with
  |some v,some i=>ag C.P (convert s d v) h (Typed i.ty K)
  |_,_=>False
 | .binOp op t x y _=>match ev x,ev y,C.T.get o.type with
  |some a,some b,some i=>ag C.P (do eqGuard op t x y a b;binOp op t a b) h (Typed i.ty K)
  |some a,some b,none=>ag C.P (do eqGuard op t x y a b;binOp op t a b) h (Typed (.sc .bool) K)
  |_,_,_=>False
 | .slice t x lo hi mx=>match optVal ev lo,optVal ev hi,optVal ev mx,ev x with
  |some l,some r,some m,some v=>ag C.P (wy t v l r m) h (Typed (.sc .slc) K)
  |_,_,_,_=>False
 | .call c=>match c.callee with
  | .builtin .append=>match pX ev c.args.toList with
   |some vs=>ag C.P (qq c.argTypes o.type vs.toArray) h (Typed (.sc .slc) K)
   |none=>False
  | .builtin .copy=>match pX ev c.args.toList with
   |some vs=>ag C.P (wT c.argTypes o.type vs.toArray) h (Typed (.sc (.int .i64)) K)
   |none=>False
  | .builtin .clear=>match pX ev c.args.toList with
   |some vs=>ag C.P (yp c.argTypes o.type vs.toArray) h K
   |none=>False
  | .builtin .len=>match pX ev c.args.toList with
   |some vs=>ag C.P (Builtin.len_ c.argTypes o.type vs.toArray) h (Typed (.sc (.int .i64)) K)
   |none=>False
  | .builtin .unsafeString=>match pX ev c.args.toList with
   |some vs=>ag C.P (Builtin.unsafeString_ c.argTypes o.type vs.toArray) h (Typed (.sc .str) K)
   |none=>False
  | .builtin .delete=>match pX ev c.args.toList with
   |some vs=>ag C.P (Builtin.delete_ c.argTypes o.type vs.toArray) h K
   |none=>False
  | .value f=>match ev f,pX ev c.args.toList with
   |some (.func (.func g) ⟨first⟩ ⟨caps⟩),some vs=>WT C g (first++vs++caps) o.type K h
   |_,_=>False
  |_=>False
 |_=>False
where
 optVal (ev:Operand->Option Value):Option Operand->Option (Option Value)
  |none=>some none
  |some x=>match ev x with
   |some v=>some (some v)
   |none=>none
section
variable {P:Program} {h:Heap} {K:Value->Heap->Prop}
theorem fv{s:Sem Value}(a:ag P s h K):BP P (do pure (.value (<-s))) h K:=
 ag.bind (a.mono fun _ _ b=>ag.pure' b)
theorem QZ{s:Sem Unit}(a:ag P s h fun _ h'=>K undef h'):BP P (do s;pure .skip) h K:=
 ag.bind (a.mono fun _ _ b=>ag.pure' b)
theorem Typed.out{t:Ty}{v:Value}{h:Heap}(x:Typed t K v h):K v h:=by obtain⟨y,rfl,a⟩:=x;exact a
theorem Ks.out{t:Rt}{v:Value}{h:Heap}(x:Ks t K v h):K v h:=by obtain⟨y,rfl,a⟩:=x;exact a
theorem Kt.out{v:Value}{h:Heap}(x:Kt K v h):K v h:=by obtain⟨y,rfl,a⟩:=x;exact a
end
theorem Uo{C:Ctx}(d:C.Ok){g:FuncId}{args:List Value}{t:TypeId}{K:Value->Heap->Prop}{h:Heap}(b:WT C g args t K h):
  BP C.P (callFunc g args.toArray) h K:=by
 unfold WT at b;split at b
 ·rename_i f;split at b
  ·rename_i r i;have a:=congrArg (·[g]?) d.fns;simp only[qN,f]at a;cases hf:C.P.funcs.toList[g]? with
   |none=>rw[hf]at a;cases a
   |some fn=>
    rw[hf]at a;simp only[qO,zJ.injEq,qy,wV]at a;have c:C.P.funcs[g]?=some fn:=by simpa using hf
    have e:fn.body.isNone=false:=by cases hbb:fn.body<;>simp[hbb]at a⊢
    unfold callFunc;refine ag.bind (ag.abz ?_);simp only[c,a.1,e];exact ag.pure' (b.mono fun v h' x=>x.out)
  ·exact b.elim
 ·exact b.elim
theorem WU{C:Ctx}(V:C.Ok){ev:Operand->Option Value}{e:Operand->Value}(A:∀x v,ev x=some v->e x=v){o:Oper}
  {K:Value->Heap->Prop} {h:Heap} (j:Ku C o ev K h):BP C.P (execOp e o) h K:=by
 have F:∀{x:Option Operand} {r:Option Value},Ku.optVal ev x=some r->x.map e=r:=by
  intro x r J;cases x with
  |none=>cases J;rfl
  |some y=>
   simp only[Ku.optVal]at J;split at J
   ·rename_i v B;cases J;rw[qO,A _ _ B]
   ·cases J
 unfold Ku at j;split at j
 ·rename_i t a x q;simp only[execOp,q];split at j
  ·rename_i p v U B;rw[A _ _ U,A _ _ B];exact QZ j
  ·exact j.elim
 ·rename_i t q;simp only[execOp,q];exact fv (j.mono fun _ _ x=>x.out)
 ·rename_i t x q;simp only[execOp,q];split at j
  ·rename_i v B;rw[A _ _ B];exact fv (j.mono fun _ _ x=>x.out)
  ·exact j.elim
 ·rename_i t l c q;simp only[execOp,q];split at j
  ·rename_i v u B W;rw[A _ _ B,A _ _ W];exact fv (j.mono fun _ _ x=>x.out)
  ·exact j.elim
 ·rename_i t n parts q;simp only[execOp,q];split at j
  ·rename_i T M;have:(parts.map fun(i,x)=>(i,e x))=T.toArray:=by
    apply yg;have:=ID A M;simpa using this
   rw[this];exact fv (j.mono fun _ _ x=>x.out)
  ·exact j.elim
 ·rename_i t q;simp only[execOp,q];exact fv (j.mono fun _ _ x=>x.out)
 ·rename_i t x ix ok q;simp only[execOp,q];split at j
  ·rename_i m k r H G R;rw[A _ _ H,A _ _ G];exact fv (j.mono fun _ _ x=>x.out)
  ·exact j.elim
 ·rename_i t m k x q;simp only[execOp,q];split at j
  ·rename_i m' Y v H G B;rw[A _ _ H,A _ _ G,A _ _ B];exact QZ j
  ·exact j.elim
 ·rename_i s d x q;simp only[execOp,q];split at j
  ·rename_i v i B L;rw[A _ _ B];exact fv (j.mono fun _ _ x=>x.out)
  ·exact j.elim
 ·rename_i op t x y u q;simp only[execOp,q];split at j
  ·rename_i a b i N Q L;rw[A _ _ N,A _ _ Q];exact fv (j.mono fun _ _ x=>x.out)
  ·rename_i a b N Q L;rw[A _ _ N,A _ _ Q];exact fv (j.mono fun _ _ x=>x.out)
  ·exact j.elim
 ·rename_i t x lo L Z q;simp only[execOp,q];split at j
  ·rename_i l r m v X R H B;rw[F X,F R,F H,A _ _ B];exact fv (j.mono fun _ _ x=>x.out)
  ·exact j.elim
 ·rename_i c q;simp only[execOp,q];have w:∀{vs:List Value},pX ev c.args.toList=some vs->c.args.map e=vs.toArray:=fun B=>by
   apply yg;simpa using Db A B
  split at j
  ·rename_i D;split at j
   ·rename_i vs z;unfold resolve;rw[D,w z];exact fv (j.mono fun _ _ x=>x.out)
   ·exact j.elim
  ·rename_i D;split at j
   ·rename_i vs z;unfold resolve;rw[D,w z];exact fv (j.mono fun _ _ x=>x.out)
   ·exact j.elim
  ·rename_i D;split at j
   ·rename_i vs z;unfold resolve;rw[D,w z];exact fv j
   ·exact j.elim
  ·rename_i D;split at j
   ·rename_i vs z;unfold resolve;rw[D,w z];exact fv (j.mono fun _ _ x=>x.out)
   ·exact j.elim
  ·rename_i D;split at j
   ·rename_i vs z;unfold resolve;rw[D,w z];exact fv (j.mono fun _ _ x=>x.out)
   ·exact j.elim
  ·rename_i D;split at j
   ·rename_i vs z;unfold resolve;rw[D,w z];exact fv j
   ·exact j.elim
  ·rename_i f D;split at j
   ·rename_i g first E vs S z
    unfold resolve;rw[D,w z];simp only[A _ _ S];have:=Uo V j;have I:(⟨first⟩:Array Value)++vs.toArray++(⟨E⟩:Array Value)=(first++vs++E).toArray:=by simp
    have O:BP C.P (callFunc g ((⟨first⟩:Array Value)++vs.toArray++(⟨E⟩:Array Value))) h K:=by rw[I];exact this
    simp only[Deferred.ofValue];exact O
   ·exact j.elim
  ·exact j.elim
 ·exact j.elim
def put(n:Nat)(a:Option Tmp)(K:Env->Heap->Prop)(ρ:Env)(v:Value)(h:Heap):Prop:=
 match a with
 |some d=>bif vw d n then K (.val d v::ρ) h else False
 |none=>K ρ h
theorem uS{n:Nat}{b:Option Tmp}{K:Env->Heap->Prop}{ρ:Env}{v:Value}{h:Heap}(c:put n b K ρ v h){a:Act}(e:Fits n a ρ):
  ∃ρ',Fits n (a.put b v) ρ'/\Ext ρ ρ' a (a.put b v)/\K ρ' h:=by
 unfold put at c;cases b with
 |none=>exact⟨ρ,e,Ext.refl _ _,c⟩
 |some d=>
  simp only at c;cases hb:vw d n with
  |false=>rw[hb]at c;exact c.elim
  |true=>rw[hb]at c;exact⟨_,e.put hb v,Ext.put v v,c⟩
def abF(C:Ctx)(n:Nat)(o:Oper)(K:Env->Heap->Prop)(ρ:Env)(h:Heap):Prop:=
 match BS C.P C.T o.op ρ.eval with
 | .no=>match uR C.T o.op ρ.eval with
  |some r=>∃y:r.ty.den,r.holds h y/\put n o.dst K ρ (r.ty.enc y) h
  |none=>Ku C o ρ.eval (put n o.dst K ρ) h
 |p=>p.holds fun v=>put n o.dst K ρ v h
def Kv(ops:Array Oper)(o:Oper)(ρ:Env)(a skip:Env->Prop):Prop:=
 match o.guard with
 |none=>a ρ
 |some (j,want)=>match(ops[j]?).bind (·.dst)with
  |some d=>match ρ.get d with
   |some (.bool b)=>Br b (bif want then a (.val d (.bool true)::ρ)else skip (.val d (.bool true)::ρ)) (bif want then skip (.val d (.bool false)::ρ)else a (.val d (.bool false)::ρ))
   |some (.tuple _)=>skip ρ
   |_=>False
  |none=>False
theorem Fits.known{n:Nat}{a:Act}{ρ:Env}(c:Fits n a ρ){d:Nat}{v:Value}(e:ρ.get d=some v):Fits n a (.val d v::ρ)/\Ext ρ (.val d v::ρ) a a:=by
 refine⟨⟨c.size,c.defers,fun t x b=>?_⟩,⟨[.val d v],rfl,fun _ _=>rfl⟩⟩;simp only[Env.get]at b;cases hb:wm d t with
 |false=>rw[hb]at b;exact c.get t x b
 |true=>
  rw[hb]at b;have:=zD hb;subst this;rw[cond_true]at b;exact c.get _ x (e.trans b)
theorem IG{ops:Array Oper}{o:Oper}{ρ:Env}{g skip:Env->Prop}{n:Nat}{a:Act}(e:Fits n a ρ)(c:Kv ops o ρ g skip):
  ∃ρ',Fits n a ρ'/\Ext ρ ρ' a a/\((Region.wanted o (yielded ops a.tmps)=true/\g ρ')∨(Region.wanted o (yielded ops a.tmps)=false/\skip ρ')):=by
 unfold Kv at c;unfold Region.wanted;split at c
 ·rename_i m;rw[m];exact⟨ρ,e,Ext.refl _ _,.inl ⟨rfl,c⟩⟩
 ·rename_i j f m;rw[m];split at c
  ·rename_i d p;split at c
   ·rename_i b i;have l:yielded ops a.tmps j=some b:=by
     unfold yielded;rw[p];simp[e.get _ _ i]
    simp only[l];obtain⟨k,h⟩:=e.known i;cases b<;>cases f<;>simp only[Br,cond_true,cond_false]at c
    ·exact⟨_,k,h,.inl ⟨rfl,c⟩⟩
    ·exact⟨_,k,h,.inr ⟨rfl,c⟩⟩
    ·exact⟨_,k,h,.inr ⟨rfl,c⟩⟩
    ·exact⟨_,k,h,.inl ⟨rfl,c⟩⟩
   ·rename_i vs i;have l:yielded ops a.tmps j=none:=by
     unfold yielded;rw[p];simp[e.get _ _ i]
    simp only[l];exact⟨ρ,e,Ext.refl _ _,.inr ⟨by simp,c⟩⟩
   ·exact c.elim
  ·exact c.elim
theorem YZ{C:Ctx}(i:C.Ok){n:Nat}{o:Oper}{K:Env->Heap->Prop}{ρ:Env}{a:Act}{w:World}(j:Fits n a ρ)(d:abF C n o K ρ w.heap)
  {Q:Exit->Act->World->Prop} {next:Act->World->Prop}
  (q:∀a' w' ρ',Fits n a' ρ'->Ext ρ ρ' a a'->cN w w'->K ρ' w'.heap->next a' w'):o.wp C.P a w next Q:=by
 have f:∀x v,ρ.eval x=some v->a.eval x=v:=fun x v h=>j.eval h;have b:∀v w',cN w w'->put n o.dst K ρ v w'.heap->next (a.put o.dst v) w':=fun v w' s m=>by
  obtain⟨ρ',p,l,h3⟩:=uS m j;exact q _ _ _ p l s h3
 have c:(BS C.P C.T o.op ρ.eval).holds (fun v=>put n o.dst K ρ v w.heap)->o.wp C.P a w next Q:=fun h=>by
  obtain⟨v,t,g⟩:=Kr i.toOk f h;unfold Oper.wp;rw[t w];exact b v w (cN.refl w) g
 unfold abF at d;split at d
 ·split at d
  ·rename_i r e;obtain⟨y,k,g⟩:=d;unfold Oper.wp;rw[Dc i.toOk f e k];exact b _ w (cN.refl w) g
  ·exact agl (WU i f d) b
 ·exact c d
def HM(C:Ctx)(n:Nat)(ops:Array Oper)(o:Oper)(K:Env->Heap->Prop)(ρ:Env)(h:Heap):Prop:=
 Kv ops o ρ (fun ρ=>abF C n o K ρ h) (fun ρ=>put n o.dst K ρ undef h)
theorem Kw{C:Ctx}(p:C.Ok){n:Nat}{ops:Array Oper}{o:Oper}{i:Nat}(h:ops[i]?=some o){K:Env->Heap->Prop}{ρ:Env}{a:Act}{w:World}
  (j:Fits n a ρ) (f:HM C n ops o K ρ w.heap) {Q:Exit->Act->World->Prop} {next:Act->World->Prop}
  (d:∀a' w' ρ',Fits n a' ρ'->Ext ρ ρ' a a'->cN w w'->K ρ' w'.heap->next a' w'):wpOp C.P ops Q i next a w:=by
 obtain⟨ρ',e,c,h3⟩:=IG j f;unfold wpOp;simp only[h];rcases h3 with⟨hw,hr⟩|⟨hw,hr⟩
 ·simp only[hw,if_true];exact .inl (YZ p e hr fun a' w' b g x2 x3 m=>d _ _ _ g (c.trans x2) x3 m)
 ·simp only[hw,zd,if_false];obtain⟨b,q,l,k⟩:=uS hr e;exact d _ _ _ q (c.trans l) (cN.refl w) k
def abG(C:Ctx)(n:Nat)(ops:Array Oper)(K:Env->Heap->Prop):List Oper->Env->Heap->Prop
 |[],ρ,h=>K ρ h
 |o::r,ρ,h=>HM C n ops o (abG C n ops K r) ρ h
def Out(n:Nat)(Q:Exit->Env->Heap->Prop)(ρ:Env)(a:Act)(w:World):Exit->Act->World->Prop:=fun e a' w'=>
 ∃ρ',Fits n a' ρ'/\Ext ρ ρ' a a'/\cN w w'/\Q e ρ' w'.heap
theorem Oy{C:Ctx}(c:C.Ok){n:Nat}{ops:Array Oper}{K:Env->Heap->Prop}{Q:Exit->Act->World->Prop}{ρ0:Env}{a0:Act}{w0:World}
  (b:∀a w ρ,Fits n a ρ->Ext ρ0 ρ a0 a->cN w0 w->K ρ w.heap->Q .normal a w):
  ∀(r:List Oper) (i:Nat),(∀j,r[j]?=ops[i+j]?)->∀(ρ:Env) (a:Act) (w:World),Fits n a ρ->Ext ρ0 ρ a0 a->cN w0 w->abG C n ops K r ρ w.heap->
   wpOps C.P ops Q (List.range' i r.length) a w
 |[],i,_,ρ,a,w,hf,hx,hl,hs=>b a w ρ hf hx hl hs
 |o::r,i,hr,ρ,a,w,hf,hx,hl,hs=>by
  have d:ops[i]?=some o:=by simpa using(hr 0).symm
  rw[zi,List.range'_succ,wpOps_cons];refine Kw c d hf hs fun a' w' ρ' g e h3 f=>?_;exact Oy c b r (i+1) (fun j=>by have:=hr (j+1);simpa[yn,Nat.add_comm 1 j]using this) ρ' a' w' g (hx.trans e) (hl.trans h3) f
abbrev aq:=List (Addr×Value)
def aq.ok:aq->Heap->Prop
 |[],_=>True
 |p::r,h=>cellOf h p.1=some p.2/\aq.ok r h
def mb(a:Addr):Nat->List Value->aq->aq
 |_,[],L=>L
 |n,v::r,L=>(a.add n,v)::mb a (n+1) r L
theorem nC{a:Addr}{h:Heap}:∀{vs:List Value} {n:Nat} {L:aq},(mb a n vs L).ok h↔aj h a n vs/\L.ok h
 |[],_,L=>by simp[mb,aj]
 |v::r,n,L=>by simp only[mb,aq.ok,aj,nC (vs:=r),and_assoc]
def Ag.held(r:Ag)(y:r.ty.den)(L:aq):aq:=
 match r.ty,y with
 | .sc s,y=>(r.a,s.enc y)::L
 | .agg l,y=>mb r.a 0 (AU l y) L
 | .arr s,y=>mb r.a 0 (y.map s.enc) L
theorem Ag.adX{r:Ag}{y:r.ty.den}{L:aq}{c:Heap}(b:r.holds c y){m:Heap}:(r.held y L).ok m↔r.holds m y/\L.ok m:=by
 obtain⟨a,ty,n⟩:=r;cases ty with
 |sc s=>exact Iff.rfl
 |agg l=>exact nC
 |arr s=>exact nC.trans ⟨fun x=>⟨⟨b.1,x.1⟩,x.2⟩,fun x=>⟨x.1.2,x.2⟩⟩
structure fy where
 op:Nat
 r:Ag
 y:r.ty.den
def flat:List fy->aq
 |[]=>[]
 |p::r=>p.r.held p.y (flat r)
def fy.ok(p:fy)(w:World):Prop:=p.r.holds w.heap p.y
def waits(ops:Array Oper)(j i:Nat):Bool:=match ops[j]? with
 |some o=>o.after.any fun e=>Region.binds .any e&&wm e.on i
 |none=>false
def keep(ops:Array Oper)(j:Nat):List fy->List fy
 |[]=>[]
 |p::r=>bif waits ops j p.op then keep ops j r else p::keep ops j r
theorem rn{ops:Array Oper}{j:Nat}:∀{L:List fy},∀p∈keep ops j L,p∈L
 |[],p,h=>by cases h
 |q::r,p,h=>by
  unfold keep at h;cases hw:waits ops j q.op with
  |true=>rw[hw]at h;exact qU _ (rn p h)
  |false=>
   rw[hw]at h;rcases zc.1 h with rfl|h
   ·exact q8
   ·exact qU _ (rn p h)
theorem Dd{ops:Array Oper}{j:Nat}:∀{L:List fy} {p:fy},p∈L->waits ops j p.op=false->p∈keep ops j L
 |q::r,p,h,hw=>by
  unfold keep;rcases zc.1 h with rfl|h
  ·rw[hw];exact q8
  ·cases hq:waits ops j q.op with
   |true=>exact Dd h hw
   |false=>exact qU _ (Dd h hw)
theorem Jo{ops:Array Oper}{j:Nat}{p:fy}:∀{M:List fy},p∈keep ops j M->waits ops j p.op=false
 |[],h=>by cases h
 |q::r,h=>by
  unfold keep at h;cases hq:waits ops j q.op with
  |true=>rw[hq]at h;exact Jo h
  |false=>
   rw[hq]at h;rcases zc.1 h with rfl|h
   ·exact hq
   ·exact Jo h
theorem FB{ops:Array Oper}{j:Nat}{L a:List fy}(c:∀p∈a,p∈L):∀p∈keep ops j a,p∈keep ops j L:=
 fun p b=>Dd (c p (rn p b)) (Jo b)
def li(P:Program)(ops:Array Oper)(Q:Exit->Act->World->Prop):Nat->List fy->Array Bool->Act->World->Prop
 |0,_,listed,a,w=>Region.ready .any ops listed=[]/\Q .normal a w
 |fuel+1,L,listed,a,w=>
  (Region.ready .any ops listed=[]->Q .normal a w)/\
  ∀i∈Region.ready .any ops listed,wpOp P ops Q i (fun a' w'=>(∀p∈keep ops i L,p.ok w')/\li P ops Q fuel (keep ops i L) (listed.setIfInBounds i true) a' w') a w
theorem Kx{P:Program}{ops:Array Oper}{Q:Exit->Act->World->Prop}:∀(c:Nat) (L:List fy) (b:Array Bool) (a:Act) (w:World),li P ops Q c L b a w->wpAny P .any ops Q c b a w
 |0,_,_,_,_,h=>h
 |c+1,_,_,_,_,h=>⟨h.1,fun i d=>wpOp_mono (fun a' w' h'=>Kx c _ _ a' w' h'.2) (h.2 i d)⟩
theorem De{P:Program}{ops:Array Oper}{Q:Exit->Act->World->Prop}:∀(c:Nat) {L d:List fy} (b:Array Bool) (a:Act) (w:World),(∀p∈d,p∈L)->li P ops Q c L b a w->li P ops Q c d b a w
 |0,_,_,_,_,_,_,h=>h
 |c+1,_,_,_,_,_,hs,h=>⟨h.1,fun i f=>wpOp_mono (fun a' w' h'=>⟨fun p e=>h'.1 p (FB hs p e),De c _ a' w' (FB hs) h'.2⟩) (h.2 i f)⟩
theorem Ra{P:Program}{ops:Array Oper}{Q:Exit->Act->World->Prop}{i:Nat}{u:Oper}{v:Value}{T:World->Prop}{N:List fy}(Z:ops[i]?=some u)(z:∀(j:Nat) (o:Oper) cs b,ops[j]?=some o->o.op≠.select cs b)
  (hQ:∀c a w,Q (.panic c) (a.put u.dst v) w->Q (.panic c) a w) (hN:∀p∈N,p.op=i) (hT:∀w,(∀p∈N,p.ok w)->T w):
  ∀(f:Nat) (L:List fy) (d:Array Bool) (a:Act) (w:World),
   (∀j r,ops[j]?=some r->j≠i->d.getD j true=false->(∀e∈r.after,Region.binds .any e=true->e.on≠i)->u.apart ops r=true)->
   i∈Region.ready .any ops d->YieldsIf P ops T u v a->(∀p∈N,p.ok w)->(∀p∈L,p.ok w)->
   li P ops Q f (N++L) (d.setIfInBounds i true) (a.put u.dst v) w->li P ops Q (f+1) L d a w:=by
 intro f;have x:∀(f:Nat) (L:List fy) (d:Array Bool) (a:Act) (w:World),YieldsIf P ops T u v a->(∀p∈N,p.ok w)->(∀p∈L,p.ok w)->
   li P ops Q f (N++L) (d.setIfInBounds i true) (a.put u.dst v) w->
   wpOp P ops Q i (fun a' w'=>(∀p∈keep ops i L,p.ok w')/\li P ops Q f (keep ops i L) (d.setIfInBounds i true) a' w') a w:=fun f L d a w G n I H=>
  G.wpOp Z (hT w n) ⟨fun p g=>I p (rn p g),De f _ _ _ (fun p g=>wF _ (rn p g)) H⟩
 induction f with
 |zero=>
  intro L d a w _ D G n I H;refine⟨fun h=>(by rw[h]at D;cases D),fun j S=>?_⟩;by_cases l:j=i
  ·subst l;exact x 0 L d a w G n I H
  ·have:=ready_mono S l;rw[H.1]at this;cases this
 |succ f ih=>
  intro L d a w q D G n I H;refine⟨fun h=>(by rw[h]at D;cases D),fun j S=>?_⟩;by_cases l:j=i
  ·subst l;exact x (f+1) L d a w G n I H
  ·have E:=H.2 j (ready_mono S l);obtain⟨y,r,s,M⟩:=mem_ready.1 S;have B:∀e∈r.after,Region.binds .any e=true->e.on≠i:=fun e he R U=>by
    have E:=M e he R;have Y:=(mem_ready.1 D).1;rw[U]at E;rcases Nat.lt_or_ge i d.size with h'|h'
    ·simp[h']at Y E;rw[Y]at E;cases E
    ·simp[Array.getElem?_eq_none h']at E
   have O:(r.after.any fun e=>Region.binds .any e&&wm e.on i)=false:=by
    cases hc:r.after.any fun e=>Region.binds .any e&&wm e.on i with
    |false=>rfl
    |true=>
     obtain⟨k,X,R⟩:=Array.any_eq_true.1 hc;simp only[qy]at R;exact absurd (zD R.2) (B _ (Array.getElem_mem X) R.1)
   have F:waits ops j i=false:=by
    unfold waits;rw[s];exact O
   have A:∀p,p∈N->p∈keep ops j (N++L):=fun p g=>Dd (yA _ g) (by rw[hN p g];exact F);have m:∀p,p∈keep ops j L->p∈keep ops j (N++L):=FB fun p g=>wF _ g;have h2:=wpOp_putIf s (q j r s l y B) (fun cs b=>z i u cs b Z) (fun cs b=>z j r cs b s) hQ G E;have t:∀k ok,ops[k]?=some ok->k≠i->(d.setIfInBounds j true).getD k true=false->
     (∀e∈ok.after,Region.binds .any e=true->e.on≠i)->u.apart ops ok=true:=fun k ok X W K V=>by
    refine q k ok X W ?_ V;by_cases J:j=k
    ·subst J;exact y
    ·rw[getD_set_ne true J]at K;exact K
   refine wpOp_mono (fun a' w' h3=>⟨fun p g=>h3.2.1 p (m p g),ih (keep ops j L) (d.setIfInBounds j true) a' w' t (ready_mono D (Ne.symm l)) h3.1 (fun p g=>h3.2.1 p (A p g)) (fun p g=>h3.2.1 p (m p g)) ?_⟩) h2;rw[Array.setIfInBounds_comm _ _ l];refine De _ _ _ _ (fun p g=>?_) h3.2.2;rcases qE.1 g with g|g
   ·exact A p g
   ·exact m p g
theorem AW{P:Program}{ops:Array Oper}{Q:Exit->Act->World->Prop}{i:Nat}{e:Oper}{v:Value}{T:World->Prop}{N:List fy}{d:Nat}{L:List fy}{b:Array Bool}{a:Act}{w:World}(g:ops[i]?=some e)
  (j:Region.noSelect ops=true) (n:Region.free .any ops b i=true) (m:(Region.ready .any ops b).contains i=true)
  (q:∀c a w,Q (.panic c) (a.put e.dst v) w->Q (.panic c) a w) (o:∀p∈N,p.op=i) (r:∀w,(∀p∈N,p.ok w)->T w) (l:YieldsIf P ops T e v a) (f:∀p∈N,p.ok w) (k:∀p∈L,p.ok w)
  (h:li P ops Q d (N++L) (b.setIfInBounds i true) (a.put e.dst v) w):li P ops Q (d+1) L b a w:=
 Ra g (Region.noSelect_spec j) q o r d L b a w (Region.free_spec g n) (by simpa using m) l f k h
theorem MT:∀{L:List fy} {w0:World},(∀p∈L,p.ok w0)->∀{m:Heap},(flat L).ok m->∀p∈L,p.r.holds m p.y
 |[],_,_,_,_,p,a=>by cases a
 |q::r,w0,h0,m,h,p,a=>by
  have h:=(Ag.adX (h0 q q8)).1 h;rcases zc.1 a with rfl|a
  ·exact h.1
  ·exact MT (fun p a=>h0 p (qU _ a)) h.2 p a
def ady:Op->Bool
 | .move _| .assign _| .pick .. | .nilCheck _| .fieldAddr .. | .indexAddr .. | .index .. | .field .. | .extract .. | .binOp .. | .unOp .. | .convert .. | .build .. | .makeFunc .. | .load .. =>true
 | .slice _ _ _ _ none=>true
 | .call c=>match c.callee with
  | .builtin .len| .builtin .cap| .builtin .min| .builtin .max| .builtin .real| .builtin .imag=>true
  |_=>false
 |_=>false
def nV(ops:Array Oper)(a:Array Bool):List Nat->Option Nat
 |[]=>none
 |i::r=>match ops[i]? with
  |some o=>bif ady o.op&&Region.free .any ops a i then some i else nV ops a r
  |none=>nV ops a r
def WV(C:Ctx)(n:Nat)(ops:Array Oper)(i:Nat)(o:Oper)(L:List fy)(K:List fy->Env->Heap->Prop)(ρ:Env)(h:Heap):Prop:=
 Kv ops o ρ (fun ρ=>match BS C.P C.T o.op ρ.eval with
  | .no=>match uR C.T o.op ρ.eval with
   |some r=>∃y:r.ty.den,r.holds h y/\put n o.dst (K (⟨i,r,y⟩::L)) ρ (r.ty.enc y) h
   |none=>False
  |p=>p.holds fun v=>put n o.dst (K L) ρ v h) (fun ρ=>put n o.dst (K L) ρ undef h)
def Rb(C:Ctx)(n:Nat)(ops:Array Oper)(K:Nat->Env->Heap->Prop)(ρ:Env)(h:Heap):List Nat->Prop
 |[]=>True
 |[i]=>match ops[i]? with
  |some o=>HM C n ops o (K i) ρ h
  |none=>False
 |i::j::r=>(match ops[i]? with
  |some o=>HM C n ops o (K i) ρ h
  |none=>False)/\Rb C n ops K ρ h (j::r)
def uT(C:Ctx)(n:Nat)(ops:Array Oper)(K:Env->Heap->Prop):Nat->Array Bool->List fy->Env->Heap->Prop
 |0,listed,_,ρ,h=>bif (Region.ready .any ops listed).isEmpty then K ρ h else False
 |k+1,listed,L,ρ,h=>match nV ops listed (Region.ready .any ops listed)with
  |some i=>match ops[i]? with
   |some o=>WV C n ops i o L (uT C n ops K k (listed.setIfInBounds i true)) ρ h
   |none=>False
  |none=>match Region.ready .any ops listed with
   |[]=>K ρ h
   |i::r=>Rb C n ops (fun i ρ h=>(flat (keep ops i L)).ok h/\uT C n ops K k (listed.setIfInBounds i true) (keep ops i L) ρ h) ρ h (i::r)
theorem tt{ops:Array Oper}{a:Array Bool}:∀{rs:List Nat} {i:Nat},nV ops a rs=some i->i∈rs/\Region.free .any ops a i=true
 |[],_,h=>by cases h
 |j::r,i,h=>by
  simp only[nV]at h;split at h
  ·rename_i o b;cases hb:(ady o.op&&Region.free .any ops a j)with
   |true=>
    rw[hb]at h;cases h;simp only[qy]at hb;exact⟨q8,hb.2⟩
   |false=>
    rw[hb]at h;have:=tt h;exact⟨qU _ this.1,this.2⟩
  ·have:=tt h;exact⟨qU _ this.1,this.2⟩
theorem Oz{C:Ctx}{n:Nat}{ops:Array Oper}{K:Nat->Env->Heap->Prop}{ρ:Env}{h:Heap}:∀{l:List Nat},Rb C n ops K ρ h l->∀i∈l,∃o,ops[i]?=some o/\HM C n ops o (K i) ρ h
 |[],_,i,hi=>by cases hi
 |[j],ha,i,hi=>by
  simp only[qG]at hi;subst hi;simp only[Rb]at ha;split at ha
  ·rename_i o b;exact⟨o,b,ha⟩
  ·exact ha.elim
 |j::k::r,ha,i,hi=>by
  obtain⟨a,c⟩:=ha;rcases zc.1 hi with rfl|hi
  ·split at a
   ·rename_i o b;exact⟨o,b,a⟩
   ·exact a.elim
  ·exact Oz c i hi
section
variable {C:Ctx} {n:Nat} {ops:Array Oper} {K:Env->Heap->Prop} {Q:Exit->Act->World->Prop} {ρ0:Env} {a0:Act} {w0:World}
theorem OA(J:C.Ok)(G:Region.noSelect ops=true)
  (V:∀a w ρ,Fits n a ρ->Ext ρ0 ρ a0 a->cN w0 w->K ρ w.heap->Q .normal a w) (E:∀c a w,¬Q (.panic c) a w):
  ∀(k:Nat) (b:Array Bool) (L:List fy) (ρ:Env) (a:Act) (w:World),Fits n a ρ->Ext ρ0 ρ a0 a->cN w0 w->(∀p∈L,p.ok w)->
   uT C n ops K k b L ρ w.heap->li C.P ops Q k L b a w
 |0,b,L,ρ,a,w,hf,hx,hl,hL,h=>by
  simp only[uT]at h;cases hb:(Region.ready .any ops b).isEmpty with
  |false=>rw[hb]at h;exact h.elim
  |true=>rw[hb]at h;exact⟨by simpa using hb,V _ _ _ hf hx hl h⟩
 |k+1,b,L,ρ,a,w,hf,hx,hl,hL,h=>by
  have H:=OA J G V E k;simp only[uT]at h;split at h
  ·rename_i i I;obtain⟨B,f⟩:=tt I;have e:(Region.ready .any ops b).contains i=true:=by simpa using B
   split at h
   ·rename_i o D;unfold WV at h;obtain⟨ρ',M,O,h3⟩:=IG hf h;have q:∀c a w (v:Value),Q (.panic c) (Act.put a o.dst v) w->Q (.panic c) a w:=fun c a w v hq=>absurd hq (E c _ w);have X:∀x v,Env.eval ρ' x=some v->a.eval x=v:=fun x v h=>M.eval h;rcases h3 with⟨t,g⟩|⟨t,g⟩
    ·have s:(BS C.P C.T o.op (Env.eval ρ')).holds (fun v=>put n o.dst (uT C n ops K k (b.setIfInBounds i true) L) ρ' v w.heap)->
       li C.P ops Q (k+1) L b a w:=fun d=>by
      obtain⟨v,hv,S⟩:=Kr J.toOk X d;obtain⟨m,F,A,z⟩:=uS S M;exact AW (N:=[]) (T:=fun _=>True) D G f e (fun c a w=>q c a w v) (fun p d=>by cases d) (fun _ _=>trivial) (.inl ⟨t,fun w _=>hv w⟩) (fun p d=>by cases d) hL
       (H _ L m _ w F (hx.trans (O.trans A)) hl hL z)
     split at g
     ·split at g
      ·rename_i r u;obtain⟨y,Y,S⟩:=g;obtain⟨m,F,A,z⟩:=uS S M;have R:∀p∈[(⟨i,r,y⟩:fy)],p.ok w:=fun p d=>by rw[qG]at d;subst d;exact Y
       refine AW (N:=[⟨i,r,y⟩]) (T:=fun w=>r.holds w.heap y) D G f e (fun c a w=>q c a w _) (fun p d=>by rw[qG]at d;subst d;rfl)
        (fun w h=>h ⟨i,r,y⟩ (qG.2 rfl)) (.inl ⟨t,fun w t=>Dc J.toOk X u t⟩) R hL ?_
       refine H _ (⟨i,r,y⟩::L) m _ w F (hx.trans (O.trans A)) hl (fun p d=>?_) z;rcases zc.1 d with rfl|d
       ·exact Y
       ·exact hL p d
      ·exact g.elim
     ·exact s g
    ·obtain⟨m,F,A,z⟩:=uS g M;exact AW (N:=[]) (T:=fun _=>True) D G f e (fun c a w=>q c a w undef) (fun p d=>by cases d) (fun _ _=>trivial) (.inr ⟨t,rfl⟩) (fun p d=>by cases d) hL
      (H _ L m _ w F (hx.trans (O.trans A)) hl hL z)
   ·exact h.elim
  ·split at h
   ·rename_i g;exact⟨fun _=>V _ _ _ hf hx hl h,fun i I=>by rw[g]at I;cases I⟩
   ·rename_i i r g;refine⟨fun h0=>absurd (g▸h0) (by simp),fun j Z=>?_⟩;rw[g]at Z;obtain⟨o,D,U⟩:=Oz h j Z;have l:∀p∈keep ops j L,p.ok w:=fun p d=>hL p (rn p d);exact Kw J D hf U fun a' w' ρ' x1 x2 x3 W=>⟨MT l W.1,H _ (keep ops j L) ρ' a' w' x1 (hx.trans x2) (hl.trans x3) (MT l W.1) W.2⟩
end
def sched(ops:Array Oper):Nat->Array Bool->Option (List (Nat×Bool))
 |0,listed=>bif (Region.ready .any ops listed).isEmpty then some []else none
 |k+1,listed=>match nV ops listed (Region.ready .any ops listed)with
  |some i=>(sched ops k (listed.setIfInBounds i true)).map ((i,true)::·)
  |none=>match Region.ready .any ops listed with
   |[]=>some []
   |[i]=>(sched ops k (listed.setIfInBounds i true)).map ((i,false)::·)
   |_::_::_=>none
def sp(C:Ctx)(n:Nat)(ops:Array Oper)(K:Env->Heap->Prop):List (Nat×Bool)->List fy->Env->Heap->Prop
 |[],_,ρ,h=>K ρ h
 |(i,true)::r,L,ρ,h=>match ops[i]? with
  |some o=>WV C n ops i o L (sp C n ops K r) ρ h
  |none=>False
 |(i,false)::r,L,ρ,h=>match ops[i]? with
  |some o=>HM C n ops o (fun ρ h=>(flat (keep ops i L)).ok h/\sp C n ops K r (keep ops i L) ρ h) ρ h
  |none=>False
theorem OB{C:Ctx}{n:Nat}{ops:Array Oper}{K:Env->Heap->Prop}:∀(k:Nat) (a:Array Bool) (l:List (Nat×Bool)),sched ops k a=some l->
  uT C n ops K k a=sp C n ops K l
 |0,a,l,hs=>by
  simp only[sched]at hs;cases hb:(Region.ready .any ops a).isEmpty with
  |false=>rw[hb]at hs;cases hs
  |true=>
   rw[hb]at hs;cases hs;funext L ρ h;simp only[uT,hb,sp,cond_true]
 |k+1,a,l,hs=>by
  have d:=fun i=>OB (C:=C) (n:=n) (ops:=ops) (K:=K) k (a.setIfInBounds i true);funext L ρ h;unfold sched at hs;unfold uT;cases hi:nV ops a (Region.ready .any ops a)with
  |some i=>
   rw[hi]at hs;obtain⟨c,b,rfl⟩:=yM.1 hs;simp only[sp,d i c b]
  |none=>
   rw[hi]at hs;generalize e:Region.ready .any ops a=rd at hs
   match rd,hs with
   |[],hs=>cases hs;simp only[sp]
   |[i],hs=>
    obtain⟨c,b,rfl⟩:=yM.1 hs;simp only[Rb,sp,d i c b]
def MU(C:Ctx)(n:Nat)(ops:Array Oper)(a:Bool)(K:Env->Heap->Prop)(ρ:Env)(h:Heap):Prop:=
 match a with
 |false=>abG C n ops K ops.toList ρ h
 |true=>bif Region.noSelect ops then(match sched ops ops.size (y9 ops.size false)with
  |some l=>sp C n ops K l [] ρ h
  |none=>uT C n ops K ops.size (y9 ops.size false) [] ρ h)else False
theorem Rc{C:Ctx}(g:C.Ok){n:Nat}{id:Nat}{ops:Array Oper}{b:Bool}{Q:Exit->Env->Heap->Prop}{ρ:Env}{a:Act}{w:World}(i:Fits n a ρ)
  (h:MU C n ops b (Q .normal) ρ w.heap):(Code.region id ops b).wp C.P (fun e a' w'=>(∀c,e≠.panic c)/\Out n Q ρ a w e a' w') a w:=by
 cases b with
 |false=>
  refine wp_region ?_;have:=Oy g (Q:=fun e a' w'=>(∀c,e≠.panic c)/\Out n Q ρ a w e a' w') (K:=Q .normal) (ρ0:=ρ) (a0:=a) (w0:=w) (fun a' w' ρ' d x2 x3 f=>⟨fun c e=>(by cases e),ρ',d,x2,x3,f⟩)
   ops.toList 0 (fun j=>by simp) ρ a w i (Ext.refl _ _) (cN.refl _) h
  rw[yB];simpa using this
 |true=>
  simp only[MU]at h;cases hb:Region.noSelect ops with
  |false=>rw[hb]at h;exact h.elim
  |true=>
   rw[hb]at h;have h:uT C n ops (Q .normal) ops.size (y9 ops.size false) [] ρ w.heap:=by
    simp only[cond_true]at h;split at h
    ·rename_i l o;rw[OB _ _ _ o];exact h
    ·exact h
   refine wp_region_any g.mixed (Kx _ [] _ _ _ ?_);exact OA g hb (Q:=fun e a' w'=>(∀c,e≠.panic c)/\Out n Q ρ a w e a' w') (ρ0:=ρ) (a0:=a) (w0:=w) (fun a' w' ρ' d x2 x3 f=>⟨fun c e=>(by cases e),ρ',d,x2,x3,f⟩)
    (fun c a w k=>k.1 c rfl) _ _ [] ρ a {w with drawn:=w.drawn+1} i (Ext.refl _ _) ⟨rfl,rfl,rfl,Nat.le_succ _⟩ (fun p m=>by cases m) h
def bf{σ:Type}(rest:σ->Heap->Prop)(B:(σ->Heap->Prop)->Prop):Prop:=∃R:σ->Heap->Prop,(∀s h,R s h->rest s h)/\B R
def aL{σ:Type}(B:σ->(σ->Heap->Prop)->Heap->Prop)(s:σ)(h:Heap):Prop:=
 ∃(τ:Type) (V:τ->σ) (I:τ->Heap->Prop) (μ:τ->Nat) (t0:τ),s=V t0/\I t0 h/\∀t h,I t h->B (V t) (fun b h'=>∃a,b=V a/\I a h'/\μ a<μ t) h
theorem Za{P:Program}{c:Code}{Q:Exit->Act->World->Prop}{a:Act}{w:World}{σ:Type}(R:σ->Act->World->Prop)(μ:σ->World->Nat)(t:σ)(u:R t a w)
  (g:∀s a w,R s a w->c.wp P (Exit.then (fun a' w'=>∃m,R m a' w'/\μ m w'<μ s w) Q) a w):(Code.loop c).wp P Q a w:=by
 intro b k cs;have p:∀n s a w,μ s w=n->R s a w->
   ∃e a' w',Q e a' w'/\Arrives P (lone (b.at a (.code c::.inLoop c::k)) cs w) b k cs e a' w':=by
  intro n
  induction n using Nat.strongRecOn with
  |_ n ih=>
   intro s a w A B;obtain⟨e,j,i,f,d⟩:=g s a w B b (.inLoop c::k) cs;cases e with
   |normal=>
    obtain⟨m,q,r⟩:=f;obtain⟨z,v,y,o,h⟩:=ih (μ m i) (A▸r) m j i rfl q;exact⟨z,v,y,o,.of_steps (Steps.trans d (.one step_inLoop)) h⟩
   |exit id=>exact⟨_,j,i,f,.pass (x:=.inLoop c) rfl (fun _ _=>.inl (by simp)) d⟩
   |goto l=>exact⟨_,j,i,f,.pass (x:=.inLoop c) rfl (fun _ _=>.inl (by simp)) d⟩
   |ret=>exact⟨_,j,i,f,.pass (x:=.inLoop c) rfl (fun _ _=>.inl (by simp)) d⟩
   |panic ch=>exact⟨_,j,i,f,.pass (x:=.inLoop c) rfl (fun _ _=>.inl (by simp)) d⟩
   |outgrown=>exact⟨_,j,i,f,.pass (x:=.inLoop c) rfl (fun _ _=>.inl (by simp)) d⟩
 obtain⟨e,a',w',f,d⟩:=p _ t a w rfl u;exact⟨e,a',w',f,.of_steps (.one step_loop) d⟩
inductive al where
 |n
 |two (a b:al)
 |inn (a:al)
 |loop (σ:dt) (κ:cQ) (a:al)
 |join (σ:dt) (κ:cQ) (a:al)
 |scope (l:Nat) (σ:dt) (κ:cQ) (pre rest:List al) (fwd:List (Nat×List al))
 |fwd (a:al) (fwd:List (Nat×List al))
def al.fst:al->al
 | .two a _=>a
 |_=>.n
def al.snd:al->al
 | .two _ b=>b
 |_=>.n
def al.sub:al->al
 | .inn a=>a
 |_=>.n
abbrev QT:=Exit->Env->Heap->Prop
def Ky(σ:dt)(κ:cQ)(ρ:Env)(K:σ.den->Heap->Prop)(Q:QT):QT
 | .normal,ρ',h=>bif within σ κ ρ' (ρ'.length-ρ.length)then(match σ.read ρ' with|some s=>K s h|none=>False)else False
 |e,ρ',h=>Q e ρ' h
def HN(next:Env->Heap->Prop)(Q:QT):QT
 | .normal,ρ,h=>next ρ h
 |e,ρ,h=>Q e ρ h
def Zb(id:Nat)(Q:QT):QT
 | .exit i,ρ,h=>bif wm i id then Q .normal ρ h else Q (.exit i) ρ h
 |e,ρ,h=>Q e ρ h
abbrev Rec:=Code->al->QT->Env->Heap->Prop
def Ah(rec:Rec):List Code->List al->QT->Env->Heap->Prop
 |[],_,Q,ρ,h=>Q .normal ρ h
 |c::cs,[],Q,ρ,h=>rec c .n (HN (Ah rec cs [] Q) Q) ρ h
 |c::cs,x::xs,Q,ρ,h=>rec c x (HN (Ah rec cs xs Q) Q) ρ h
def chain:Code->Nat->Option (List Code×List Code)
 | .seq a b,l=>match chain a l with
  |some (p,r)=>some (p,r++[b])
  |none=>match chain b l with
   |some (p,r)=>some (a::p,r)
   |none=>none
 | .label l',l=>bif wm l' l then some ([],[])else none
 |_,_=>none
def adz(a:List (Nat×List al))(l:Nat):Option (List al):=
 match a with
 |[]=>none
 |p::r=>bif wm p.1 l then some p.2 else adz r l
def HO(rec:Rec)(c:Code)(a:List (Nat×List al))(Q:QT):Nat->QT
 |0=>fun _ _ _=>False
 |g+1=>fun e ρ h=>match e with
  | .goto l=>match adz a l with
   |some xs=>match chain c l with
    |some (_,r)=>Ah rec r xs (HO rec c a Q g) ρ h
    |none=>False
   |none=>Q (.goto l) ρ h
  |e=>Q e ρ h
def WW(l:Nat)(σ:dt)(κ:cQ)(ρ:Env)(K:σ.den->Heap->Prop)(Q:QT):QT
 | .goto l',ρ',h=>bif wm l' l then(bif within σ κ ρ' (ρ'.length-ρ.length)then(match σ.read ρ' with|some s=>K s h|none=>False)else False)else Q (.goto l') ρ' h
 |e,ρ',h=>Q e ρ' h
def Re(c:Code)(Q:QT):QT
 | .goto l,ρ,h=>match findLabel c l with
  |none=>Q (.goto l) ρ h
  |some _=>False
 |e,ρ,h=>Q e ρ h
def Rf(C:Ctx)(n:Nat)(rec:Rec)(c:Code)(d:al)(Q:QT)(ρ:Env)(h:Heap):Prop:=
 match d with
 | .join σ κ a=>bf (fun s h=>Q .normal (σ.vals s (κ.over ρ)) h) (fun K=>rec c a (Ky σ κ ρ K Q) ρ h)
 |d=>match c with
  | .skip=>Q .normal ρ h
  | .label _=>Q .normal ρ h
  | .region _ ops draw=>MU C n ops draw (Q .normal) ρ h
  | .seq a b=>rec a d.fst (HN (rec b d.snd Q) Q) ρ h
  | .cond x a b=>match ρ.eval x with
   |some (.bool t)=>Br t (rec a d.fst Q ρ h) (rec b d.snd Q ρ h)
   |_=>False
  | .block id c=>rec c d.sub (Zb id Q) ρ h
  | .exit id=>Q (.exit id) ρ h
  | .goto l=>Q (.goto l) ρ h
  | .ret=>Q .ret ρ h
  | .loop c=>match d with
   | .loop σ κ a=>match σ.read ρ with
    |some s0=>aL (fun s K h=>rec c a (Ky σ κ (σ.vals s (κ.over ρ)) K Q) (σ.vals s (κ.over ρ)) h) s0 h
    |none=>False
   |_=>False
  | .scope c=>match d with
   | .scope l σ κ pre rest fwd=>match chain c l with
    |some (p,r)=>Ah rec p pre (HN (fun ρ' h'=>match σ.read ρ' with
     |some s0=>aL (fun s K h=>Ah rec r rest (HO rec c fwd (WW l σ κ (σ.vals s (κ.over ρ')) K (Re c Q)) 4) (σ.vals s (κ.over ρ')) h) s0 h'
     |none=>False) (Re c Q)) ρ h
    |none=>False
   | .fwd a fwd=>rec c a (HO rec c fwd (Re c Q) 4) ρ h
   |_=>False
  |_=>False
def vc(C:Ctx)(n:Nat):Nat->Rec
 |0=>fun _ _ _ _ _=>False
 |f+1=>Rf C n (vc C n f)
def HQ(C:Ctx)(n:Nat)(rec:Rec):Prop:=∀(c:Code) (b:al) (Q:QT) (ρ:Env) (a:Act) (w:World),Fits n a ρ->rec c b Q ρ w.heap->c.wp C.P (Out n Q ρ a w) a w
section
variable {C:Ctx} {n:Nat} {Q:QT} {ρ ρ':Env} {a a':Act} {w w':World}
theorem Out.base{e:Exit}{b:Act}{c:World}(f:Ext ρ ρ' a a')(j:cN w w')(h:Out n Q ρ' a' w' e b c):Out n Q ρ a w e b c:=by
 obtain⟨d,g,i,h3,k⟩:=h;exact⟨d,g,f.trans i,j.trans h3,k⟩
theorem Out.then{next:Env->Heap->Prop}{N:Act->World->Prop}{j:Exit->Act->World->Prop}{e:Exit}{b:Act}{c:World}(h:Out n (HN next Q) ρ a w e b c)
  (k:∀ρ',Fits n b ρ'->Ext ρ ρ' a b->cN w c->next ρ' c.heap->N b c) (l:Out n Q ρ a w e b c->e≠.normal->j e b c):Exit.then N j e b c:=by
 obtain⟨d,f,g,h3,i⟩:=h;cases e<;>first|exact k d f g h3 i|exact l ⟨d,f,g,h3,i⟩ (by simp)
def nD(P:Program):List Code->(Exit->Act->World->Prop)->Act->World->Prop
 |[],Q,a,w=>Q .normal a w
 |c::cs,Q,a,w=>c.wp P (Exit.then (nD P cs Q) Q) a w
theorem jS{P:Program}{Q d:Exit->Act->World->Prop}(b:∀e a w,Q e a w->d e a w):∀(l:List Code) (a:Act) (w:World),nD P l Q a w->nD P l d a w
 |[],_,_,h=>b _ _ _ h
 |c::cs,a,w,h=>wp_mono h fun e a w h=>by
  cases e<;>first|exact jS b cs a w h|exact b _ _ _ h
theorem oU{rec:Rec}(d:HQ C n rec):∀(l:List Code) (xs:List al) (Q:QT) (ρ:Env) (a:Act) (w:World),Fits n a ρ->Ah rec l xs Q ρ w.heap->nD C.P l (Out n Q ρ a w) a w
 |[],_,Q,ρ,a,w,hf,h=>⟨ρ,hf,Ext.refl _ _,cN.refl _,h⟩
 |c::cs,[],Q,ρ,a,w,hf,h=>by
  refine wp_mono (d c .n _ ρ a w hf h) fun e a' w' b=>b.then (fun ρ' f x2 x3 g=>?_) (fun b _=>b);exact jS (fun e a w h=>h.base x2 x3) cs a' w' (oU d cs [] Q ρ' a' w' f g)
 |c::cs,x::xs,Q,ρ,a,w,hf,h=>by
  refine wp_mono (d c x _ ρ a w hf h) fun e a' w' b=>b.then (fun ρ' f x2 x3 g=>?_) (fun b _=>b);exact jS (fun e a w h=>h.base x2 x3) cs a' w' (oU d cs xs Q ρ' a' w' f g)
end
theorem AX{P:Program}{b:Code}{Q:Exit->Act->World->Prop}:∀(l:List Code) (a:Act) (w:World),nD P (l++[b]) Q a w->nD P l (Exit.then (b.wp P Q) Q) a w
 |[],a,w,h=>by
  refine wp_mono h fun e a w h=>?_;cases e<;>exact h
 |c::cs,a,w,h=>wp_mono h fun e a w h=>by
  cases e<;>first|exact AX cs a w h|exact h
theorem rZ:∀{c:Code} {l:Nat} {p r:List Code},chain c l=some (p,r)->∃k,findLabel c l=some k/\
  (∀{P:Program} {Q:Exit->Act->World->Prop} {a:Act} {w:World},nD P r Q a w->k.wp P Q a w)/\
  (∀{P:Program} {Q:Exit->Act->World->Prop} {a:Act} {w:World},nD P p (Exit.then (nD P r Q) Q) a w->c.wp P Q a w)
 | .seq x y,l,p,r,h=>by
  simp only[chain]at h;split at h
  ·rename_i s m d;cases h;obtain⟨k,j,i,h3⟩:=rZ d;refine⟨.seq k y,by simp[findLabel,j],fun{P Q a w} h=>wp_seq (i (AX m a w h)),fun{P Q a w} h=>wp_seq (h3 ?_)⟩;refine jS (fun e a w g=>?_) p a w h;cases e<;>first|exact AX m a w g|exact g
  ·rename_i d;split at h
   ·rename_i s m n;cases h;obtain⟨k,j,i,h3⟩:=rZ n;have q:findLabel x l=none:=by
     clear j i h3 n
     induction x with
     |seq a b iha ihb=>
      simp only[chain]at d;split at d
      ·cases d
      ·rename_i o;split at d
       ·cases d
       ·rename_i f;simp[findLabel,iha o,ihb f]
     |label l'=>
      simp only[chain]at d;cases f:wm l' l with
      |true=>rw[f]at d;cases d
      |false=>
       have:¬l'=l:=fun e=>by subst e;simp at f
       simp[findLabel,this]
     |_=>rfl
    refine⟨k,by simp[findLabel,q,j],i,fun{P Q a w} h=>wp_seq (wp_mono h fun e a w g=>?_)⟩;cases e<;>first|exact h3 g|exact g
   ·cases h
 | .label l',l,p,r,h=>by
  simp only[chain]at h;cases f:wm l' l with
  |false=>rw[f]at h;cases h
  |true=>
   rw[f]at h;cases h;have:=zD f;subst this;exact⟨.skip,by simp[findLabel],fun h=>wp_skip h,fun h=>wp_label h⟩
 | .skip,_,_,_,h=>by cases h
 | .region ..,_,_,_,h=>by cases h
 | .cond ..,_,_,_,h=>by cases h
 | .block ..,_,_,_,h=>by cases h
 | .loop _,_,_,_,h=>by cases h
 | .rangeFunc ..,_,_,_,h=>by cases h
 | .exit _,_,_,_,h=>by cases h
 | .scope _,_,_,_,h=>by cases h
 | .goto _,_,_,_,h=>by cases h
 | .ret,_,_,_,h=>by cases h
 | .refuse _,_,_,_,h=>by cases h
section
variable {P:Program} {c:Code} {Q:Exit->Act->World->Prop} {b:Frame} {k:List Item} {cs:List Frame}
def Reach(P:Program)(c:Code)(Q:Exit->Act->World->Prop)(b:Frame)(k:List Item)(d:List Frame)(a:Act)(w:World)(r:Code):Prop:=
 ∃e a' w',Q e a' w'/\Arrives P (lone (b.at a (.code r::.inScope c::k)) d w) b k d e a' w'
def Good(P:Program)(c:Code)(Q:Exit->Act->World->Prop)(b:Frame)(k:List Item)(d:List Frame):Exit->Act->World->Prop
 | .goto l,a,w=>match findLabel c l with
  |some r=>Reach P c Q b k d a w r
  |none=>Q (.goto l) a w
 |e,a,w=>Q e a w
theorem Rg{m:Machine}{e:Exit}{a:Act}{w:World}(f:Good P c Q b k cs e a w)(d:Arrives P m b (.inScope c::k) cs e a w):
  ∃e a' w',Q e a' w'/\Arrives P m b k cs e a' w':=by
 cases e with
 |normal=>exact⟨.normal,a,w,f,Steps.trans d (.one step_inScope)⟩
 |exit id=>exact⟨.exit id,a,w,f,fun h j=>d h (by simp[exitTo,j])⟩
 |goto l=>
  simp only[Good]at f;cases hf:findLabel c l with
  |none=>
   rw[hf]at f;exact⟨.goto l,a,w,f,fun h j=>d h (by simp[gotoIn,hf,j])⟩
  |some r=>
   rw[hf]at f;obtain⟨n,p,o,i,g⟩:=f;exact⟨n,p,o,i,.of_steps (d _ (by simp[gotoIn,hf])) g⟩
 |ret=>exact⟨_,a,w,f,d⟩
 |panic ch=>exact⟨_,a,w,f,d⟩
 |outgrown=>exact⟨_,a,w,f,d⟩
theorem Rh{r:Code}{a:Act}{w:World}(h:r.wp P (Good P c Q b k cs) a w):Reach P c Q b k cs a w r:=by
 obtain⟨e,a',w',f,d⟩:=h b (.inScope c::k) cs;exact Rg f d
theorem Ek{a:Act}{w:World}(h:∀b k cs,c.wp P (Good P c Q b k cs) a w):(Code.scope c).wp P Q a w:=by
 intro b k cs;obtain⟨e,m,l,j,d⟩:=h b k cs b (.inScope c::k) cs;obtain⟨f,a',w',g,i⟩:=Rg j d;exact⟨f,a',w',g,.of_steps (.one step_scope) i⟩
end
section
variable {C:Ctx} {n:Nat} {rec:Rec}
theorem Df(t:HQ C n rec){c:Code}{m:List (Nat×List al)}{q:QT}{s:Exit->Act->World->Prop}{b:Frame}{k:List Item}{u:List Frame}{ρ:Env}{a0:Act}{w0:World}
  (j:∀e f d i,Fits n d f->Ext ρ f a0 d->cN w0 i->q e f i.heap->Good C.P c s b k u e d i):
  ∀(g:Nat) (e:Exit) (f:Env) (d:Act) (i:World),Fits n d f->Ext ρ f a0 d->cN w0 i->HO rec c m q g e f i.heap->Good C.P c s b k u e d i
 |0,_,_,_,_,_,_,_,h=>h.elim
 |g+1,e,f,d,i,hf,hx,hl,h=>by
  cases e with
  |goto l=>
   simp only[HO]at h;split at h
   ·split at h
    ·rename_i p r o;obtain⟨F,B,x,_⟩:=rZ o;simp only[Good,B];refine Rh (x ?_);refine jS (fun e a w D=>?_) _ _ _ (oU t _ _ _ f d i hf h);obtain⟨A,E,z,y,v⟩:=D;exact Df t j g e A a w E (hx.trans z) (hl.trans y) v
    ·exact h.elim
   ·exact j _ _ _ _ hf hx hl h
  |normal=>exact j _ _ _ _ hf hx hl h
  |exit id=>exact j _ _ _ _ hf hx hl h
  |ret=>exact j _ _ _ _ hf hx hl h
  |panic ch=>exact j _ _ _ _ hf hx hl h
  |outgrown=>exact j _ _ _ _ hf hx hl h
theorem om{c:Code}{Q:QT}{b:Frame}{k:List Item}{o:List Frame}{ρ:Env}{a0:Act}{w0:World}{e:Exit}{a:Env}{i:Act}{j:World}
  (f:Fits n i a) (d:Ext ρ a a0 i) (g:cN w0 j) (h:Re c Q e a j.heap):Good C.P c (Out n Q ρ a0 w0) b k o e i j:=by
 cases e with
 |goto l=>
  simp only[Re]at h;simp only[Good];split at h
  ·rename_i m;simp only[m];exact⟨a,f,d,g,h⟩
  ·exact h.elim
 |normal=>exact⟨a,f,d,g,h⟩
 |exit id=>exact⟨a,f,d,g,h⟩
 |ret=>exact⟨a,f,d,g,h⟩
 |panic ch=>exact⟨a,f,d,g,h⟩
 |outgrown=>exact⟨a,f,d,g,h⟩
theorem OC{a:Act}{σ:dt}{κ:cQ}{ρ:Env}{s:σ.den}(b:Fits n a ρ)(c:σ.read ρ=some s):Fits n a (σ.vals s (κ.over ρ))/\Ext ρ (σ.vals s (κ.over ρ)) a a:=
 b.rm b (fun _ _ _=>rfl) c
theorem Up(z:HQ C n rec){c:Code}{l:Nat}{σ:dt}{κ:cQ}{pre rest:List al}{H:List (Nat×List al)}{p r:List Code}(hc:chain c l=some (p,r)){Q:QT}{ρ:Env}{a:Act}{w:World}(hf:Fits n a ρ)
  (h:Ah rec p pre (HN (fun ρ' h'=>match σ.read ρ' with
     |some R=>aL (fun s K h=>Ah rec r rest (HO rec c H (WW l σ κ (σ.vals s (κ.over ρ')) K (Re c Q)) 4) (σ.vals s (κ.over ρ')) h) R h'
     |none=>False) (Re c Q)) ρ w.heap):(Code.scope c).wp C.P (Out n Q ρ a w) a w:=by
 refine Ek fun b k cs=>?_;obtain⟨kk,h1,h2,h3⟩:=rZ hc;refine h3 (jS (fun e a' w' y=>?_) _ _ _ (oU z _ _ _ ρ a w hf h));refine y.then (fun ρ' N x2 x3 F=>?_) (fun y _=>?_)
 ·split at F
  ·rename_i R L;obtain⟨τ,V,I,μ,t0,e0,hI,i⟩:=F;subst e0;have g:=OC (κ:=κ) N L;have x:∀(m:Nat) (t:τ) (v:Act) (o:World),μ t=m->I t o.heap->Fits n v (σ.vals (V t) (κ.over ρ'))->Ext ρ' (σ.vals (V t) (κ.over ρ')) a' v->cN w' o->
     nD C.P r (Good C.P c (Out n Q ρ a w) b k cs) v o:=by
    intro m
    induction m using Nat.strongRecOn with
    |_ m ih=>
     intro t v o U D B f d;refine jS (fun e a2 w2 y=>?_) _ _ _ (oU z _ _ _ _ v o B (i t o.heap D));obtain⟨ρ2,M,E,A,J⟩:=y;refine Df z (ρ:=σ.vals (V t) (κ.over ρ')) (a0:=v) (w0:=o) (fun e S a3 w3 j u z3 z4=>?_) 4 e ρ2 a2 w2 M E A J;cases e with
     |goto l'=>
      simp only[WW]at z4;cases hb:wm l' l with
      |false=>
       rw[hb]at z4;exact om j (x2.trans (f.trans u)) (x3.trans (d.trans z3)) z4
      |true=>
       rw[hb]at z4;have:=zD hb;subst this;simp only[Good,h1];cases hw:within σ κ S (S.length-(σ.vals (V t) (κ.over ρ')).length)with
       |false=>rw[hw]at z4;exact z4.elim
       |true=>
        rw[hw]at z4;simp only[cond_true]at z4;split at z4
        ·rename_i s' G;have q:∀t,σ.has t=false->(κ.over []).dR t=false->a3.tmps[t]?=a'.tmps[t]?:=fun t O T=>by
          rw[u.within hw t O T,f.rm t O T]
         obtain⟨W,Z⟩:=N.rm (κ:=κ) j q G;obtain⟨t',e1,X,Y⟩:=z4;subst e1;exact Rh (h2 (ih _ (by rw[<-U];exact Y) t' a3 w3 rfl X W Z (d.trans z3)))
        ·exact z4.elim
     |normal=>exact om j (x2.trans (f.trans u)) (x3.trans (d.trans z3)) z4
     |exit id=>exact om j (x2.trans (f.trans u)) (x3.trans (d.trans z3)) z4
     |ret=>exact om j (x2.trans (f.trans u)) (x3.trans (d.trans z3)) z4
     |panic ch=>exact om j (x2.trans (f.trans u)) (x3.trans (d.trans z3)) z4
     |outgrown=>exact om j (x2.trans (f.trans u)) (x3.trans (d.trans z3)) z4
   exact x _ t0 a' w' rfl hI g.1 g.2 (cN.refl _)
  ·exact F.elim
 ·obtain⟨ρ1,M,E,A,J⟩:=y;exact om M E A J
theorem adY(O:C.Ok)(o:HQ C n rec):HQ C n (Rf C n rec):=by
 intro c ad Q ρ a w g h;have q:∀{σ:dt} {κ:cQ} {K:σ.den->Heap->Prop} {e:Exit} {a':Act} {w':World},Out n (Ky σ κ ρ K Q) ρ a w e a' w'->(∀s h,K s h->Q .normal (σ.vals s (κ.over ρ)) h)->Out n Q ρ a w e a' w':=by
  intro σ κ K e a' w' j T;obtain⟨ρ',f,x2,x3,d⟩:=j;cases e with
  |normal=>
   simp only[Ky]at d;cases hw:within σ κ ρ' (ρ'.length-ρ.length)with
   |false=>rw[hw]at d;exact d.elim
   |true=>
    rw[hw]at d;simp only[cond_true]at d;split at d
    ·rename_i s N;obtain⟨F,E⟩:=g.rm (κ:=κ) f (x2.within hw) N;exact⟨_,F,E,x3,T _ _ d⟩
    ·exact d.elim
  |exit id=>exact⟨ρ',f,x2,x3,d⟩
  |goto l=>exact⟨ρ',f,x2,x3,d⟩
  |ret=>exact⟨ρ',f,x2,x3,d⟩
  |panic ch=>exact⟨ρ',f,x2,x3,d⟩
  |outgrown=>exact⟨ρ',f,x2,x3,d⟩
 unfold Rf at h;split at h
 ·rename_i σ κ x;obtain⟨K,hK,X⟩:=h;exact wp_mono (o c x _ ρ a w g X) fun e a' w' j=>q j hK
 ·split at h
  ·exact wp_skip ⟨ρ,g,Ext.refl _ _,cN.refl _,h⟩
  ·exact wp_label ⟨ρ,g,Ext.refl _ _,cN.refl _,h⟩
  ·exact wp_mono (Rc O g h) fun e a' w' j=>j.2
  ·rename_i x y;refine wp_seq (wp_mono (o x _ _ ρ a w g h) fun e a' w' j=>j.then (fun ρ' f x2 x3 d=>?_) (fun j _=>j));exact wp_mono (o y _ _ ρ' a' w' f d) fun e U ab j=>j.base x2 x3
  ·rename_i x y z;split at h
   ·rename_i t P;refine wp_cond_split (g.eval P) (fun e=>?_) (fun e=>?_)
    ·subst e;exact o y _ _ ρ a w g h
    ·subst e;exact o z _ _ ρ a w g h
   ·exact h.elim
  ·rename_i id x;refine wp_block (wp_mono (o x _ _ ρ a w g h) fun e a' w' j=>?_);obtain⟨ρ',f,x2,x3,d⟩:=j;cases e with
   |exit i=>
    simp only[Exit.inBlock];simp only[Zb]at d;cases hb:wm i id with
    |true=>
     rw[hb]at d;rw[if_pos (zD hb)];exact⟨ρ',f,x2,x3,d⟩
    |false=>
     rw[hb]at d;rw[if_neg (fun e=>by subst e;simp at hb)];exact⟨ρ',f,x2,x3,d⟩
   |normal=>exact⟨ρ',f,x2,x3,d⟩
   |goto l=>exact⟨ρ',f,x2,x3,d⟩
   |ret=>exact⟨ρ',f,x2,x3,d⟩
   |panic ch=>exact⟨ρ',f,x2,x3,d⟩
   |outgrown=>exact⟨ρ',f,x2,x3,d⟩
  ·exact wp_exit ⟨ρ,g,Ext.refl _ _,cN.refl _,h⟩
  ·exact wp_goto ⟨ρ,g,Ext.refl _ _,cN.refl _,h⟩
  ·exact wp_ret ⟨ρ,g,Ext.refl _ _,cN.refl _,h⟩
  ·rename_i x;split at h
   ·rename_i σ κ y _;split at h
    ·rename_i s0 J;obtain⟨τ,V,I,μ,t0,W,Z,u⟩:=h;subst W;have m:=OC (κ:=κ) g J;refine Za (σ:=τ) (fun t B D=>Fits n B (σ.vals (V t) (κ.over ρ))/\Ext ρ (σ.vals (V t) (κ.over ρ)) a B/\cN w D/\I t D.heap) (fun t _=>μ t) t0 ⟨m.1,m.2,cN.refl _,Z⟩ ?_;rintro t B D ⟨G,v,z3,z4⟩;refine wp_mono (o x y _ _ B D G (u t _ z4)) fun e Y w2 j=>?_;obtain⟨ρ',f,x2,x3,d⟩:=j;cases e with
     |normal=>
      simp only[Ky]at d;cases hw:within σ κ ρ' (ρ'.length-(σ.vals (V t) (κ.over ρ)).length)with
      |false=>rw[hw]at d;exact d.elim
      |true=>
       rw[hw]at d;simp only[cond_true]at d;split at d
       ·rename_i s' H;have A:∀t,σ.has t=false->(κ.over []).dR t=false->Y.tmps[t]?=a.tmps[t]?:=fun t L M=>by
         rw[x2.within hw t L M,v.rm t L M]
        obtain⟨F,E⟩:=g.rm (κ:=κ) f A H;obtain⟨R,e1,S,i2⟩:=d;subst e1;exact⟨R,⟨F,E,z3.trans x3,S⟩,i2⟩
       ·exact d.elim
     |exit id=>exact⟨ρ',f,v.trans x2,z3.trans x3,d⟩
     |goto l=>exact⟨ρ',f,v.trans x2,z3.trans x3,d⟩
     |ret=>exact⟨ρ',f,v.trans x2,z3.trans x3,d⟩
     |panic ch=>exact⟨ρ',f,v.trans x2,z3.trans x3,d⟩
     |outgrown=>exact⟨ρ',f,v.trans x2,z3.trans x3,d⟩
    ·exact h.elim
   ·exact h.elim
  ·rename_i x;split at h
   ·split at h
    ·rename_i p r hc;exact Up o hc g h
    ·exact h.elim
   ·refine Ek fun b k cs=>wp_mono (o x _ _ ρ a w g h) fun e a' w' j=>?_;obtain⟨ρ',f,x2,x3,d⟩:=j;exact Df o (ρ:=ρ) (a0:=a) (w0:=w) (fun e ρ3 a3 w3 G v z3 z4=>om G v z3 z4) 4 e ρ' a' w' f x2 x3 d
   ·exact h.elim
  ·exact h.elim
theorem Ri(a:C.Ok):∀f,HQ C n (vc C n f)
 |0=>fun _ _ _ _ _ _ _ h=>h.elim
 |f+1=>adY a (Ri a f)
end
def FC(C:Ctx)(ρ:Env):List ResultVar->(List Value->Prop)->Heap->Prop
 |[],K,_=>K []
 | .tmp t::r,K,h=>match ρ.get t with
  |some v=>FC C ρ r (fun vs=>K (v::vs)) h
  |none=>False
 | .cell a t::r,K,h=>match uR C.T (.load t (.tmp a)) ρ.eval with
  |some q=>∃y:q.ty.den,q.holds h y/\FC C ρ r (fun vs=>K (q.ty.enc y::vs)) h
  |none=>False
def FD:List Value->Value
 |[v]=>v
 |vs=>.tuple vs.toArray
def agD(C:Ctx)(rs:List ResultVar)(R:Value->Heap->Prop):QT
 | .normal,ρ,h=>FC C ρ rs (fun vs=>R (FD vs) h) h
 | .ret,ρ,h=>FC C ρ rs (fun vs=>R (FD vs) h) h
 |_,_,_=>False
def FE:Nat->List Value->Env
 |_,[]=>[]
 |n,v::r=>.val n v::FE (n+1) r
def fnV(C:Ctx)(b:Func)(a:Nat)(d:al)(args:List Value)(R:Value->Heap->Prop)(h:Heap):Prop:=
 match b.body with
 |some c=>vc C b.ntmps a c d (agD C b.results.toList R) (FE 0 args) h
 |none=>False
theorem Kz:∀{args:List Value} {n t:Nat} {v:Value},(FE n args).get t=some v->n<=t/\args[t-n]?=some v
 |[],_,_,_,h=>by cases h
 |u::r,n,t,v,h=>by
  simp only[FE,Env.get]at h;cases hb:wm n t with
  |true=>
   rw[hb]at h;have:=zD hb;subst this;simpa using h
  |false=>
   rw[hb]at h;obtain⟨c,a⟩:=Kz (args:=r) h;refine⟨by omega,?_⟩;obtain⟨k,b⟩:∃k,t-n=k+1:=⟨t-(n+1),by omega⟩
   rw[b,qz];have:t-(n+1)=k:=by omega
   rw[<-this];exact a
theorem abH{C:BR}(d:C.Ok){ev:Operand->Option Value}{e:Operand->Value}(g:∀x v,ev x=some v->e x=v){t:TypeId}{x:Operand}{q:Ag}
  (f:uR C.T (.load t x) ev=some q) {y:q.ty.den} {w:World} (h:q.holds w.heap y):(vA t (e x)).run C.P w=.ok (q.ty.enc y) w:=by
 have c:(do pure (Next.value (<-vA t (e x))):Sem Next).run C.P w=.ok (.value (q.ty.enc y)) w:=Dc d g (o:=⟨none,.load t x,0, "",#[],none⟩) f h;rw[Sem.run_bind]at c;cases hr:(vA t (e x)).run C.P w with
 |halt a b=>rw[hr]at c;cases c
 |ok v w'=>
  rw[hr]at c;simp only[Result.andThen_ok]at c;cases c;rfl
theorem FF{C:Ctx}(k:C.Ok){n:Nat}{a:Act}{ρ:Env}(d:Fits n a ρ):∀{rs:List ResultVar} {K:List Value->Prop} {w:World},FC C ρ rs K w.heap->
  ∃vs,(rs.mapM (fun| .tmp t=>pure (a.tmps.getD t undef)| .cell x t=>(do loadVar t (<-asAddr (a.tmps.getD x undef)):Sem Value)):Sem (List Value)).run C.P w=.ok vs w/\K vs
 |[],K,w,h=>⟨[],rfl,h⟩
 | .tmp t::r,K,w,h=>by
  simp only[FC]at h;split at h
  ·rename_i v s;obtain⟨vs,l,i⟩:=FF k d h;refine⟨v::vs,?_,i⟩;have j:a.tmps.getD t undef=v:=by simp[Array.getD_eq_getD_getElem?,d.get t v s]
   rw[List.mapM_cons,Sem.run_bind,Sem.run_pure,Result.andThen_ok,Sem.run_bind,l,j];rfl
  ·exact h.elim
 | .cell x t::r,K,w,h=>by
  simp only[FC]at h;split at h
  ·rename_i q f;obtain⟨y,o,h⟩:=h;obtain⟨vs,l,i⟩:=FF k d h;refine⟨q.ty.enc y::vs,?_,i⟩;have m:=abH k.toOk (e:=a.eval) (fun x v h=>d.eval h) f o;have p:∃c,a.eval (.tmp x)=.pointer (some c):=by
    unfold uR at f;simp only at f;split at f
    ·rename_i c b;exact⟨c,d.eval b⟩
    ·cases f
   obtain⟨c,b⟩:=p;have j:a.tmps.getD x undef=.pointer (some c):=b;rw[b]at m;rw[List.mapM_cons,Sem.run_bind];simp only[j];have g:(do loadVar t (<-asAddr (.pointer (some c))):Sem Value).run C.P w=.ok (q.ty.enc y) w:=m;rw[g,Result.andThen_ok,Sem.run_bind,l];rfl
  ·exact h.elim
theorem adZ{C:Ctx}(o:C.Ok){f:FuncId}{b:Func}(s:C.P.funcs[f]?=some b){a:Nat}{i:al}{args:List Value}(z:args.length<=b.ntmps){R:Value->Heap->Prop}{h:Heap}
  (j:fnV C b a i args R h):ac C.P f args.toArray h R:=by
 rintro w rfl;unfold fnV at j;split at j
 ·rename_i c x;refine calls_of_wp s x ?_;have d:Fits b.ntmps {tmps:=args.toArray++y9 (b.ntmps-args.toArray.size) undef,defers:=[]} (FE 0 args):=by
   refine⟨by simp;omega,rfl,fun t v p=>?_⟩;obtain⟨_,g⟩:=Kz p;rw[Nat.sub_zero]at g;have k:t<args.length:=(qm.1 g).1;simp only[Array.getElem?_append,wW,k,if_true,zM];exact g
  refine wp_mono (Ri o a c i _ _ _ w d j) fun e a' w' y=>?_;obtain⟨ρ',l,x2,x3,n⟩:=y;have fin:FC C ρ' b.results.toList (fun vs=>R (FD vs) w'.heap) w'.heap->a'.defers=[]/\∃v,(results b a'.tmps).run C.P w'=.ok v w'/\(∃m,Ending.returned v=.returned m/\cN w w'/\R m w'.heap):=fun q=>by
   obtain⟨vs,u,g⟩:=FF o l q;refine⟨l.defers,FD vs,?_,FD vs,rfl,x3,g⟩;unfold results;rw[yZ,map_eq_pure_bind,bind_assoc,Sem.run_bind];refine(congrArg (fun r=>Result.andThen r _) u).trans ?_;simp only[Result.andThen_ok,pure_bind,Sem.run_pure];cases vs with
   |nil=>rfl
   |cons v r=>cases r<;>rfl
  cases e<;>first|exact fin n|exact n.elim
 ·exact j.elim
theorem ar{C:Ctx}(d:C.Ok){f:FuncId}{a:Func}(i:C.P.funcs[f]?=some a)(b:al){args:List Value}{R:Value->Heap->Prop}{h:Heap}{Q:Prop}(c:Q)
  (g:vJ args.length a.ntmps=true:=by kernel_rfl) (e:fnV C a 300 b args R h=Q:=by kernel_rfl):ac C.P f args.toArray h R:=adZ d i (zC g) (cast e.symm c)
def aw(P:Program)(s:Sem Value)(r:Rt)(h:Heap)(K:r.den->Heap->Prop):Prop:=ag P s h fun v h'=>∃x:r.den,v=r.enc x/\K x h'
def aO(P:Program)(s:Sem Value)(h:Heap)(K:Addr->Heap->Prop):Prop:=ag P s h fun v h'=>∃a:Addr,v=.pointer (some a)/\K a h'
def af(P:Program)(f:FuncId)(args:Array Value)(r:Rt)(h:Heap)(K:r.den->Heap->Prop):Prop:=ac P f args h fun v h'=>∃x:r.den,v=r.enc x/\K x h'
def ig(C:Ctx)(g:FuncId)(args:List Value)(r:Rt)(h:Heap)(K:r.den->Heap->Prop):Prop:=
 match C.fns[g]? with
 |some true=>af C.P g args.toArray r h K
 |_=>False
theorem eU{C:Ctx}{g:FuncId}{args:List Value}{r:Rt}{h:Heap}{K:r.den->Heap->Prop}(a:C.fns[g]?=some true)(b:af C.P g args.toArray r h K):ig C g args r h K:=by
 unfold ig;rw[a];exact b
end Go.Vc
abbrev Go.Vc.al.tn(a:Go.Vc.al):Go.Vc.al:=.two .n a
