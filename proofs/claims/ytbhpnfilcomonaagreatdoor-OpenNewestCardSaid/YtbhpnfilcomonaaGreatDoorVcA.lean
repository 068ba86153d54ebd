/- Lemmas for the proof of the law; no condition. -/
import Derived.Calls
import Derived.Orders
import Derived.Scope
import Derived.KernelRfl
import Derived.Laws.Sem
import Derived.OrdersHeld
set_option linter.unusedVariables false
set_option linter.unusedSimpArgs false
open Nat renaming beq -> wh, ble -> vN, blt -> vt, eq_of_beq_eq_true -> zw, le_of_ble_eq_true -> wP, le_refl -> qp
open Bool renaming and_eq_true -> qz, false_eq_true -> zl, or_eq_false_iff -> ym, or_eq_true -> zV
open List renaming cons_append -> zk, getElem?_eq_some_iff -> qk, getElem?_map -> qP, length_cons -> zi, mem_append_right -> wQ, mem_cons -> zj, mem_cons_of_mem -> q0, mem_cons_self -> qT, mem_singleton -> qB
open BitVec renaming ofInt -> qy
open Go.IntKind renaming i64 -> vW
open Go.Instr renaming build -> ve, fill -> wi, loadAt -> vA, sliceAt -> yF, sliceBounds -> wJ
open Option renaming map_eq_some_iff -> yz, map_some -> qJ, some -> wG
open Array renaming ext' -> wZ, getElem?_toList -> yG, mapM_eq_mapM_toList -> yR, replicate -> y7, toList_map -> vl
open Go.Builtin renaming len_ -> vz
namespace Go.Vc
open Go
abbrev Heap:=Array Obj
def cellOf(h:Heap)(a:Addr):Option Value:=
 match h[a.block]? with
 |some (.cells c _ _)=>if a.spot.isSome then none else c[a.off]?
 |_=>none
def Og(h:Heap)(a:Addr):Bool:=
 match h[a.block]? with
 |some (.cells _ _ (lo,hi))=>lo<=a.off&&a.off<hi
 |_=>false
def xL(h:Heap)(a:Addr)(v:Value):Heap:=
 h.modify a.block fun
  | .cells c elem frozen=>.cells (if a.spot.isSome then c else c.setIfInBounds a.off v) elem frozen
  |o=>o
def shapeOf(h:Heap)(r:Nat):Option (TypeId×Nat):=match h[r]? with|some (.cells c elem _)=>some (elem,c.size)|_=>none
theorem SX(w:World)(r:Nat):w.shape? r=shapeOf w.heap r:=rfl
theorem Gg(w:World)(a:Addr):w.cell? a=cellOf w.heap a:=rfl
theorem VE(w:World)(a:Addr):w.frozen? a=Og w.heap a:=rfl
theorem VF(w:World)(a:Addr)(v:Value):(w.setCell a v).heap=xL w.heap a v:=rfl
structure cA (w w':World):Prop where
 os:w'.os=w.os
 tape:w'.tape=w.tape
 output:w'.output=w.output
 drawn:w.drawn<=w'.drawn
theorem cA.refl(w:World):cA w w:=⟨rfl,rfl,rfl,qp _⟩
theorem cA.trans{a b c:World}(h:cA a b)(k:cA b c):cA a c:=⟨k.os.trans h.os,k.tape.trans h.tape,k.output.trans h.output,Nat.le_trans h.drawn k.drawn⟩
def ac(P:Program)(f:FuncId)(args:Array Value)(h:Heap)(R:Value->Heap->Prop):Prop:=
 ∀w,w.heap=h->Calls P f args w fun e w'=>∃v,e=.returned v/\cA w w'/\R v w'.heap
theorem ac.mono{P:Program}{f:FuncId}{args:Array Value}{h:Heap}{R b:Value->Heap->Prop}(e:ac P f args h R)
  (d:∀v a,R v a->b v a):ac P f args h b:=fun w i=>
 (e w i).mono fun _ _ ⟨v,c,g,r⟩=>⟨v,c,g,d _ _ r⟩
def ab{α:Type}(P:Program)(s:Sem α)(h:Heap)(K:α->Heap->Prop):Prop:=
 ∀w,w.heap=h->∃v w',s.run P w=.ok v w'/\cA w w'/\K v w'.heap
section
variable {α β:Type} {P:Program} {h:Heap}
theorem ab.pure'{K:α->Heap->Prop}{a:α}(b:K a h):ab P (Pure.pure a) h K:=fun w c=>⟨a,w,rfl,cA.refl w,by rw[c];exact b⟩
theorem ab.bind{s:Sem α}{f:α->Sem β}{K:β->Heap->Prop}(k:ab P s h fun v g=>ab P (f v) g K):ab P (s>>=f) h K:=by
 intro w m;obtain⟨v,w',j,l,i⟩:=k w m;obtain⟨e,c,b,a,d⟩:=i w' rfl;exact⟨e,c,by rw[Sem.run_bind,j];exact b,l.trans a,d⟩
theorem ab.mono{s:Sem α}{K e:α->Heap->Prop}(g:ab P s h K)(f:∀v d,K v d->e v d):ab P s h e:=fun w i=>
 let⟨v,w',a,b,c⟩:=g w i;⟨v,w',a,b,f _ _ c⟩
theorem ab.SY{K:Program->Heap->Prop}(a:K P h):ab P program h K:=fun w b=>⟨P,w,rfl,cA.refl w,by rw[b];exact a⟩
theorem ab.WO{a:Addr}{v v0:Value}{m:Mode}{K:Unit->Heap->Prop}(f:v.oneCell'=true)(e:cellOf h a=some v0)(c:Og h a=false)(d:K () (xL h a v)):
  ab P (store a v m) h K:=fun w b=>
 ⟨(),w.setCell a v,by rw[run_store _ _ _ _ _ f,Gg,b,e];simp[VE,b,c],⟨rfl,rfl,rfl,qp _⟩,by rw[VF,b];exact d⟩
theorem ab.lJ{o:Obj}{K:Nat->Heap->Prop}(a:K h.size (h.push o)):ab P (newObj o) h K:=fun w b=>
 ⟨w.heap.size,_,run_newObj P w o,⟨rfl,rfl,rfl,qp _⟩,by simp only[b];exact a⟩
theorem ab.Dc{n:Nat}{K:Unit->Heap->Prop}(a:K () h):ab P (askRoom n) h K:=fun w b=>⟨(),w,run_askRoom P w n,cA.refl w,by rw[b];exact a⟩
theorem ab.Gh{q:Question}{K:Nat->Heap->Prop}(a:(q.forced=true->K 0 h)/\(q.forced=false->∀n,K (q.cut n) h)):ab P (choose q) h K:=by
 intro w b;cases hq:q.forced with
 |true=>exact⟨0,w,by rw[run_choose,hq];rfl,cA.refl w,by rw[b];exact a.1 hq⟩
 |false=>exact⟨q.cut (w.tape w.drawn q),{w with drawn:=w.drawn+1},by rw[run_choose,hq];rfl,⟨rfl,rfl,rfl,Nat.le_succ _⟩,by show K _ w.heap;rw[b];exact a.2 hq _⟩
theorem ab.oV{r:Nat}{o:Obj}{K:Obj->Heap->Prop}(b:h[r]?=some o)(g:∀c e f,o≠.cells c e f)(d:K o h):ab P (getObj r) h K:=fun w a=>by
 refine⟨o,w,?_,cA.refl w,by rw[a];exact d⟩;simp only[getObj,Sem.run,a,b]
theorem ab.oW{r:Nat}{o a:Obj}{K:Unit->Heap->Prop}(d:h[r]?=some o)(i:∀c e f,o≠.cells c e f)(g:K () (h.setIfInBounds r a)):ab P (setObj r a) h K:=fun w b=>by
 refine⟨(),{w with heap:=w.heap.setIfInBounds r a},?_,⟨rfl,rfl,rfl,qp _⟩,by show K () (w.heap.setIfInBounds r a);rw[b];exact g⟩;simp only[setObj,Sem.run,b,d]
theorem ab.WP{r:Nat}{K:Option (TypeId×Nat)->Heap->Prop}(b:K (shapeOf h r) h):ab P (shape r) h K:=fun w a=>
 ⟨_,w,run_shape P w r,cA.refl w,by rw[a,SX,a];exact b⟩
end
def sF(P:Program)(s:Sem Next)(h:Heap)(K:Value->Heap->Prop):Prop:=
 ab P s h fun b a=>match b with
  | .value v=>K v a
  | .skip=>K undef a
  | .enter f args=>ac P f args a K
  |_=>False
theorem Yd{P:Program}{o:Oper}{a:Act}{w:World}{K:Value->Heap->Prop}{Q:Exit->Act->World->Prop}
  (i:sF P (execOp a.eval o) w.heap K) {next:Act->World->Prop}
  (g:∀v w',cA w w'->K v w'.heap->next (a.put o.dst v) w'):o.wp P a w next Q:=by
 obtain⟨h,w',j,c,b⟩:=i w rfl;unfold Oper.wp;rw[j];cases h<;>simp only at b<;>simp only[Oper.upon]
 case value v=>exact g _ _ c b
 case skip=>exact g _ _ c b
 case enter f args=>
  refine(b w' rfl).mono ?_;rintro e k ⟨v,rfl,d,r⟩;exact g _ _ (c.trans d) r
structure Sl where
 ptr:Option Addr
 len:Nat
 cap:Nat
 deriving Inhabited
inductive Sc where
 |int (k:IntKind)|bool|str|ptr|slc|flt (k:FloatKind)|cpx (k:FloatKind)|mp|fn|any|adr
@[reducible] def Sc.den:Sc->Type
 | .int _=>Int
 | .bool=>Bool
 | .str=>ByteArray
 | .ptr=>Option Addr
 | .slc=>Sl
 | .flt _=>Nat
 | .cpx _=>Nat×Nat
 | .mp=>Option Nat
 | .fn=>FuncId×Array Value×Array Value
 | .any=>Value
 | .adr=>Addr
@[reducible] def Sc.enc:(s:Sc)->s.den->Value
 | .int k,n=>.int k n
 | .bool,x=>.bool x
 | .str,x=>.string x
 | .ptr,a=>.pointer a
 | .slc,x=>.slice x.ptr x.len x.cap
 | .flt k,n=>.float k n
 | .cpx k,x=>.complex k x.1 x.2
 | .mp,r=>.map r
 | .fn,x=>.func (.func x.1) x.2.1 x.2.2
 | .any,v=>v
 | .adr,a=>.pointer (some a)
def sG:IntKind->IntKind->Bool
 | .i8,.i8| .i16,.i16| .i32,.i32| .i64,.i64| .u8,.u8| .u16,.u16| .u32,.u32| .u64,.u64=>true
 |_,_=>false
theorem Ck:∀{a b:IntKind},sG a b=true->a=b:=by
 intro a b;cases a<;>cases b<;>simp[sG]
def xM:FloatKind->FloatKind->Bool
 | .f32,.f32| .f64,.f64=>true
 |_,_=>false
theorem xN:∀{a b:FloatKind},xM a b=true->a=b:=by
 intro a b;cases a<;>cases b<;>simp[xM]
def Sc.dec:(s:Sc)->Value->Option s.den
 | .int k,.int k' n=>bif sG k k' then some n else none
 | .bool,.bool x=>some x
 | .str,.string x=>some x
 | .ptr,.pointer a=>some a
 | .slc,.slice a l c=>some ⟨a,l,c⟩
 | .flt k,.float k' n=>bif xM k k' then some n else none
 | .cpx k,.complex k' a b=>bif xM k k' then some (a,b)else none
 | .mp,.map r=>some r
 | .fn,.func (.func g) f c=>some (g,f,c)
 | .any,v=>some v
 | .adr,.pointer (some a)=>some a
 |_,_=>none
theorem Sc.mW{s:Sc}{v:Value}{x:s.den}(h:s.dec v=some x):v=s.enc x:=by
 cases s<;>cases v<;>simp only[Sc.dec]at h<;>try(first|(cases h;done)|(cases h;rfl))
 case int.int k k' n=>
  cases hk:sG k k'<;>simp[hk]at h;have:=Ck hk;subst this;subst h;rfl
 case flt.float k k' n=>
  cases hk:xM k k'<;>simp[hk]at h;have:=xN hk;subst this;subst h;rfl
 case cpx.complex k k' a b=>
  cases hk:xM k k'<;>simp[hk]at h;have:=xN hk;subst this;subst h;rfl
 case fn.func g f c=>
  cases g<;>first|(cases h;done)|skip
  obtain⟨l⟩:=f;cases l<;>first|(cases h;done)|(cases h;rfl)
 case adr.pointer a=>
  cases a<;>first|(cases h;done)|(cases h;rfl)
@[reducible] def Gi:List Sc->Type
 |[]=>Unit
 |[s]=>s.den
 |s::t::r=>s.den×Gi (t::r)
@[reducible] def sa:(l:List Sc)->Gi l->List Value
 |[],_=>[]
 |[s],x=>[s.enc x]
 |s::t::r,x=>s.enc x.1::sa (t::r) x.2
def Oh:(l:List Sc)->List Value->Option (Gi l)
 |[],[]=>some ()
 |[s],[v]=>s.dec v
 |s::t::r,v::vs=>match s.dec v with
  |some x=>match Oh (t::r) vs with
   |some y=>some (x,y)
   |none=>none
  |none=>none
 |_,_=>none
theorem Qs:∀{l:List Sc} {vs:List Value} {x:Gi l},Oh l vs=some x->vs=sa l x:=by
 intro l vs
 fun_induction Oh l vs with
 |case1=>intro x _;rfl
 |case2 s v=>intro x h;simp only[sa];rw[Sc.mW h]
 |case3 s t r v vs x hx y hy ih=>intro z h;cases h;simp only[sa];rw[Sc.mW hx,ih hy]
 |case4=>intro x h;cases h
 |case5=>intro x h;cases h
 |case6=>intro x h;cases h
inductive Ty where
 |sc (s:Sc)
 |agg (l:List Sc)
 |arr (s:Sc)
@[reducible] def Ty.den:Ty->Type
 | .sc s=>s.den
 | .agg l=>Gi l
 | .arr s=>List s.den
@[reducible] def Ty.enc:(t:Ty)->t.den->Value
 | .sc s,x=>s.enc x
 | .agg l,x=>.agg (sa l x).toArray
 | .arr s,x=>.agg (x.map s.enc).toArray
def Ty.dec:(t:Ty)->Value->Option t.den
 | .sc s,v=>s.dec v
 | .agg l,.agg ⟨cs⟩=>Oh l cs
 |_,_=>none
theorem Ty.mW{t:Ty}{v:Value}{x:t.den}(h:t.dec v=some x):v=t.enc x:=by
 unfold Ty.dec at h;split at h
 ·exact Sc.mW h
 ·have:=Qs h;subst this;rfl
 ·cases h
@[reducible] def Oi:List Ty->Type
 |[]=>Unit
 |[s]=>s.den
 |s::t::r=>s.den×Oi (t::r)
@[reducible] def UK:(l:List Ty)->Oi l->List Value
 |[],_=>[]
 |[s],x=>[s.enc x]
 |s::t::r,x=>s.enc x.1::UK (t::r) x.2
inductive Rt where
 |one (t:Ty)
 |many (l:List Ty)
@[reducible] def Rt.den:Rt->Type
 | .one t=>t.den
 | .many l=>Oi l
@[reducible] def Rt.enc:(r:Rt)->r.den->Value
 | .one t,x=>t.enc x
 | .many l,x=>.tuple (UK l x).toArray
inductive cE where
 |val (t:Nat) (x:Value)
 |kil (lo hi:Nat)
abbrev Env:=List cE
def cE.dn:cE->Nat->Bool
 | .val s _,t=>wh s t
 | .kil lo hi,t=>vN lo t&&vt t hi
def Env.get:Env->Nat->Option Value
 |[],_=>none
 | .val s x::r,t=>bif wh s t then some x else Env.get r t
 | .kil lo hi::r,t=>bif vN lo t&&vt t hi then none else Env.get r t
def Env.dn:Env->Nat->Bool
 |[],_=>false
 |e::r,t=>e.dn t||Env.dn r t
theorem Env.SZ(e:cE)(r:Env)(t:Nat)(h:e.dn t=false):Env.get (e::r) t=Env.get r t:=by
 cases e<;>simp only[cE.dn]at h<;>simp[Env.get,h]
theorem Env.get_append{δ ρ:Env}{t:Nat}(h:δ.dn t=false):Env.get (δ++ρ) t=Env.get ρ t:=by
 induction δ with
 |nil=>rfl
 |cons e r ih=>
  simp only[Env.dn,ym]at h;rw[zk,Env.SZ _ _ _ h.1,ih h.2]
theorem Env.se{δ ρ:Env}{t:Nat}:Env.dn (δ++ρ) t=(δ.dn t||ρ.dn t):=by
 induction δ with
 |nil=>simp[Env.dn]
 |cons e r ih=>simp[Env.dn,ih,Bool.or_assoc]
structure Fits (n:Nat) (a:Act) (ρ:Env):Prop where
 size:a.tmps.size=n
 defers:a.defers=[]
 get:∀t x,ρ.get t=some x->a.tmps[t]?=some x
def Ext(ρ b:Env)(a c:Act):Prop:=∃δ:Env,b=δ++ρ/\∀t,δ.dn t=false->c.tmps[t]?=a.tmps[t]?
theorem Ext.refl(ρ:Env)(a:Act):Ext ρ ρ a a:=⟨[],rfl,fun _ _=>rfl⟩
theorem Ext.trans{ρ e b:Env}{a f c:Act}(h:Ext ρ e a f)(k:Ext e b f c):Ext ρ b a c:=by
 obtain⟨δ,rfl,h⟩:=h;obtain⟨g,rfl,k⟩:=k;refine⟨g++δ,by simp,fun t d=>?_⟩;rw[Env.se,ym]at d;rw[k t d.1,h t d.2]
def Env.eval(ρ:Env):Operand->Option Value
 | .tmp t=>ρ.get t
 | .const v=>some v
 | .global g=>some (.pointer (some ⟨g,0,none⟩))
 | .func f=>some (.func (.func f) #[] #[])
theorem Fits.eval{n:Nat}{a:Act}{ρ:Env}(h:Fits n a ρ){x:Operand}{v:Value}(b:ρ.eval x=some v):a.eval x=v:=by
 cases x<;>simp only[Env.eval]at b<;>simp only[Act.eval]
 case tmp t=>have:=h.get t v b;simp[Array.getD_eq_getD_getElem?,this]
 all_goals (injection b)
theorem Fits.put{n:Nat}{a:Act}{ρ:Env}(h:Fits n a ρ){d:Nat}(f:vt d n=true)(v:Value):Fits n (a.put (some d) v) (.val d v::ρ):=by
 have c:d<n:=wP f;refine⟨by simp[Act.put,h.size],h.defers,fun t x b=>?_⟩;simp only[Env.get]at b;simp only[Act.put,Array.getElem?_setIfInBounds];cases hb:wh d t with
 |true=>
  rw[hb]at b;have:d=t:=zw hb;subst this;simp at b;simp[h.size,c,b]
 |false=>
  rw[hb]at b;have:d≠t:=fun e=>by subst e;simp at hb
  simp only[this,if_false];exact h.get t x b
theorem Ext.put{ρ:Env}{a:Act}{d:Nat}(v u:Value):Ext ρ (.val d u::ρ) a (a.put (some d) v):=by
 refine⟨[.val d u],rfl,fun t b=>?_⟩;simp only[Env.dn,cE.dn,Bool.or_false]at b;have:d≠t:=fun e=>by subst e;simp at b
 simp[Act.put,this]
abbrev cT:=List (Nat×Ty)
@[reducible] def cT.den:cT->Type
 |[]=>Unit
 |[s]=>s.2.den
 |s::t::r=>s.2.den×cT.den (t::r)
def cT.aV:(σ:cT)->σ.den->Env->Env
 |[],_,ρ=>ρ
 |[s],x,ρ=>.val s.1 (s.2.enc x)::ρ
 |s::t::r,x,ρ=>.val s.1 (s.2.enc x.1)::cT.aV (t::r) x.2 ρ
def cT.read:(σ:cT)->Env->Option σ.den
 |[],_=>some ()
 |[s],ρ=>match ρ.get s.1 with
  |some v=>s.2.dec v
  |none=>none
 |s::t::r,ρ=>match ρ.get s.1 with
  |some v=>match s.2.dec v with
   |some x=>match cT.read (t::r) ρ with
    |some y=>some (x,y)
    |none=>none
   |none=>none
  |none=>none
def cT.has:cT->Nat->Bool
 |[],_=>false
 |s::r,t=>wh s.1 t||cT.has r t
abbrev cx:=List (Nat×Nat)
def cx.over:cx->Env->Env
 |[],ρ=>ρ
 |(lo,hi)::r,ρ=>.kil lo hi::cx.over r ρ
def cx.has:cx->Nat->Nat->Bool
 |[],_,_=>false
 |(lo,hi)::r,a,b=>(vN lo a&&vN b hi)||cx.has r a b
def within(σ:cT)(κ:cx):Env->Nat->Bool
 |_,0=>true
 |[],_+1=>true
 | .val t _::r,n+1=>(cT.has σ t||cx.has κ t (t+1))&&within σ κ r n
 | .kil lo hi::r,n+1=>cx.has κ lo hi&&within σ κ r n
theorem cx.Ta{κ:cx}{a b:Nat}(h:κ.has a b=true){t:Nat}(f:a<=t)(e:t<b)(ρ:Env):∃δ:Env,κ.over ρ=δ++ρ/\δ.dn t=true:=by
 induction κ with
 |nil=>simp[cx.has]at h
 |cons p r ih=>
  obtain⟨d,c⟩:=p;simp only[cx.has,zV,qz]at h;obtain⟨δ,j⟩:∃δ:Env,cx.over r ρ=δ++ρ:=by
   clear ih h
   induction r with
   |nil=>exact⟨[],rfl⟩
   |cons q r ih=>obtain⟨δ,h⟩:=ih;exact⟨.kil q.1 q.2::δ,by show cE.kil q.1 q.2::cx.over r ρ=_;rw[h];rfl⟩
  rcases h with h|h
  ·have k:=wP h.1;have l:=wP h.2;refine⟨.kil d c::δ,by simp[cx.over,j],?_⟩;have i:vN d t=true:=Nat.ble_eq_true_of_le (by omega);have x2:vt t c=true:=by unfold vt;exact Nat.ble_eq_true_of_le (by omega)
   simp[Env.dn,cE.dn,i,x2]
  ·obtain⟨g,f,e⟩:=ih h;exact⟨.kil d c::g,by simp[cx.over,f],by simp[Env.dn,e]⟩
theorem cx.Jz(κ:cx)(ρ:Env):κ.over ρ=κ.over []++ρ:=by
 induction κ with
 |nil=>rfl
 |cons p r ih=>obtain⟨a,b⟩:=p;simp[cx.over,ih]
theorem cT.Dd:∀(σ:cT) (x:σ.den) (ρ:Env),σ.aV x ρ=σ.aV x []++ρ
 |[],_,ρ=>rfl
 |[s],x,ρ=>rfl
 |s::t::r,x,ρ=>by simp only[cT.aV];rw[cT.Dd (t::r) x.2 ρ];rfl
theorem cT.rp:∀(σ:cT) (x:σ.den) (t:Nat),(σ.aV x []).dn t=σ.has t
 |[],_,_=>rfl
 |[s],x,t=>by simp[cT.aV,Env.dn,cE.dn,cT.has]
 |s::u::r,x,t=>by
  have:=cT.rp (u::r) x.2 t;simp only[cT.aV,Env.dn,cE.dn,this];rfl
theorem cT.JA:∀(σ:cT) (x:σ.den) (e:Env) (t:Nat),σ.has t=true->((σ.aV x [])++e).get t=(σ.aV x []).get t
 |[],_,_,_,h=>by cases h
 |[s],x,e,t,h=>by
  simp only[cT.has,Bool.or_false]at h;simp[cT.aV,Env.get,h]
 |s::u::r,x,e,t,h=>by
  simp only[cT.aV,zk,Env.get];cases hb:wh s.1 t with
  |true=>rfl
  |false=>
   have b:cT.has (u::r) t=true:=by
    have a:(wh s.1 t||cT.has (u::r) t)=true:=h;rw[hb]at a;exact a
   simpa using cT.JA (u::r) x.2 e t b
theorem cx.Hm{κ:cx}{a b t:Nat}(h:κ.has a b=true)(e:a<=t)(c:t<b):(κ.over []).dn t=true:=by
 obtain⟨δ,f,d⟩:=cx.Ta h e c [];rw[f];simpa using d
theorem dT{σ:cT}{κ:cx}:∀{δ ρ:Env},within σ κ (δ++ρ) δ.length=true->∀t,σ.has t=false->(κ.over []).dn t=false->δ.dn t=false
 |[],_,_,_,_,_=>rfl
 | .val s x::r,ρ,h,t,h1,h2=>by
  simp only[zk,zi,within,qz,zV]at h;simp only[Env.dn,cE.dn,ym];refine⟨?_,dT h.2 t h1 h2⟩;cases hb:wh s t with
  |false=>rfl
  |true=>
   have:s=t:=zw hb;subst this;rcases h.1 with h|h
   ·rw[h]at h1;cases h1
   ·rw[cx.Hm h (qp _) (Nat.lt_succ_self _)]at h2;cases h2
 | .kil lo hi::r,ρ,h,t,h1,h2=>by
  simp only[zk,zi,within,qz]at h;simp only[Env.dn,cE.dn,ym];refine⟨?_,dT h.2 t h1 h2⟩;cases hb:(vN lo t&&vt t hi)with
  |false=>rfl
  |true=>
   simp only[qz]at hb;have a:=wP hb.1;have b:t<hi:=wP hb.2;rw[cx.Hm h.1 a b]at h2;cases h2
theorem cT.JB:∀{σ:cT} {ρ:Env} {x:σ.den} {t:Nat} {v:Value},σ.read ρ=some x->(σ.aV x []).get t=some v->ρ.get t=some v∨False
 |[],_,_,_,_,_,h=>by simp[cT.aV,Env.get]at h
 |[s],ρ,x,t,v,h,hv=>by
  simp only[cT.read]at h;split at h
  ·rename_i u d;simp only[cT.aV,Env.get]at hv;cases hb:wh s.1 t with
   |true=>
    rw[hb]at hv;have:=zw hb;simp at hv;subst hv;rw[<-Ty.mW h,<-this];exact .inl d
   |false=>rw[hb]at hv;simp at hv
  ·cases h
 |s::u::r,ρ,x,t,v,h,hv=>by
  simp only[cT.read]at h;split at h
  ·rename_i z a;split at h
   ·rename_i y b;split at h
    ·rename_i w c;cases h;simp only[cT.aV,Env.get]at hv;cases hb:wh s.1 t with
     |true=>
      rw[hb]at hv;have:=zw hb;simp at hv;subst hv;rw[<-Ty.mW b,<-this];exact .inl a
     |false=>
      rw[hb]at hv;exact cT.JB (σ:=u::r) c hv
    ·cases h
   ·cases h
  ·cases h
theorem Fits.mX{n:Nat}{a d:Act}{σ:cT}{κ:cx}{ρ g:Env}{x:σ.den}(k:Fits n a ρ)(h:Fits n d g)
  (b:∀t,σ.has t=false->(κ.over []).dn t=false->d.tmps[t]?=a.tmps[t]?) (j:σ.read g=some x):
  Fits n d (σ.aV x (κ.over ρ))/\Ext ρ (σ.aV x (κ.over ρ)) a d:=by
 rw[cT.Dd,cx.Jz];refine⟨⟨h.size,h.defers,fun t v c=>?_⟩,⟨σ.aV x []++κ.over [],by simp,fun t f=>?_⟩⟩
 ·cases h1:σ.has t with
  |true=>
   have:∀(e:Env),((σ.aV x [])++e).get t=(σ.aV x []).get t:=fun e=>cT.JA σ x e t h1;rw[this]at c;rcases cT.JB j c with h2|h2
   ·exact h.get t v h2
   ·exact h2.elim
  |false=>
   rw[Env.get_append (by rw[cT.rp];exact h1)]at c;cases h2:(κ.over []).dn t with
   |true=>
    have:∀(e:Env),((κ.over [])++e).get t=none:=by
     intro e;clear b c
     induction κ with
     |nil=>simp[cx.over,Env.dn]at h2
     |cons p r ih=>
      obtain⟨i,l⟩:=p;simp only[cx.over,Env.dn,cE.dn]at h2;simp only[cx.over,zk,Env.get];cases hb:(vN i t&&vt t l)with
      |true=>rfl
      |false=>rw[hb]at h2;simp at h2;simpa using ih h2
    rw[this]at c;cases c
   |false=>
    rw[Env.get_append h2]at c;rw[b t h1 h2];exact k.get t v c
 ·rw[Env.se,ym,cT.rp]at f;exact b t f.1 f.2
theorem Ext.within{a d:Act}{σ:cT}{κ:cx}{ρ c:Env}(h:Ext ρ c a d)(e:within σ κ c (c.length-ρ.length)=true):
  ∀t,σ.has t=false->(κ.over []).dn t=false->d.tmps[t]?=a.tmps[t]?:=by
 obtain⟨δ,rfl,g⟩:=h;have b:(δ++ρ).length-ρ.length=δ.length:=by simp
 rw[b]at e;exact fun t i f=>g t (dT e t i f)
theorem Ext.mX{a b:Act}{σ:cT}{κ:cx}{ρ:Env}{x:σ.den}(f:Ext ρ (σ.aV x (κ.over ρ)) a b):
  ∀t,σ.has t=false->(κ.over []).dn t=false->b.tmps[t]?=a.tmps[t]?:=by
 obtain⟨δ,c,e⟩:=f;rw[cT.Dd,cx.Jz,<-List.append_assoc]at c;have:=List.append_cancel_right c;subst this;exact fun t g d=>e t (by rw[Env.se,cT.rp,g,d];rfl)
inductive Cl where
 |int (k:IntKind)|bool|str|flt|cpx|mp|fn|other
 |slice (e:TypeId)|array (n:Nat) (e:TypeId)|struct (fs:List (Nat×TypeId))|ptr (e:TypeId)
def gx:Option TypeDesc->Cl
 |some (.int k)=>.int k
 |some .bool=>.bool
 |some .string=>.str
 |some (.float _)=>.flt
 |some (.complex _)=>.cpx
 |some (.map ..)=>.mp
 |some (.func ..)=>.fn
 |some (.slice e)=>.slice e
 |some (.array n e)=>.array n e
 |some (.struct fs)=>.struct (fs.toList.map fun f=>(f.offset,f.type))
 |some (.pointer e)=>.ptr e
 |_=>.other
structure TI where
 cr:Cl
 ty:Ty
 size:Nat
 bytes:Nat
 zero:List Value
abbrev jW:=List TI
def jW.seen(P:Program)(t:TypeId):Cl×Option (Nat×Nat×Option (List Value)):=
 (gx (P.underlying t),(P.info? t).map fun i=>(i.size,i.bytes,i.zero.map (·.cells.toList)))
def jW.told(i:TI):Cl×Option (Nat×Nat×Option (List Value)):=(i.cr,some (i.size,i.bytes,some i.zero))
def jW.get:jW->Nat->Option TI
 |[],_=>none
 |i::_,0=>some i
 |_::r,t+1=>jW.get r t
structure sH where
 P:Program
 T:jW
structure sH.Ok (C:sH):Prop where
 Vr:(List.range C.T.length).map (jW.seen C.P)=C.T.map jW.told
 mixed:C.P.follows .mixedOrders=true
theorem jW.get_eq:∀(T:jW) (t:Nat),T.get t=T[t]?
 |[],_=>rfl
 |_::_,0=>rfl
 |_::r,t+1=>by simp[jW.get,jW.get_eq r t]
theorem sH.Ok.at{C:sH}(h:C.Ok){t:Nat}{i:TI}(b:C.T.get t=some i):jW.seen C.P t=jW.told i:=by
 rw[jW.get_eq]at b;have a:t<C.T.length:=(qk.1 b).1;have:=congrArg (·[t]?) h.Vr;simp[a]at this;rw[this,(qk.1 b).2]
def Br(b:Bool)(A B:Prop):Prop:=match b with
 |true=>A
 |false=>B
inductive PV:Type 1 where
 |no
 |val (v:Value)
 |cond (c:Prop) (v:Value)
 |ex (X:Type) (c:X->Prop) (v:X->Value)
 |br (b:Bool) (x y:Value)
def PV.holds(p:PV)(K:Value->Prop):Prop:=match p with
 | .no=>False
 | .val v=>K v
 | .cond c v=>c/\K v
 | .ex _ c v=>∃x,c x/\K (v x)
 | .br b x y=>Br b (K x) (K y)
def nK(P:Program)(s:Sem Next)(v:Value):Prop:=∀w,s.run P w=.ok (.value v) w
def aA{α:Type}(P:Program)(s:Sem α)(v:α):Prop:=∀w,s.run P w=.ok v w
def fR(P:Program)(c:BinOp)(t:TypeId)(x y:Operand)(a b r:Value):Prop:=aA P (do eqGuard c t x y a b;binOp c t a b) r
def UL:Operand->Bool
 | .tmp _=>true
 |_=>false
def Tb(P:Program)(t:TypeId)(x y:Operand)(d:Option Cl)(f:BinOp):Value->Value->PV
 | .int k a,.int k' b=>
  match f with
  | .shl=>.cond (0<=b) (.int k (k.wrap (a*2^min b.toNat k.bits)))
  | .shr=>.cond (0<=b) (.int k (a.fdiv (2^min b.toNat k.bits)))
  |_=>bif sG k k' then
   match f with
   | .add=>.val (.int k (k.wrap (a+b)))
   | .sub=>.val (.int k (k.wrap (a-b)))
   | .mul=>.val (.int k (k.wrap (a*b)))
   | .quo=>.cond (b≠0) (.int k (k.wrap (a.tdiv b)))
   | .rem=>.cond (b≠0) (.int k (a.tmod b))
   | .and=>.val (.int k (k.wrap (qy k.bits a&&&qy k.bits b).toNat))
   | .or=>.val (.int k (k.wrap (qy k.bits a|||qy k.bits b).toNat))
   | .xor=>.val (.int k (k.wrap (qy k.bits a^^^qy k.bits b).toNat))
   | .andNot=>.val (.int k (k.wrap (qy k.bits a&&&~~~qy k.bits b).toNat))
   | .eql=>.val (.bool (a==b))
   | .neq=>.val (.bool (a !=b))
   | .lss=>.val (.bool (decide (a<b)))
   | .leq=>.val (.bool (decide (a<=b)))
   | .gtr=>.val (.bool (decide (a>b)))
   | .geq=>.val (.bool (decide (a>=b)))
   |_=>.no
  else .no
 | .float k a,.float k' b=>bif xM k k' then
   match f with
   | .add=>.ex Nat (fun r=>k.format.add a b=some r) (fun r=>.float k r)
   | .sub=>.ex Nat (fun r=>k.format.sub a b=some r) (fun r=>.float k r)
   | .mul=>.ex Nat (fun r=>k.format.mul a b=some r) (fun r=>.float k r)
   | .quo=>.ex Nat (fun r=>k.format.div a b=some r) (fun r=>.float k r)
   | .eql=>.val (.bool (k.format.order a b==some .eq))
   | .neq=>.val (.bool (k.format.order a b !=some .eq))
   | .lss=>.val (.bool (k.format.order a b==some .lt))
   | .gtr=>.val (.bool (k.format.order a b==some .gt))
   |_=>.no
  else .no
 | .string a,.string b=>
  match f with
  | .eql=>.val (.bool (a.toList==b.toList))
  | .neq=>.val (.bool (!(a.toList==b.toList)))
  | .lss=>.val (.bool (Op.bytesLess a.toList b.toList))
  | .leq=>.val (.bool (Op.bytesLess a.toList b.toList||a.toList==b.toList))
  | .gtr=>.val (.bool (!(Op.bytesLess a.toList b.toList||a.toList==b.toList)))
  | .geq=>.val (.bool (!(Op.bytesLess a.toList b.toList)))
  | .add=>.cond (((a.size+b.size:Nat):Int)<=vW.max) (.string (a++b))
  |_=>.no
 | .bool a,.bool b=>
  match d with
  |some .bool=>match f with
   | .eql=>.val (.bool (a==b))
   | .neq=>.val (.bool (!(a==b)))
   |_=>.no
  |_=>.no
 | .pointer a,.pointer b=>bif UL y then .ex Bool (fun r=>fR P f t x y (.pointer a) (.pointer b) (.bool r)) (fun r=>.bool r)else
  match b with
  |none=>match d with
   |some (.ptr _)=>match f with
    | .eql=>.val (.bool a.isNone)
    | .neq=>.val (.bool (!a.isNone))
    |_=>.no
   |_=>.no
  |some _=>.no
 | .slice a _ _,.slice none _ _=>
  match d with
  |some (.slice _)=>match f with
   | .eql=>.val (.bool a.isNone)
   | .neq=>.val (.bool (!a.isNone))
   |_=>.no
  |_=>.no
 | .agg a,.agg b=>.ex Bool (fun r=>fR P f t x y (.agg a) (.agg b) (.bool r)) (fun r=>.bool r)
 | .complex k a b,.complex k' c e=>
  match f with
  | .eql| .neq=>.ex Bool (fun r=>fR P f t x y (.complex k a b) (.complex k' c e) (.bool r)) (fun r=>.bool r)
  |_=>.ex (Nat×Nat) (fun r=>fR P f t x y (.complex k a b) (.complex k' c e) (.complex k r.1 r.2)) (fun r=>.complex k r.1 r.2)
 |_,_=>.no
def Yt(a:UnOp):Value->PV
 | .bool b=>match a with
  | .not=>.val (.bool !b)
  |_=>.no
 | .int k n=>match a with
  | .neg=>.val (.int k (k.wrap (0-n)))
  | .xor=>.val (.int k (k.wrap (qy k.bits (if k.signed then-1 else k.max)^^^qy k.bits n).toNat))
  |_=>.no
 |_=>.no
def mN(ev:Operand->Option Value):List Operand->Option (List Value)
 |[]=>some []
 |x::r=>match ev x with
  |some v=>match mN ev r with
   |some vs=>some (v::vs)
   |none=>none
  |none=>none
def xO(ev:Operand->Option Value):List (Nat×Operand)->Option (List (Nat×Value))
 |[]=>some []
 |(n,x)::r=>match ev x with
  |some v=>match xO ev r with
   |some vs=>some ((n,v)::vs)
   |none=>none
  |none=>none
def placesOf(T:jW):List (Nat×TypeId)->Option (List (Nat×Nat))
 |[]=>some []
 |(off,t)::r=>match T.get t with
  |some j=>match placesOf T r with
   |some ps=>some ((off,j.size)::ps)
   |none=>none
  |none=>none
def Ea(ev:Operand->Option Value):Option Operand->Option (Option Int)
 |none=>some none
 |some x=>match ev x with
  |some (.int _ n)=>some (some n)
  |_=>none
def WQ(d:Option Cl):Value->PV
 | .slice _ n _=>match d with
  |some (.slice _)=>.val (.int .i64 n)
  |_=>.no
 | .string s=>match d with
  |some .str=>.val (.int .i64 s.size)
  |_=>.no
 |_=>.no
def WR(d:Option Cl):Value->PV
 | .slice _ _ n=>match d with
  |some (.slice _)=>.val (.int .i64 n)
  |_=>.no
 |_=>.no
def UM(d:Option Cl):Value->PV
 | .int _ n=>match d with
  |some (.int k)=>.val (.int k (k.wrap n))
  |_=>.no
 |_=>.no
def sI(P:Program)(T:jW)(d:Op)(ev:Operand->Option Value):PV:=
 match d with
 | .move x| .assign x=>match ev x with
  |some v=>.val v
  |none=>.no
 | .pick c a b=>match ev c,ev a,ev b with
  |some (.bool t),some x,some y=>.br t x y
  |_,_,_=>.no
 | .nilCheck x=>match ev x with
  |some (.pointer p)=>.ex Addr (fun a=>p=some a) (fun a=>.pointer (some a))
  |_=>.no
 | .fieldAddr s x f=>match ev x with
  |some (.pointer (some a))=>match T.get s with
   |some i=>match i.cr with
    | .struct fs=>match fs[f]? with
     |some (off,t)=>match T.get t with
      |some j=>bif wh j.size 0 then .no else .val (.pointer (some (a.add off)))
      |none=>.no
     |none=>.no
    |_=>.no
   |none=>.no
  |_=>.no
 | .indexAddr t x ix=>match ev ix with
  |some (.int _ n)=>match ev x with
   |some (.slice p len _)=>match T.get t with
    |some i=>match i.cr with
     | .slice e=>match T.get e with
      |some j=>.ex Addr (fun a=>p=some a/\0<=n/\n<(len:Int)) (fun a=>.pointer (some (a.add (n.toNat*j.size))))
      |none=>.no
     |_=>.no
    |none=>.no
   |some (.pointer (some a))=>match T.get t with
    |some i=>match i.cr with
     | .array m e=>match T.get e with
      |some j=>.cond (0<=n/\n<(m:Int)) (.pointer (some (a.add (n.toNat*j.size))))
      |none=>.no
     |_=>.no
    |none=>.no
   |_=>.no
  |_=>.no
 | .index t x ix=>match ev ix with
  |some (.int _ n)=>match ev x with
   |some (.string s)=>match T.get t with
    |some i=>match i.cr with
     | .str=>.ex UInt8 (fun b=>0<=n/\s.data[n.toNat]?=some b) (fun b=>.int .u8 b.toNat)
     |_=>.no
    |none=>.no
   |some (.agg cs)=>match T.get t with
    |some i=>match i.cr with
     | .array m e=>match T.get e with
      |some j=>match j.ty with
       | .sc s=>match j.cr with
        | .struct _=>.no
        | .array _ _=>.no
        | .other=>.no
        |_=>bif wh j.size 1 then .ex s.den (fun y=>0<=n/\n<(m:Int)/\cs[n.toNat]?=some (s.enc y)) (fun y=>s.enc y)else .no
       |_=>.no
      |none=>.no
     |_=>.no
    |none=>.no
   |_=>.no
  |_=>.no
 | .field s x f=>match ev x with
  |some (.agg ⟨cs⟩)=>match T.get s with
   |some i=>match i.cr with
    | .struct fs=>match fs[f]? with
     |some (off,t)=>match T.get t with
      |some j=>match j.cr with
       | .struct _=>.val (.agg ((cs.drop off).take j.size).toArray)
       | .array _ _=>.val (.agg ((cs.drop off).take j.size).toArray)
       | .other=>.no
       |_=>match cs[off]? with
        |some v=>.val v
        |none=>.no
      |none=>.no
     |none=>.no
    |_=>.no
   |none=>.no
  |_=>.no
 | .slice t x lo hi mx=>match mx with
  |some _=>.no
  |none=>match Ea ev lo,Ea ev hi with
   |some l,some r=>match ev x with
    |some (.slice p len cap)=>match T.get t with
     |some i=>match i.cr with
      | .slice e=>match T.get e with
       |some j=>match l,r with
        |none,none=>.val (.slice p len cap)
        |none,some r=>.cond (0<=r/\r<=(cap:Int)) (.slice p r.toNat cap)
        |some l,none=>.cond (0<=l/\l<=(len:Int)) (.slice (if cap=l.toNat then p else p.map (·.add (l.toNat*j.size))) (len-l.toNat) (cap-l.toNat))
        |some l,some r=>.cond (0<=l/\l<=r/\r<=(cap:Int)) (.slice (if cap=l.toNat then p else p.map (·.add (l.toNat*j.size))) (r.toNat-l.toNat) (cap-l.toNat))
       |none=>.no
      |_=>.no
     |none=>.no
    |some (.string s)=>match T.get t with
     |some i=>match i.cr with
      | .str=>match l,r with
       |none,none=>.val (.string (s.extract 0 s.size))
       |none,some r=>.cond (0<=r/\r<=(s.size:Int)) (.string (s.extract 0 r.toNat))
       |some l,none=>.cond (0<=l/\l<=(s.size:Int)) (.string (s.extract l.toNat s.size))
       |some l,some r=>.cond (0<=l/\l<=r/\r<=(s.size:Int)) (.string (s.extract l.toNat r.toNat))
      |_=>.no
     |none=>.no
    |some (.pointer (some a))=>match T.get t with
     |some i=>match i.cr with
      | .array n e=>match T.get e with
       |some j=>match l,r with
        |none,none=>.val (.slice (some a) n n)
        |none,some r=>.cond (0<=r/\r<=(n:Int)) (.slice (some a) r.toNat n)
        |some l,none=>.cond (0<=l/\l<=(n:Int)) (.slice (some (if n=l.toNat then a else a.add (l.toNat*j.size))) (n-l.toNat) (n-l.toNat))
        |some l,some r=>.cond (0<=l/\l<=r/\r<=(n:Int)) (.slice (some (if n=l.toNat then a else a.add (l.toNat*j.size))) (r.toNat-l.toNat) (n-l.toNat))
       |none=>.no
      |_=>.no
     |none=>.no
    |_=>.no
   |_,_=>.no
 | .extract x n=>match ev x with
  |some (.tuple ⟨vs⟩)=>match vs[n]? with
   |some v=>.val v
   |none=>.no
  |_=>.no
 | .binOp d t x y _=>match ev x,ev y with
  |some a,some b=>Tb P t x y ((T.get t).map (·.cr)) d a b
  |_,_=>.no
 | .unOp d _ x=>match ev x with
  |some v=>Yt d v
  |none=>.no
 | .convert src dst x=>match ev x,(T.get src).map TI.cr with
  |some v,some (Cl.int _)=>UM ((T.get dst).map (·.cr)) v
  |_,_=>.no
 | .build t parts=>match xO ev parts.toList with
  |some vs=>match T.get t with
   |some i=>bif vt 24 i.size then .ex Value (fun v=>aA P (ve t vs.toArray) v) (fun v=>v)else match i.cr with
    | .struct fs=>match placesOf T fs with
     |some ps=>match wi (fun n=>ps[n]?) i.zero.toArray vs with
      |some cells=>.val (.agg cells)
      |none=>.no
     |none=>.no
    | .array _ e=>match T.get e with
     |some j=>match wi (fun n=>some (n*j.size,j.size)) i.zero.toArray vs with
      |some cells=>.val (.agg cells)
      |none=>.no
     |none=>.no
    |_=>.no
   |none=>.no
  |none=>.no
 | .makeFunc fn first captured=>match mN ev first.toList,mN ev captured.toList with
  |some a,some b=>.val (.func fn a.toArray b.toArray)
  |_,_=>.no
 | .call c=>match c.callee with
  | .builtin b=>match b with
   | .len=>match c.argTypes.toList,c.args.toList with
    |t::_,[x]=>match ev x with
     |some v=>WQ ((T.get t).map (·.cr)) v
     |none=>.no
    |_,_=>.no
   | .cap=>match c.argTypes.toList,c.args.toList with
    |t::_,[x]=>match ev x with
     |some v=>WR ((T.get t).map (·.cr)) v
     |none=>.no
    |_,_=>.no
   | .min=>match mN ev c.args.toList with
    |some [.int k a,.int _ b]=>.val (.int k (if b<a then b else a))
    |_=>.no
   | .max=>match mN ev c.args.toList with
    |some [.int k a,.int _ b]=>.val (.int k (if b>a then b else a))
    |_=>.no
   | .real=>match mN ev c.args.toList with
    |some [.complex k a _]=>.val (.float k a)
    |_=>.no
   | .imag=>match mN ev c.args.toList with
    |some [.complex k _ b]=>.val (.float k b)
    |_=>.no
   |_=>.no
  |_=>.no
 |_=>.no
theorem aA.next{P:Program}{s:Sem Value}{v:Value}(h:aA P s v):nK P (do pure (.value (<-s))) v:=fun w=>by
 rw[Sem.run_bind,h w];rfl
theorem aA.pure{α:Type}{P:Program}{v:α}:aA P (pure v) v:=fun _=>rfl
theorem aA.bind{α β:Type}{P:Program}{s:Sem α}{f:α->Sem β}{v:α}{u:β}(h:aA P s v)(k:aA P (f v) u):aA P (s>>=f) u:=fun w=>by
 rw[Sem.run_bind,h w];exact k w
theorem BC{d:Option TypeDesc}{k:IntKind}(h:gx d=.int k):d=some (.int k):=by
 unfold gx at h;split at h<;>cases h;rfl
theorem Tc{d:Option TypeDesc}(h:gx d=.bool):d=some .bool:=by
 unfold gx at h;split at h<;>cases h;rfl
theorem oX{d:Option TypeDesc}(h:gx d=.str):d=some .string:=by
 unfold gx at h;split at h<;>cases h;rfl
theorem iu{d:Option TypeDesc}{e:TypeId}(h:gx d=.slice e):d=some (.slice e):=by
 unfold gx at h;split at h<;>cases h;rfl
theorem nL{d:Option TypeDesc}{n:Nat}{e:TypeId}(h:gx d=.array n e):d=some (.array n e):=by
 unfold gx at h;split at h<;>cases h;rfl
theorem VG{d:Option TypeDesc}{e:TypeId}(h:gx d=.ptr e):d=some (.pointer e):=by
 unfold gx at h;split at h<;>cases h;rfl
theorem lZ{d:Option TypeDesc}{b:List (Nat×TypeId)}(h:gx d=.struct b):∃a,d=some (.struct a)/\b=a.toList.map fun f=>(f.offset,f.type):=by
 unfold gx at h;split at h<;>cases h;exact⟨_,rfl,rfl⟩
section
variable {C:sH} {t:TypeId} {i:TI}
theorem sH.Ok.cr(h:C.Ok)(a:C.T.get t=some i):gx (C.P.underlying t)=i.cr:=congrArg Prod.fst (h.at a)
theorem sH.Ok.info(h:C.Ok)(d:C.T.get t=some i):∃f,C.P.info? t=some f/\f.size=i.size/\f.bytes=i.bytes/\∃z,f.zero=some z/\z.cells.toList=i.zero:=by
 have:=congrArg Prod.snd (h.at d);simp only[jW.seen,jW.told]at this;cases hf:C.P.info? t with
 |none=>rw[hf]at this;cases this
 |some f=>
  rw[hf]at this;simp only[qJ,wG.injEq,Prod.mk.injEq]at this;obtain⟨a,b,c⟩:=this;cases hz:f.zero with
  |none=>rw[hz]at c;cases c
  |some z=>rw[hz]at c;simp at c;exact⟨f,rfl,a,b,z,hz,by simpa using c⟩
theorem au{P:Program}{t:TypeId}{d:TypeDesc}(h:P.underlying t=some d):aA P (underlying t) d:=fun w=>by
 simp[underlying,h]
theorem co{P:Program}{t:TypeId}{d:TypeInfo}(h:P.info? t=some d):aA P (typeInfo t) d:=fun w=>by
 simp[typeInfo,h]
theorem cJ(h:C.Ok)(b:C.T.get t=some i):aA C.P (sizeOf t) i.size:=by
 obtain⟨f,a,c,_⟩:=h.info b;rw[<-c];exact(co a).bind .pure
theorem nw(h:C.Ok)(d:C.T.get t=some i):∃z,aA C.P (zeroValue t) z/\z.cells.toList=i.zero:=by
 obtain⟨f,a,_,_,z,b,c⟩:=h.info d;refine⟨z,(co a).bind ?_,c⟩;rw[b];exact .pure
theorem iT(h:C.Ok)(g:C.T.get t=some i):(∀b,i.cr=.struct b->aA C.P (isAgg t) true)/\(∀n e,i.cr=.array n e->aA C.P (isAgg t) true)/\
  ((∀b,i.cr≠.struct b)->(∀n e,i.cr≠.array n e)->i.cr≠.other->aA C.P (isAgg t) false):=by
 have a:=h.cr g;refine⟨fun b c=>?_,fun n e c=>?_,fun j f h3=>?_⟩
 ·rw[c]at a;obtain⟨l,k,_⟩:=lZ a;exact(au k).bind .pure
 ·rw[c]at a;exact(au (nL a)).bind .pure
 ·cases hu:C.P.underlying t with
  |none=>rw[hu]at a;exact absurd a.symm h3
  |some d=>
   refine(au hu).bind ?_;rw[hu]at a;cases d<;>first|exact .pure|(exfalso;simp only[gx]at a;first|exact j _ a.symm|exact f _ _ a.symm)
end
theorem ua{ev:Operand->Option Value}{e:Operand->Value}(b:∀x v,ev x=some v->e x=v):∀{l:List Operand} {vs:List Value},mN ev l=some vs->l.map e=vs:=by
 intro l
 induction l with
 |nil=>intro vs h;cases h;rfl
 |cons x r ih=>
  intro vs h;simp only[mN]at h;split at h
  ·rename_i v c;split at h
   ·rename_i d a;cases h;simp[b _ _ c,ih a]
   ·cases h
  ·cases h
theorem Cm{ev:Operand->Option Value}{e:Operand->Value}(b:∀x v,ev x=some v->e x=v):∀{l:List (Nat×Operand)} {vs:List (Nat×Value)},xO ev l=some vs->l.map (fun p=>(p.1,e p.2))=vs:=by
 intro l
 induction l with
 |nil=>intro vs h;cases h;rfl
 |cons x r ih=>
  intro vs h;obtain⟨n,x⟩:=x;simp only[xO]at h;split at h
  ·rename_i v c;split at h
   ·rename_i d a;cases h;simp[b _ _ c,ih a]
   ·cases h
  ·cases h
section
variable {P:Program}
theorem ub(t:TypeId)(x y:Value):Op.equal t x y=Op.equalIn (9999+1) t x y:=rfl
theorem VH{t:TypeId}(c:P.underlying t=some .bool)(d:Nat)(a b:Bool):aA P (Op.equalIn (d+1) t (.bool a) (.bool b)) (a==b):=fun w=>by
 simp[Op.equalIn,underlying,c]
theorem WS{t e:TypeId}(b:P.underlying t=some (.pointer e))(d:Nat)(a:Option Addr):aA P (Op.equalIn (d+1) t (.pointer a) (.pointer none)) a.isNone:=fun w=>by
 cases a<;>simp[Op.equalIn,underlying,b]
theorem Td{t e:TypeId}(g:P.underlying t=some (.slice e))(d:Nat)(a:Option Addr)(l c b f:Nat):aA P (Op.equalIn (d+1) t (.slice a l c) (.slice none b f)) a.isNone:=fun w=>by
 cases a<;>simp[Op.equalIn,underlying,g]
theorem Oj{t:TypeId}{d:Option Cl}{j:BinOp}{a b:Value}{x y:Operand}{K:Value->Prop}(p:∀q,d=some q->gx (P.underlying t)=q)
  (h:(Tb P t x y d j a b).holds K):∃v,aA P (do eqGuard j t x y a b;binOp j t a b) v/\K v:=by
 have m:∀{a b:Value},¬(a=.nilIface/\b=.nilIface)->(∀u v,¬(a=.agg u/\b=.agg v))->aA P (eqGuard j t x y a b) ():=by
  intro a b i f w;simp only[eqGuard];cases j<;>simp only[Bool.not_true,Bool.not_false,zl,if_true,if_false]<;>
   first
    |rfl
    |(split<;>first|exact absurd ⟨rfl,rfl⟩ i|exact absurd ⟨rfl,rfl⟩ (f _ _)|rfl)
 unfold Tb at h;split at h
 ·rename_i k a n b;have g:=m (a:=.int k a) (b:=.int n b) (by simp) (by simp);cases j<;>simp only at h
  case shl=>exact⟨_,g.bind fun w=>by simp only[binOp,Op.shift];rw[if_neg (by have:=h.1;omega)];rfl,h.2⟩
  case shr=>exact⟨_,g.bind fun w=>by simp only[binOp,Op.shift];rw[if_neg (by have:=h.1;omega)];rfl,h.2⟩
  all_goals
   cases hk:sG k n with
   |false=>rw[hk]at h;simp[PV.holds]at h
   |true=>
    rw[hk]at h;simp only[cond_true,PV.holds]at h;have e:=Ck hk;subst e
    first
     |exact⟨_,g.bind fun w=>by simp[binOp,Op.intArith,Op.intBits,Op.intCmp],h⟩
     |exact⟨_,g.bind fun w=>by simp[binOp,Op.intDiv,h.1],h.2⟩
     |exact h.elim
 ·rename_i k a n b;have g:=m (a:=.float k a) (b:=.float n b) (by simp) (by simp);cases hk:xM k n with
  |false=>rw[hk]at h;simp[PV.holds]at h
  |true=>
   rw[hk]at h;have e:=xN hk;subst e;cases j<;>simp only[cond_true,PV.holds]at h<;>
    first
     |(obtain⟨r,i,f⟩:=h;exact⟨_,g.bind fun w=>by simp[binOp,Op.floatArith,i],f⟩)
     |exact⟨_,g.bind fun w=>by simp[binOp,Op.floatCmp],h⟩
     |exact h.elim
 ·rename_i a b;have g:=m (a:=.string a) (b:=.string b) (by simp) (by simp);cases j<;>simp only[PV.holds]at h<;>
   first
    |exact⟨_,g.bind fun w=>by simp[binOp,Op.stringOp],h⟩
    |exact⟨_,g.bind fun w=>by simp only[binOp,Op.stringOp];rw[if_neg (by have:=h.1;omega)];rfl,h.2⟩
    |exact h.elim
 ·rename_i a b;have g:=m (a:=.bool a) (b:=.bool b) (by simp) (by simp);split at h
  ·have o:=Tc (p _ rfl);cases j<;>simp only[PV.holds]at h<;>
    first
     |exact⟨_,g.bind (by simp only[binOp,ub];exact(VH o _ a b).bind .pure),h⟩
     |exact h.elim
  ·exact h.elim
 ·rename_i a b;cases hy:UL y with
  |true=>
   rw[hy]at h;obtain⟨r,i,f⟩:=h;exact⟨_,i,f⟩
  |false=>
   rw[hy]at h;cases b with
   |some _=>exact h.elim
   |none=>
    have g:=m (a:=.pointer a) (b:=.pointer none) (by simp) (by simp);simp only[cond_false]at h;split at h
    ·rename_i e;have o:=VG (p _ rfl);cases j<;>simp only[PV.holds]at h<;>
      first
       |exact⟨_,g.bind (by simp only[binOp,ub];exact(WS o _ a).bind .pure),h⟩
       |exact h.elim
    ·exact h.elim
 ·rename_i a l c s z;have g:=m (a:=.slice a l c) (b:=.slice none s z) (by simp) (by simp);split at h
  ·rename_i e;have o:=iu (p _ rfl);cases j<;>simp only[PV.holds]at h<;>
    first
     |exact⟨_,g.bind (by simp only[binOp,ub];exact(Td o _ a l c s z).bind .pure),h⟩
     |exact h.elim
  ·exact h.elim
 ·obtain⟨r,i,f⟩:=h;exact⟨_,i,f⟩
 ·split at h
  ·obtain⟨r,i,f⟩:=h;exact⟨_,i,f⟩
  ·obtain⟨r,i,f⟩:=h;exact⟨_,i,f⟩
  ·obtain⟨r,i,f⟩:=h;exact⟨_,i,f⟩
 ·exact h.elim
end
theorem JC(a:List Value)(off n:Nat):((a.drop off).take n).toArray=(a.toArray).extract off (off+n):=by
 apply wZ;simp[List.extract_eq_take_drop]
section
variable {C:sH} {ev:Operand->Option Value} {e:Operand->Value}
theorem kT(a:C.Ok):∀{b:List Field} {ps:List (Nat×Nat)},placesOf C.T (b.map fun f=>(f.offset,f.type))=some ps->
  aA C.P (b.mapM fun f=>(do pure (f.offset,<-sizeOf f.type):Sem (Nat×Nat))) ps
 |[],ps,h=>by cases h;exact .pure
 |f::r,ps,h=>by
  simp only[List.map_cons,placesOf]at h;split at h
  ·rename_i j c;split at h
   ·rename_i e d;cases h;rw[List.mapM_cons];exact aA.bind ((cJ a c).bind .pure) ((kT a d).bind .pure)
   ·cases h
  ·cases h
theorem Cn(d:C.Ok){t:TypeId}{j:TI}(c:C.T.get t=some j)(h:∀f,j.cr≠.struct f)(b:∀n e,j.cr≠.array n e)(h3:j.cr≠.other)
  {a:Array Value} {off:Nat} {v:Value} (g:a[off]?=some v):aA C.P (part t a off) v:=by
 refine((iT d c).2.2 h b h3).bind ?_;rw[g];exact .pure
theorem JD(b:C.Ok){t:TypeId}{j:TI}(a:C.T.get t=some j)(h:(∃c,j.cr=.struct c)∨∃n e,j.cr=.array n e)
  {d:Array Value} {off:Nat}:aA C.P (part t d off) (.agg (d.extract off (off+j.size))):=by
 have f:aA C.P (isAgg t) true:=by
  rcases h with⟨c,h⟩|⟨n,e,h⟩
  ·exact(iT b a).1 c h
  ·exact(iT b a).2.1 n e h
 exact f.bind ((cJ b a).bind .pure)
theorem Eb(I:C.Ok)(G:∀x v,ev x=some v->e x=v){o:Oper}{K:Value->Prop}(h:(sI C.P C.T o.op ev).holds K):
  ∃v,nK C.P (execOp e o) v/\K v:=by
 have M:∀t q,(C.T.get t).map (·.cr)=some q->gx (C.P.underlying t)=q:=fun t q h=>by
  cases F:C.T.get t with
  |none=>rw[F]at h;cases h
  |some i=>rw[F]at h;cases h;exact I.cr F
 cases hop:o.op<;>rw[hop]at h<;>simp only[sI]at h<;>simp only[execOp,hop]
 case move x=>
  split at h
  ·rename_i v A;rw[G _ _ A];exact⟨v,fun _=>rfl,h⟩
  ·exact h.elim
 case assign x=>
  split at h
  ·rename_i v A;rw[G _ _ A];exact⟨v,fun _=>rfl,h⟩
  ·exact h.elim
 case pick c a b=>
  split at h
  ·rename_i t x y Q h2 h3;rw[G _ _ Q,G _ _ h2,G _ _ h3];cases t
   ·exact⟨y,fun _=>rfl,h⟩
   ·exact⟨x,fun _=>rfl,h⟩
  ·exact h.elim
 case nilCheck x=>
  split at h
  ·rename_i p hp;obtain⟨a,rfl,B⟩:=h;rw[G _ _ hp];exact⟨_,fun _=>rfl,B⟩
  ·exact h.elim
 case fieldAddr s x f=>
  split at h
  ·rename_i a ha;rw[G _ _ ha];split at h
   ·rename_i i F;split at h
    ·rename_i fs X;split at h
     ·rename_i off t ay;split at h
      ·rename_i j R;cases hz:wh j.size 0 with
       |true=>rw[hz]at h;exact h.elim
       |false=>
        rw[hz]at h;have E:=I.cr F;rw[X]at E;obtain⟨gs,hg,rfl⟩:=lZ E;simp only[qP,yz]at ay;obtain⟨g,a7,a6⟩:=ay;cases a6;refine⟨_,aA.next ((au hg).bind ?_),h⟩;have ax:gs[f]?=some g:=by simpa using a7
        simp only[ax];refine aA.bind (v:=a) .pure (aA.bind (v:=a.add g.offset) ?_ .pure);unfold fieldPlace;refine(cJ I R).bind ?_;have:j.size≠0:=fun e=>by rw[e]at hz;cases hz
        rw[if_neg this];exact .pure
      ·exact h.elim
     ·exact h.elim
    ·exact h.elim
   ·exact h.elim
  ·exact h.elim
 case indexAddr t x ix=>
  split at h
  ·rename_i k n hn;rw[G _ _ hn];split at h
   ·rename_i p len cap S;rw[G _ _ S];split at h
    ·rename_i i F;split at h
     ·rename_i el D;split at h
      ·rename_i j R;obtain⟨a,⟨rfl,h0,Q⟩,B⟩:=h;have E:=I.cr F;rw[D]at E;have H:=iu E;refine⟨_,aA.next ?_,B⟩;unfold Instr.indexAt;refine aA.bind (v:=(k,n)) .pure ?_;refine(au H).bind ?_;refine aA.bind (v:=(some a,len,el)) .pure ?_;intro w;have:=cJ I R w;simp only[Sem.run_bind,au H w,Result.andThen_ok];cases hl:decide (len<=1)<;>simp[h0,Q,this]
      ·exact h.elim
     ·exact h.elim
    ·exact h.elim
   ·rename_i a S;rw[G _ _ S];split at h
    ·rename_i i F;split at h
     ·rename_i m el D;split at h
      ·rename_i j R;obtain⟨⟨h0,Q⟩,B⟩:=h;have E:=I.cr F;rw[D]at E;have H:=nL E;refine⟨_,aA.next ?_,B⟩;unfold Instr.indexAt;refine aA.bind (v:=(k,n)) .pure ?_;refine(au H).bind ?_;refine aA.bind (v:=(some a,m,el)) .pure ?_;intro w;have:=cJ I R w;simp only[Sem.run_bind,au H w,Result.andThen_ok];cases hl:decide (m<=1)<;>simp[h0,Q,this]
      ·exact h.elim
     ·exact h.elim
    ·exact h.elim
   ·exact h.elim
  ·exact h.elim
 case index t x ix=>
  split at h
  ·rename_i k n hn;rw[G _ _ hn];split at h
   ·rename_i s S;rw[G _ _ S];split at h
    ·rename_i i F;split at h
     ·rename_i D;obtain⟨b,⟨h0,Q⟩,B⟩:=h;have E:=I.cr F;rw[D]at E;have H:=oX E;refine⟨_,aA.next ?_,B⟩;unfold Instr.index;refine aA.bind (v:=(k,n)) .pure ?_;refine(au H).bind ?_;have hb:s[n.toNat]?=some b:=by
       rw[Array.getElem?_eq_some_iff]at Q;obtain⟨b0,hg⟩:=Q;have bd:n.toNat<s.size:=b0;rw[getElem?_pos s n.toNat bd];exact congrArg some hg
      simp only[h0,if_true,hb];exact .pure
     ·exact h.elim
    ·exact h.elim
   ·rename_i cs S;rw[G _ _ S];split at h
    ·rename_i i F;split at h
     ·rename_i m el D;split at h
      ·rename_i j R;split at h
       ·rename_i s hs;have E:=I.cr F;rw[D]at E;have H:=nL E;have am:(∃y,(0<=n/\n<(m:Int)/\cs[n.toNat]?=some (s.enc y))/\K (s.enc y))->(∀fs,j.cr≠.struct fs)->(∀n e,j.cr≠.array n e)->j.cr≠.other->j.size=1->
          ∃v,nK C.P (do pure (.value (<-Instr.index t (.agg cs) (.int k n)))) v/\K v:=by
         rintro⟨y,⟨h0,Q,h2⟩,B⟩ d1 d2 d3 br;refine⟨_,aA.next ?_,B⟩;unfold Instr.index;refine aA.bind (v:=(k,n)) .pure ?_;refine(au H).bind ?_;simp only[h0,Q,and_self,if_true];refine(cJ I R).bind ?_;rw[br,Nat.mul_one];exact Cn I R d1 d2 d3 h2
        split at h
        ·exact h.elim
        ·exact h.elim
        ·exact h.elim
        ·rename_i d1 d2 d3;cases hz:wh j.size 1 with
         |false=>rw[hz]at h;exact h.elim
         |true=>
          rw[hz]at h;exact am h d1 d2 d3 (zw hz)
       ·exact h.elim
      ·exact h.elim
     ·exact h.elim
    ·exact h.elim
   ·exact h.elim
  ·exact h.elim
 case field s x f=>
  split at h
  ·rename_i cs S;rw[G _ _ S];split at h
   ·rename_i i F;split at h
    ·rename_i fs X;split at h
     ·rename_i off t ay;split at h
      ·rename_i j R;have E:=I.cr F;rw[X]at E;obtain⟨gs,hg,rfl⟩:=lZ E;simp only[qP,yz]at ay;obtain⟨g,a7,a6⟩:=ay;cases a6;have ax:gs[f]?=some g:=by simpa using a7
       have am:∀v,aA C.P (part g.type ⟨cs⟩ g.offset) v->K v->∃v,nK C.P (do pure (.value (<-Instr.field s (.agg ⟨cs⟩) f))) v/\K v:=by
        intro v A B;refine⟨v,aA.next ((au hg).bind ?_),B⟩;simp only[ax];exact aA.bind (v:=(⟨cs⟩:Array Value)) .pure A
       split at h
       ·rename_i b4 a5;refine am _ (JD I R (.inl ⟨_,a5⟩)) ?_;rw[<-JC];exact h
       ·rename_i n' e' a5;refine am _ (JD I R (.inr ⟨_,_,a5⟩)) ?_;rw[<-JC];exact h
       ·exact h.elim
       ·rename_i d1 d2 d3;split at h
        ·rename_i v A;exact am v (Cn I R d1 d2 d3 (by simpa using A)) h
        ·exact h.elim
      ·exact h.elim
     ·exact h.elim
    ·exact h.elim
   ·exact h.elim
  ·exact h.elim
 case slice t x V hi0 mx=>
  split at h
  ·exact h.elim
  ·split at h
   ·rename_i l r hl hr;have a4:(V=none/\l=none)∨∃y k m,V=some y/\e y=.int k m/\l=some m:=by
     cases V with
     |none=>cases hl;exact .inl ⟨rfl,rfl⟩
     |some y=>
      simp only[Ea]at hl;split at hl
      ·rename_i k m hm;cases hl;exact .inr ⟨y,k,m,rfl,G _ _ hm,rfl⟩
      ·cases hl
    have a8:(hi0=none/\r=none)∨∃y k m,hi0=some y/\e y=.int k m/\r=some m:=by
     cases hi0 with
     |none=>cases hr;exact .inl ⟨rfl,rfl⟩
     |some y=>
      simp only[Ea]at hr;split at hr
      ·rename_i k m hm;cases hr;exact .inr ⟨y,k,m,rfl,G _ _ hm,rfl⟩
      ·cases hr
    have J:∀(bb:Bool) (len cap:Nat) (V F:Option Value) (a b:Nat),(V=none->a=0)->(∀v,V=some v->∃k m,v=.int k m/\0<=m/\a=m.toNat/\m<=(b:Int))->
      (F=none->b=len)->(∀v,F=some v->∃k m,v=.int k m/\0<=m/\b=m.toNat/\m<=(cap:Int))->
      aA C.P (wJ bb len cap V F none) (a,b,cap):=by
     intro bb len cap V F a b Q h2 h3 h4 w;cases F with
     |none=>
      have e1:=h3 rfl;subst e1;cases V with
      |none=>rw[Q rfl];simp[wJ]
      |some v=>
       obtain⟨k,m,rfl,x1,rfl,x2⟩:=h2 v rfl;simp[wJ,Instr.sliceBound,asIntOf,x1,x2]
     |some u=>
      obtain⟨k',W,rfl,y1,rfl,y2⟩:=h4 u rfl;cases V with
      |none=>rw[Q rfl];simp[wJ,Instr.sliceBound,asIntOf,y1,y2]
      |some v=>
       obtain⟨k,m,rfl,x1,rfl,x2⟩:=h2 v rfl;have x3:¬max W 0<m:=by omega
       simp[wJ,Instr.sliceBound,asIntOf,x1,y1,y2,x3]
    split at h
    ·rename_i p len cap S;rw[G _ _ S];split at h
     ·rename_i i F;split at h
      ·rename_i el D;split at h
       ·rename_i j R;have E:=I.cr F;rw[D]at E;have H:=iu E;have fin:∀(a b:Nat) (v:Value),aA C.P (wJ true len cap (V.map e) (hi0.map e) none) (a,b,cap)->
          v=.slice (if cap=a then p else p.map (·.add (a*j.size))) (b-a) (cap-a)->K v->
          ∃v,nK C.P (do pure (.value (<-yF t (.slice p len cap) (V.map e) (hi0.map e) (Option.map e none)))) v/\K v:=by
         intro a b v hb A B;refine⟨v,aA.next ?_,B⟩;unfold yF;refine(au H).bind ?_;simp only[Instr.slice,Option.map_none];refine(au H).bind ?_;refine hb.bind ?_;subst A;exact(cJ I R).bind .pure
        have ad:(if cap=0 then p else p.map (·.add (0*j.size)))=p:=by
         cases p<;>simp[Addr.add]
        rcases a4 with⟨rfl,rfl⟩|⟨y,k,m,rfl,hy,rfl⟩<;>rcases a8 with⟨rfl,rfl⟩|⟨y',k',W,rfl,hy',rfl⟩
        ·exact fin 0 len _ (J _ _ _ _ _ _ _ (fun _=>rfl) (by simp) (fun _=>rfl) (by simp)) (by rw[ad];rfl) h
        ·obtain⟨⟨U,Z⟩,B⟩:=h;exact fin 0 W.toNat _ (J _ _ _ _ _ _ _ (fun _=>rfl) (by simp) (by simp) (fun v A=>by cases A;exact⟨k',W,hy',U,rfl,Z⟩)) (by rw[ad];rfl) B
        ·obtain⟨⟨U,Z⟩,B⟩:=h;exact fin m.toNat len _ (J _ _ _ _ _ _ _ (by simp) (fun v A=>by cases A;exact⟨k,m,hy,U,rfl,Z⟩) (fun _=>rfl) (by simp)) rfl B
        ·obtain⟨⟨U,Z,a3⟩,B⟩:=h;exact fin m.toNat W.toNat _ (J _ _ _ _ _ _ _ (by simp) (fun v A=>by cases A;exact⟨k,m,hy,U,rfl,by omega⟩) (by simp) (fun v A=>by cases A;exact⟨k',W,hy',by omega,rfl,a3⟩)) rfl B
       ·exact h.elim
      ·exact h.elim
     ·exact h.elim
    ·rename_i s S;rw[G _ _ S];split at h
     ·rename_i i F;split at h
      ·rename_i D;have E:=I.cr F;rw[D]at E;have H:=oX E;have fin:∀(a b:Nat) (v:Value),aA C.P (wJ false s.size s.size (V.map e) (hi0.map e) none) (a,b,s.size)->
         v=.string (s.extract a b)->K v->
         ∃v,nK C.P (do pure (.value (<-yF t (.string s) (V.map e) (hi0.map e) (Option.map e none)))) v/\K v:=by
        intro a b v hb A B;refine⟨v,aA.next ?_,B⟩;unfold yF;refine(au H).bind ?_;simp only[Instr.slice,Option.map_none];refine(au H).bind ?_;subst A;intro w;simp[hb w]
       rcases a4 with⟨rfl,rfl⟩|⟨y,k,m,rfl,hy,rfl⟩<;>rcases a8 with⟨rfl,rfl⟩|⟨y',k',W,rfl,hy',rfl⟩
       ·exact fin 0 s.size _ (J _ _ _ _ _ _ _ (fun _=>rfl) (by simp) (fun _=>rfl) (by simp)) rfl h
       ·obtain⟨⟨U,Z⟩,B⟩:=h;exact fin 0 W.toNat _ (J _ _ _ _ _ _ _ (fun _=>rfl) (by simp) (by simp) (fun v A=>by cases A;exact⟨k',W,hy',U,rfl,Z⟩)) rfl B
       ·obtain⟨⟨U,Z⟩,B⟩:=h;exact fin m.toNat s.size _ (J _ _ _ _ _ _ _ (by simp) (fun v A=>by cases A;exact⟨k,m,hy,U,rfl,Z⟩) (fun _=>rfl) (by simp)) rfl B
       ·obtain⟨⟨U,Z,a3⟩,B⟩:=h;exact fin m.toNat W.toNat _ (J _ _ _ _ _ _ _ (by simp) (fun v A=>by cases A;exact⟨k,m,hy,U,rfl,by omega⟩) (by simp) (fun v A=>by cases A;exact⟨k',W,hy',by omega,rfl,a3⟩)) rfl B
      ·exact h.elim
     ·exact h.elim
    ·rename_i a S;rw[G _ _ S];split at h
     ·rename_i i F;split at h
      ·rename_i n el D;split at h
       ·rename_i j R;have E:=I.cr F;rw[D]at E;have H:=nL E;have fin:∀(a' b:Nat) (v:Value),aA C.P (wJ false n n (V.map e) (hi0.map e) none) (a',b,n)->
          v=.slice (some (if n=a' then a else a.add (a'*j.size))) (b-a') (n-a')->K v->
          ∃v,nK C.P (do pure (.value (<-yF t (.pointer (some a)) (V.map e) (hi0.map e) (Option.map e none)))) v/\K v:=by
         intro a' b v hb A B;refine⟨v,aA.next ?_,B⟩;unfold yF;refine(au H).bind ?_;simp only[Option.map_none];refine aA.bind (v:=a) .pure ?_;refine hb.bind ?_;subst A;exact(cJ I R).bind .pure
        have ad:(if n=0 then a else a.add (0*j.size))=a:=by simp[Addr.add]
        rcases a4 with⟨rfl,rfl⟩|⟨y,k,m,rfl,hy,rfl⟩<;>rcases a8 with⟨rfl,rfl⟩|⟨y',k',W,rfl,hy',rfl⟩
        ·exact fin 0 n _ (J _ _ _ _ _ _ _ (fun _=>rfl) (by simp) (fun _=>rfl) (by simp)) (by rw[ad];rfl) h
        ·obtain⟨⟨U,Z⟩,B⟩:=h;exact fin 0 W.toNat _ (J _ _ _ _ _ _ _ (fun _=>rfl) (by simp) (by simp) (fun v A=>by cases A;exact⟨k',W,hy',U,rfl,Z⟩)) (by rw[ad];rfl) B
        ·obtain⟨⟨U,Z⟩,B⟩:=h;exact fin m.toNat n _ (J _ _ _ _ _ _ _ (by simp) (fun v A=>by cases A;exact⟨k,m,hy,U,rfl,Z⟩) (fun _=>rfl) (by simp)) rfl B
        ·obtain⟨⟨U,Z,a3⟩,B⟩:=h;exact fin m.toNat W.toNat _ (J _ _ _ _ _ _ _ (by simp) (fun v A=>by cases A;exact⟨k,m,hy,U,rfl,by omega⟩) (by simp) (fun v A=>by cases A;exact⟨k',W,hy',by omega,rfl,a3⟩)) rfl B
       ·exact h.elim
      ·exact h.elim
     ·exact h.elim
    ·exact h.elim
   ·exact h.elim
 case extract x n=>
  split at h
  ·rename_i vs S;rw[G _ _ S];split at h
   ·rename_i v A;refine⟨v,aA.next ?_,h⟩;have:(⟨vs⟩:Array Value)[n]?=some v:=by simpa using A
    simp only[Instr.extract,this];exact .pure
   ·exact h.elim
  ·exact h.elim
 case binOp op t x y u=>
  split at h
  ·rename_i a b ha hb;rw[G _ _ ha,G _ _ hb];obtain⟨v,A,B⟩:=Oj (P:=C.P) (x:=x) (y:=y) (M t) h;exact⟨v,A.next,B⟩
  ·exact h.elim
 case unOp op t x=>
  split at h
  ·rename_i v A;rw[G _ _ A];unfold Yt at h;split at h
   ·split at h
    ·exact⟨_,aA.next .pure,h⟩
    ·exact h.elim
   ·split at h
    ·exact⟨_,aA.next .pure,h⟩
    ·exact⟨_,aA.next .pure,h⟩
    ·exact h.elim
   ·exact h.elim
  ·exact h.elim
 case convert s d x=>
  split at h
  ·rename_i v ks A bl;rw[G _ _ A];have hs:=BC (M _ _ bl);unfold UM at h;split at h
   ·split at h
    ·rename_i n _ k B;have H:=BC (M _ _ B);refine⟨_,aA.next ?_,h⟩;unfold convert;refine(au hs).bind ((au H).bind ?_);exact .pure
    ·exact h.elim
   ·exact h.elim
  ·exact h.elim
 case build t parts=>
  split at h
  ·rename_i vs bw;have hp:(parts.map fun(i,x)=>(i,e x)).toList=vs:=by
    have:=Cm G bw;simpa using this
   split at h
   ·rename_i i F;obtain⟨z,hz,b2⟩:=nw I F;have a0:i.zero.toArray=z.cells:=by rw[<-b2]
    cases hbig:vt 24 i.size with
    |true=>
     rw[hbig]at h;obtain⟨v,A,B⟩:=h;have bk:(parts.map fun(i,x)=>(i,e x))=vs.toArray:=by rw[<-hp]
     refine⟨v,aA.next ?_,B⟩;show aA C.P (ve t (parts.map fun(i,x)=>(i,e x))) v;rw[bk];exact A
    |false=>
    rw[hbig]at h;simp only[cond_false]at h;split at h
    ·rename_i fs X;have E:=I.cr F;rw[X]at E;obtain⟨gs,hg,rfl⟩:=lZ E;split at h
     ·rename_i ps b3;split at h
      ·rename_i cells O;refine⟨_,aA.next (hz.bind ((au hg).bind ?_)),h⟩;have b1:aA C.P (gs.mapM fun f=>(do pure (f.offset,<-sizeOf f.type):Sem (Nat×Nat))) ps.toArray:=by
        rw[yR];intro w;have:=kT I b3 w;rw[map_eq_pure_bind,Sem.run_bind,this];rfl
       refine b1.bind ?_;have a9:wi (fun n=>ps.toArray[n]?) z.cells (parts.map fun(i,x)=>(i,e x)).toList=some cells:=by
        rw[hp,<-a0];simpa using O
       rw[a9];exact .pure
      ·exact h.elim
     ·exact h.elim
    ·rename_i n el X;have E:=I.cr F;rw[X]at E;have H:=nL E;split at h
     ·rename_i j R;split at h
      ·rename_i cells O;refine⟨_,aA.next (hz.bind ((au H).bind ((cJ I R).bind ?_))),h⟩;have a9:wi (fun i=>some (i*j.size,j.size)) z.cells (parts.map fun(i,x)=>(i,e x)).toList=some cells:=by
        rw[hp,<-a0];exact O
       rw[a9];exact .pure
      ·exact h.elim
     ·exact h.elim
    ·exact h.elim
   ·exact h.elim
  ·exact h.elim
 case makeFunc fn first captured=>
  split at h
  ·rename_i a b ha hb;have Q:first.map e=a.toArray:=by apply wZ;simpa using ua G ha
   have h2:captured.map e=b.toArray:=by apply wZ;simpa using ua G hb
   refine⟨_,aA.next ?_,h⟩;rw[Q,h2];exact .pure
  ·exact h.elim
 case call c=>
  split at h
  ·rename_i b hb;have L:∀{v:Value},aA C.P (builtin b c.argTypes o.type (c.args.map fun| .const _=>true|_=>false) (c.args.map e)) (.value v)->
     nK C.P (do let d<-resolve e c o.type;invoke d.target d.args) v:=by
    intro v A w;have:=A w;unfold resolve;rw[hb];exact this
   have N:∀{vs:List Value},mN ev c.args.toList=some vs->c.args.map e=vs.toArray:=fun A=>by
    apply wZ;simpa using ua G A
   have Y:∀{s:Sem Value} {v:Value},aA C.P s v->aA C.P (do pure (Next.value (<-s))) (.value v):=fun hs=>hs.bind .pure;split at h
   case h_1=>
    split at h
    ·rename_i t ts x Q h2;split at h
     ·rename_i v A;have ha:c.args.map e=#[v]:=by
       apply wZ;rw[vl,h2];simp[G _ _ A]
      have ht:c.argTypes[0]?=some t:=by
       rw[<-yG,Q];rfl
      unfold WQ at h;split at h
      ·rename_i p n cap;split at h
       ·rename_i el D;have H:=iu (M _ _ D);refine⟨_,L ?_,h⟩;rw[ha];refine Y ?_;intro w;simp[vz,ht,underlying,H,goInt]
       ·exact h.elim
      ·rename_i s;split at h
       ·rename_i D;have H:=oX (M _ _ D);refine⟨_,L ?_,h⟩;rw[ha];refine Y ?_;intro w;simp[vz,ht,underlying,H,goInt]
       ·exact h.elim
      ·exact h.elim
     ·exact h.elim
    ·exact h.elim
   case h_2=>
    split at h
    ·rename_i t ts x Q h2;split at h
     ·rename_i v A;have ha:c.args.map e=#[v]:=by
       apply wZ;rw[vl,h2];simp[G _ _ A]
      have ht:c.argTypes[0]?=some t:=by
       rw[<-yG,Q];rfl
      unfold WR at h;split at h
      ·rename_i p n cap;split at h
       ·rename_i el D;have H:=iu (M _ _ D);refine⟨_,L ?_,h⟩;rw[ha];refine Y ?_;intro w;simp[Builtin.cap_,ht,underlying,H,goInt]
       ·exact h.elim
      ·exact h.elim
     ·exact h.elim
    ·exact h.elim
   case h_3=>
    split at h
    ·rename_i k a k' b A;refine⟨_,L ?_,h⟩;rw[N A];refine Y ?_;intro w;simp[Builtin.min_,Builtin.min2]
    ·exact h.elim
   case h_4=>
    split at h
    ·rename_i k a k' b A;refine⟨_,L ?_,h⟩;rw[N A];refine Y ?_;intro w;simp[Builtin.max_,Builtin.max2]
    ·exact h.elim
   case h_5=>
    split at h
    ·rename_i k a b A;refine⟨_,L ?_,h⟩;rw[N A];exact Y .pure
    ·exact h.elim
   case h_6=>
    split at h
    ·rename_i k a b A;refine⟨_,L ?_,h⟩;rw[N A];exact Y .pure
    ·exact h.elim
   all_goals exact h.elim
  ·exact h.elim
 all_goals exact h.elim
end
def ai(h:Heap)(a:Addr):Nat->List Value->Prop
 |_,[]=>True
 |n,v::r=>cellOf h (a.add n)=some v/\ai h a (n+1) r
structure rq where
 a:Addr
 ty:Ty
 n:Nat
def rq.holds(r:rq)(h:Heap)(y:r.ty.den):Prop:=
 match r.ty,y with
 | .sc s,y=>cellOf h r.a=some (s.enc y)
 | .agg l,y=>ai h r.a 0 (sa l y)
 | .arr s,y=>y.length=r.n/\ai h r.a 0 (y.map s.enc)
def ph(T:jW)(b:Op)(ev:Operand->Option Value):Option rq:=
 match b with
 | .load t x=>match ev x with
  |some (.pointer (some a))=>match T.get t with
   |some i=>match i.cr with
    | .struct _=>match i.ty with
     | .agg l=>bif wh l.length i.size then some ⟨a,i.ty,i.size⟩else none
     |_=>none
    | .array _ _=>match i.ty with
     | .arr _=>some ⟨a,i.ty,i.size⟩
     |_=>none
    | .other=>none
    |_=>match i.ty with
     | .sc _=>some ⟨a,i.ty,1⟩
     |_=>none
   |none=>none
  |_=>none
 |_=>none
theorem Co:∀(l:List Sc) (x:Gi l),(sa l x).length=l.length
 |[],_=>rfl
 |[_],_=>rfl
 |_::t::r,x=>by simp only[sa,zi];rw[Co (t::r) x.2];rfl
theorem run_loadCells{P:Program}{w:World}{a:Addr}:∀(vs:List Value) (i:Nat) (b:Array Value),ai w.heap a i vs->
  (loadCellsFrom a i vs.length b).run P w=.ok (b++vs.toArray) w
 |[],i,b,_=>by simp[loadCellsFrom]
 |v::r,i,b,h=>by
  simp only[zi,loadCellsFrom,Sem.run_bind,run_load,Gg,h.1,Result.andThen_ok];rw[run_loadCells r (i+1) (b.push v) h.2];simp
theorem uc{C:sH}(j:C.Ok){ev:Operand->Option Value}{e:Operand->Value}(B:∀x v,ev x=some v->e x=v){o:Oper}{r:rq}
  (b:ph C.T o.op ev=some r) {y:r.ty.den} {w:World} (d:r.holds w.heap y):(execOp e o).run C.P w=.ok (.value (r.ty.enc y)) w:=by
 unfold ph at b;split at b
 ·rename_i t x q;simp only[execOp,q];split at b
  ·rename_i a H;rw[B _ _ H];split at b
   ·rename_i i p;have g:(∀v,(loadVar t a).run C.P w=.ok v w->(do let s<-vA t (.pointer (some a));pure (Next.value s):Sem Next).run C.P w=.ok (.value v) w):=by
     intro v D;have:vA t (.pointer (some a))=loadVar t a:=rfl;rw[this,Sem.run_bind,D];rfl
    split at b
    ·rename_i F h;split at b
     ·rename_i l f;cases hb:wh l.length i.size with
      |false=>rw[hb]at b;cases b
      |true=>
       rw[hb]at b;simp only[cond_true,wG.injEq]at b;subst b;have m:=zw hb;have c:∀(ty:Ty) (y:ty.den),ty=.agg l->rq.holds ⟨a,ty,i.size⟩ w.heap y->(loadVar t a).run C.P w=.ok (ty.enc y) w:=by
        rintro ty y rfl d;unfold loadVar;rw[Sem.run_bind,(iT j p).1 F h w];simp only[Result.andThen_ok,if_true,Sem.run_bind,cJ j p w];have k:=run_loadCells (P:=C.P) (w:=w) (a:=a) (sa l y) 0 #[] d;rw[Co,m]at k;unfold loadCells;rw[k];simp
       exact g _ (c i.ty y f d)
     ·cases b
    ·rename_i n E h;split at b
     ·rename_i s f;cases b;have c:∀(ty:Ty) (y:ty.den),ty=.arr s->rq.holds ⟨a,ty,i.size⟩ w.heap y->(loadVar t a).run C.P w=.ok (ty.enc y) w:=by
       rintro ty y rfl ⟨f,d⟩;unfold loadVar;rw[Sem.run_bind,(iT j p).2.1 n E h w];simp only[Result.andThen_ok,if_true,Sem.run_bind,cJ j p w];have k:=run_loadCells (P:=C.P) (w:=w) (a:=a) (y.map s.enc) 0 #[] d;rw[List.length_map,f]at k;unfold loadCells;rw[k];simp
      exact g _ (c i.ty y f d)
     ·cases b
    ·cases b
    ·rename_i G z A;split at b
     ·rename_i s f;cases b;have c:∀(ty:Ty) (y:ty.den),ty=.sc s->rq.holds ⟨a,ty,1⟩ w.heap y->(loadVar t a).run C.P w=.ok (ty.enc y) w:=by
       rintro ty y rfl d;have u:cellOf w.heap a=some (s.enc y):=d;unfold loadVar;rw[Sem.run_bind,(iT j p).2.2 G z A w];simp[Gg,u]
      exact g _ (c i.ty y f d)
     ·cases b
   ·cases b
  ·cases b
 ·cases b
def Typed(t:Ty)(K:Value->Heap->Prop)(v:Value)(h:Heap):Prop:=∃x:t.den,v=t.enc x/\K (t.enc x) h
def Ec(t:Rt)(K:Value->Heap->Prop)(v:Value)(h:Heap):Prop:=∃x:t.den,v=t.enc x/\K (t.enc x) h
def Ed(K:Value->Heap->Prop)(v:Value)(h:Heap):Prop:=∃a:Addr,v=.pointer (some a)/\K (.pointer (some a)) h
def WT(T:jW)(t:TypeId)(tup:List (TypeId×List Ty)):Option Rt:=
 match tup.find? (fun p=>wh p.1 t)with
 |some p=>some (.many p.2)
 |none=>match T.get t with
  |some i=>some (.one i.ty)
  |none=>none
structure Ctx extends sH where
 tup:List (TypeId×List Ty)
 fns:List Bool
structure Ctx.Ok (C:Ctx):Prop extends sH.Ok C.tosH where
 fns:(C.P.funcs.toList.map fun f=>!(f.name== "runtime.NumGoroutine")&&f.body.isSome)=C.fns
def Ol(C:Ctx)(g:FuncId)(args:List Value)(t:TypeId)(K:Value->Heap->Prop)(h:Heap):Prop:=
 match C.fns[g]? with
 |some true=>match WT C.T t C.tup with
  |some r=>ac C.P g args.toArray h (Ec r K)
  |none=>False
 |_=>False
def Ee(C:Ctx)(o:Oper)(ev:Operand->Option Value)(K:Value->Heap->Prop)(h:Heap):Prop:=
 match o.op with
 | .store t a x=>match ev a,ev x with
  |some p,some v=>ab C.P (Instr.storeAt t p v) h fun _ e=>K undef e
  |_,_=>False
 | .alloc t=>ab C.P (Instr.alloc t true (.tuple #[])) h (Ed K)
 | .box t x=>match ev x with
  |some v=>ab C.P (Instr.box t v) h (Ed K)
  |none=>False
 | .makeSlice t l c=>match ev l,ev c with
  |some l,some c=>ab C.P (Instr.makeSlice t l c) h (Typed (.sc .slc) K)
  |_,_=>False
 | .buildSlice t n parts=>match xO ev parts.toList with
  |some ps=>ab C.P (Instr.buildSlice t n ps.toArray) h (Typed (.sc .slc) K)
  |none=>False
 | .makeMap t none=>ab C.P (Instr.makeMap t none) h (Typed (.sc .mp) K)
 | .lookup t x ix ok=>match ev x,ev ix,WT C.T o.type C.tup with
  |some m,some k,some r=>ab C.P (Instr.lookup t m k ok) h (Ec r K)
  |_,_,_=>False
 | .mapUpdate t m k x=>match ev m,ev k,ev x with
  |some m,some k,some v=>ab C.P (Instr.mapUpdate t m k v) h fun _ e=>K undef e
  |_,_,_=>False
 | .convert s d x=>match ev x,C.T.get o.type with
  |some v,some i=>ab C.P (convert s d v) h (Typed i.ty K)
  |_,_=>False
 | .binOp op t x y _=>match ev x,ev y,C.T.get o.type with
  |some a,some b,some i=>ab C.P (do eqGuard op t x y a b;binOp op t a b) h (Typed i.ty K)
  |some a,some b,none=>ab C.P (do eqGuard op t x y a b;binOp op t a b) h (Typed (.sc .bool) K)
  |_,_,_=>False
 | .slice t x lo hi mx=>match optVal ev lo,optVal ev hi,optVal ev mx,ev x with
  |some l,some r,some m,some v=>ab C.P (yF t v l r m) h (Typed (.sc .slc) K)
  |_,_,_,_=>False
 | .call c=>match c.callee with
  | .builtin .append=>match mN ev c.args.toList with
   |some vs=>ab C.P (Builtin.append_ c.argTypes o.type vs.toArray) h (Typed (.sc .slc) K)
   |none=>False
  | .builtin .copy=>match mN ev c.args.toList with
   |some vs=>ab C.P (Builtin.copy_ c.argTypes o.type vs.toArray) h (Typed (.sc (.int .i64)) K)
   |none=>False
  | .builtin .clear=>match mN ev c.args.toList with
   |some vs=>ab C.P (Builtin.clear_ c.argTypes o.type vs.toArray) h K
   |none=>False
  | .builtin .len=>match mN ev c.args.toList with
   |some vs=>ab C.P (vz c.argTypes o.type vs.toArray) h (Typed (.sc (.int .i64)) K)
   |none=>False
  | .builtin .unsafeString=>match mN ev c.args.toList with
   |some vs=>ab C.P (Builtin.unsafeString_ c.argTypes o.type vs.toArray) h (Typed (.sc .str) K)
   |none=>False
  | .builtin .delete=>match mN ev c.args.toList with
   |some vs=>ab C.P (Builtin.delete_ c.argTypes o.type vs.toArray) h K
   |none=>False
  | .value f=>match ev f,mN ev c.args.toList with
   |some (.func (.func g) ⟨first⟩ ⟨caps⟩),some vs=>Ol C g (first++vs++caps) o.type K h
   |_,_=>False
  |_=>False
 |_=>False
where
 optVal (ev:Operand->Option Value):Option Operand->Option (Option Value)
  |none=>some none
  |some x=>match ev x with
   |some v=>some (some v)
   |none=>none
section
variable {P:Program} {h:Heap} {K:Value->Heap->Prop}
theorem eE{s:Sem Value}(a:ab P s h K):sF P (do pure (.value (<-s))) h K:=
 ab.bind (a.mono fun _ _ b=>ab.pure' b)
theorem JE{s:Sem Unit}(c:ab P s h fun _ a=>K undef a):sF P (do s;pure .skip) h K:=
 ab.bind (c.mono fun _ _ b=>ab.pure' b)
theorem Typed.out{t:Ty}{v:Value}{h:Heap}(x:Typed t K v h):K v h:=by obtain⟨y,rfl,a⟩:=x;exact a
theorem Ec.out{t:Rt}{v:Value}{h:Heap}(x:Ec t K v h):K v h:=by obtain⟨y,rfl,a⟩:=x;exact a
theorem Ed.out{v:Value}{h:Heap}(x:Ed K v h):K v h:=by obtain⟨y,rfl,a⟩:=x;exact a
end
theorem Mq{C:Ctx}(d:C.Ok){g:FuncId}{args:List Value}{t:TypeId}{K:Value->Heap->Prop}{h:Heap}(b:Ol C g args t K h):
  sF C.P (callFunc g args.toArray) h K:=by
 unfold Ol at b;split at b
 ·rename_i e;split at b
  ·rename_i r j;have a:=congrArg (·[g]?) d.fns;simp only[qP,e]at a;cases hf:C.P.funcs.toList[g]? with
   |none=>rw[hf]at a;cases a
   |some fn=>
    rw[hf]at a;simp only[qJ,wG.injEq,qz,Bool.not_eq_true']at a;have c:C.P.funcs[g]?=some fn:=by simpa using hf
    have f:fn.body.isNone=false:=by cases hbb:fn.body<;>simp[hbb]at a⊢
    unfold callFunc;refine ab.bind (ab.SY ?_);simp only[c,a.1,f];exact ab.pure' (b.mono fun v i x=>x.out)
  ·exact b.elim
 ·exact b.elim
theorem Om{C:Ctx}(T:C.Ok){ev:Operand->Option Value}{e:Operand->Value}(A:∀x v,ev x=some v->e x=v){o:Oper}
  {K:Value->Heap->Prop} {h:Heap} (j:Ee C o ev K h):sF C.P (execOp e o) h K:=by
 have G:∀{x:Option Operand} {r:Option Value},Ee.optVal ev x=some r->x.map e=r:=by
  intro x r H;cases x with
  |none=>cases H;rfl
  |some y=>
   simp only[Ee.optVal]at H;split at H
   ·rename_i v B;cases H;rw[qJ,A _ _ B]
   ·cases H
 unfold Ee at j;split at j
 ·rename_i t a x q;simp only[execOp,q];split at j
  ·rename_i p v V B;rw[A _ _ V,A _ _ B];exact JE j
  ·exact j.elim
 ·rename_i t q;simp only[execOp,q];exact eE (j.mono fun _ _ x=>x.out)
 ·rename_i t x q;simp only[execOp,q];split at j
  ·rename_i v B;rw[A _ _ B];exact eE (j.mono fun _ _ x=>x.out)
  ·exact j.elim
 ·rename_i t l c q;simp only[execOp,q];split at j
  ·rename_i v u B W;rw[A _ _ B,A _ _ W];exact eE (j.mono fun _ _ x=>x.out)
  ·exact j.elim
 ·rename_i t n parts q;simp only[execOp,q];split at j
  ·rename_i ps M;have:(parts.map fun(i,x)=>(i,e x))=ps.toArray:=by
    apply wZ;have:=Cm A M;simpa using this
   rw[this];exact eE (j.mono fun _ _ x=>x.out)
  ·exact j.elim
 ·rename_i t q;simp only[execOp,q];exact eE (j.mono fun _ _ x=>x.out)
 ·rename_i t x ix ok q;simp only[execOp,q];split at j
  ·rename_i m k r J F R;rw[A _ _ J,A _ _ F];exact eE (j.mono fun _ _ x=>x.out)
  ·exact j.elim
 ·rename_i t m k x q;simp only[execOp,q];split at j
  ·rename_i Z k' v J F B;rw[A _ _ J,A _ _ F,A _ _ B];exact JE j
  ·exact j.elim
 ·rename_i s d x q;simp only[execOp,q];split at j
  ·rename_i v i B O;rw[A _ _ B];exact eE (j.mono fun _ _ x=>x.out)
  ·exact j.elim
 ·rename_i X t x y u q;simp only[execOp,q];split at j
  ·rename_i a b i Q N O;rw[A _ _ Q,A _ _ N];exact eE (j.mono fun _ _ x=>x.out)
  ·rename_i a b Q N O;rw[A _ _ Q,A _ _ N];exact eE (j.mono fun _ _ x=>x.out)
  ·exact j.elim
 ·rename_i t x Y O mx q;simp only[execOp,q];split at j
  ·rename_i l r m v U R J B;rw[G U,G R,G J,A _ _ B];exact eE (j.mono fun _ _ x=>x.out)
  ·exact j.elim
 ·rename_i c q;simp only[execOp,q];have w:∀{vs:List Value},mN ev c.args.toList=some vs->c.args.map e=vs.toArray:=fun B=>by
   apply wZ;simpa using ua A B
  split at j
  ·rename_i D;split at j
   ·rename_i vs z;unfold resolve;rw[D,w z];exact eE (j.mono fun _ _ x=>x.out)
   ·exact j.elim
  ·rename_i D;split at j
   ·rename_i vs z;unfold resolve;rw[D,w z];exact eE (j.mono fun _ _ x=>x.out)
   ·exact j.elim
  ·rename_i D;split at j
   ·rename_i vs z;unfold resolve;rw[D,w z];exact eE j
   ·exact j.elim
  ·rename_i D;split at j
   ·rename_i vs z;unfold resolve;rw[D,w z];exact eE (j.mono fun _ _ x=>x.out)
   ·exact j.elim
  ·rename_i D;split at j
   ·rename_i vs z;unfold resolve;rw[D,w z];exact eE (j.mono fun _ _ x=>x.out)
   ·exact j.elim
  ·rename_i D;split at j
   ·rename_i vs z;unfold resolve;rw[D,w z];exact eE j
   ·exact j.elim
  ·rename_i f D;split at j
   ·rename_i g first E vs S z
    unfold resolve;rw[D,w z];simp only[A _ _ S];have:=Mq T j;have I:(⟨first⟩:Array Value)++vs.toArray++(⟨E⟩:Array Value)=(first++vs++E).toArray:=by simp
    have L:sF C.P (callFunc g ((⟨first⟩:Array Value)++vs.toArray++(⟨E⟩:Array Value))) h K:=by rw[I];exact this
    simp only[Deferred.ofValue];exact L
   ·exact j.elim
  ·exact j.elim
 ·exact j.elim
def put(n:Nat)(a:Option Tmp)(K:Env->Heap->Prop)(ρ:Env)(v:Value)(h:Heap):Prop:=
 match a with
 |some d=>bif vt d n then K (.val d v::ρ) h else False
 |none=>K ρ h
theorem pi{n:Nat}{b:Option Tmp}{K:Env->Heap->Prop}{ρ:Env}{v:Value}{h:Heap}(c:put n b K ρ v h){a:Act}(e:Fits n a ρ):
  ∃ρ',Fits n (a.put b v) ρ'/\Ext ρ ρ' a (a.put b v)/\K ρ' h:=by
 unfold put at c;cases b with
 |none=>exact⟨ρ,e,Ext.refl _ _,c⟩
 |some d=>
  simp only at c;cases hb:vt d n with
  |false=>rw[hb]at c;exact c.elim
  |true=>rw[hb]at c;exact⟨_,e.put hb v,Ext.put v v,c⟩
def Te(C:Ctx)(n:Nat)(o:Oper)(K:Env->Heap->Prop)(ρ:Env)(h:Heap):Prop:=
 match sI C.P C.T o.op ρ.eval with
 | .no=>match ph C.T o.op ρ.eval with
  |some r=>∃y:r.ty.den,r.holds h y/\put n o.dst K ρ (r.ty.enc y) h
  |none=>Ee C o ρ.eval (put n o.dst K ρ) h
 |p=>p.holds fun v=>put n o.dst K ρ v h
def Ef(ops:Array Oper)(o:Oper)(ρ:Env)(a skip:Env->Prop):Prop:=
 match o.guard with
 |none=>a ρ
 |some (j,want)=>match(ops[j]?).bind (·.dst)with
  |some d=>match ρ.get d with
   |some (.bool b)=>Br b (bif want then a (.val d (.bool true)::ρ)else skip (.val d (.bool true)::ρ)) (bif want then skip (.val d (.bool false)::ρ)else a (.val d (.bool false)::ρ))
   |some (.tuple _)=>skip ρ
   |_=>False
  |none=>False
theorem Fits.known{n:Nat}{a:Act}{ρ:Env}(c:Fits n a ρ){d:Nat}{v:Value}(e:ρ.get d=some v):Fits n a (.val d v::ρ)/\Ext ρ (.val d v::ρ) a a:=by
 refine⟨⟨c.size,c.defers,fun t x b=>?_⟩,⟨[.val d v],rfl,fun _ _=>rfl⟩⟩;simp only[Env.get]at b;cases hb:wh d t with
 |false=>rw[hb]at b;exact c.get t x b
 |true=>
  rw[hb]at b;have:=zw hb;subst this;rw[cond_true]at b;exact c.get _ x (e.trans b)
theorem Cp{ops:Array Oper}{o:Oper}{ρ:Env}{g skip:Env->Prop}{n:Nat}{a:Act}(f:Fits n a ρ)(c:Ef ops o ρ g skip):
  ∃ρ',Fits n a ρ'/\Ext ρ ρ' a a/\((Region.wanted o (yielded ops a.tmps)=true/\g ρ')∨(Region.wanted o (yielded ops a.tmps)=false/\skip ρ')):=by
 unfold Ef at c;unfold Region.wanted;split at c
 ·rename_i m;rw[m];exact⟨ρ,f,Ext.refl _ _,.inl ⟨rfl,c⟩⟩
 ·rename_i j e m;rw[m];split at c
  ·rename_i d p;split at c
   ·rename_i b k;have l:yielded ops a.tmps j=some b:=by
     unfold yielded;rw[p];simp[f.get _ _ k]
    simp only[l];obtain⟨i,h⟩:=f.known k;cases b<;>cases e<;>simp only[Br,cond_true,cond_false]at c
    ·exact⟨_,i,h,.inl ⟨rfl,c⟩⟩
    ·exact⟨_,i,h,.inr ⟨rfl,c⟩⟩
    ·exact⟨_,i,h,.inr ⟨rfl,c⟩⟩
    ·exact⟨_,i,h,.inl ⟨rfl,c⟩⟩
   ·rename_i vs k;have l:yielded ops a.tmps j=none:=by
     unfold yielded;rw[p];simp[f.get _ _ k]
    simp only[l];exact⟨ρ,f,Ext.refl _ _,.inr ⟨by simp,c⟩⟩
   ·exact c.elim
  ·exact c.elim
theorem Qt{C:Ctx}(f:C.Ok){n:Nat}{o:Oper}{K:Env->Heap->Prop}{ρ:Env}{a:Act}{w:World}(j:Fits n a ρ)(d:Te C n o K ρ w.heap)
  {Q:Exit->Act->World->Prop} {next:Act->World->Prop}
  (t:∀a' w' ρ',Fits n a' ρ'->Ext ρ ρ' a a'->cA w w'->K ρ' w'.heap->next a' w'):o.wp C.P a w next Q:=by
 have g:∀x v,ρ.eval x=some v->a.eval x=v:=fun x v h=>j.eval h;have b:∀v w',cA w w'->put n o.dst K ρ v w'.heap->next (a.put o.dst v) w':=fun v w' k p=>by
  obtain⟨ρ',s,l,h3⟩:=pi p j;exact t _ _ _ s l k h3
 have c:(sI C.P C.T o.op ρ.eval).holds (fun v=>put n o.dst K ρ v w.heap)->o.wp C.P a w next Q:=fun h=>by
  obtain⟨v,q,i⟩:=Eb f.toOk g h;unfold Oper.wp;rw[q w];exact b v w (cA.refl w) i
 unfold Te at d;split at d
 ·split at d
  ·rename_i r e;obtain⟨y,m,i⟩:=d;unfold Oper.wp;rw[uc f.toOk g e m];exact b _ w (cA.refl w) i
  ·exact Yd (Om f g d) b
 ·exact c d
def BD(C:Ctx)(n:Nat)(ops:Array Oper)(o:Oper)(K:Env->Heap->Prop)(ρ:Env)(h:Heap):Prop:=
 Ef ops o ρ (fun ρ=>Te C n o K ρ h) (fun ρ=>put n o.dst K ρ undef h)
theorem Eg{C:Ctx}(h:C.Ok){n:Nat}{ops:Array Oper}{o:Oper}{i:Nat}(p:ops[i]?=some o){K:Env->Heap->Prop}{ρ:Env}{a:Act}{w:World}
  (f:Fits n a ρ) (l:BD C n ops o K ρ w.heap) {Q:Exit->Act->World->Prop} {next:Act->World->Prop}
  (e:∀a' w' ρ',Fits n a' ρ'->Ext ρ ρ' a a'->cA w w'->K ρ' w'.heap->next a' w'):wpOp C.P ops Q i next a w:=by
 obtain⟨ρ',d,c,h3⟩:=Cp f l;unfold wpOp;simp only[p];rcases h3 with⟨hw,hr⟩|⟨hw,hr⟩
 ·simp only[hw,if_true];exact .inl (Qt h d hr fun a' w' b q x2 x3 j=>e _ _ _ q (c.trans x2) x3 j)
 ·simp only[hw,zl,if_false];obtain⟨b,g,m,k⟩:=pi hr d;exact e _ _ _ g (c.trans m) (cA.refl w) k
def Tf(C:Ctx)(n:Nat)(ops:Array Oper)(K:Env->Heap->Prop):List Oper->Env->Heap->Prop
 |[],ρ,h=>K ρ h
 |o::r,ρ,h=>BD C n ops o (Tf C n ops K r) ρ h
def Out(n:Nat)(Q:Exit->Env->Heap->Prop)(ρ:Env)(a:Act)(w:World):Exit->Act->World->Prop:=fun e a' w'=>
 ∃ρ',Fits n a' ρ'/\Ext ρ ρ' a a'/\cA w w'/\Q e ρ' w'.heap
theorem Hn{C:Ctx}(b:C.Ok){n:Nat}{ops:Array Oper}{K:Env->Heap->Prop}{Q:Exit->Act->World->Prop}{ρ0:Env}{a0:Act}{w0:World}
  (c:∀a w ρ,Fits n a ρ->Ext ρ0 ρ a0 a->cA w0 w->K ρ w.heap->Q .normal a w):
  ∀(r:List Oper) (i:Nat),(∀j,r[j]?=ops[i+j]?)->∀(ρ:Env) (a:Act) (w:World),Fits n a ρ->Ext ρ0 ρ a0 a->cA w0 w->Tf C n ops K r ρ w.heap->
   wpOps C.P ops Q (List.range' i r.length) a w
 |[],i,_,ρ,a,w,hf,hx,hl,hs=>c a w ρ hf hx hl hs
 |o::r,i,hr,ρ,a,w,hf,hx,hl,hs=>by
  have e:ops[i]?=some o:=by simpa using(hr 0).symm
  rw[zi,List.range'_succ,wpOps_cons];refine Eg b e hf hs fun a' w' ρ' f d h3 g=>?_;exact Hn b c r (i+1) (fun j=>by have:=hr (j+1);simpa[Nat.add_assoc,Nat.add_comm 1 j]using this) ρ' a' w' f (hx.trans d) (hl.trans h3) g
abbrev aB:=List (Addr×Value)
def aB.ok:aB->Heap->Prop
 |[],_=>True
 |p::r,h=>cellOf h p.1=some p.2/\aB.ok r h
def kc(a:Addr):Nat->List Value->aB->aB
 |_,[],L=>L
 |n,v::r,L=>(a.add n,v)::kc a (n+1) r L
theorem kU{a:Addr}{h:Heap}:∀{vs:List Value} {n:Nat} {L:aB},(kc a n vs L).ok h↔ai h a n vs/\L.ok h
 |[],_,L=>by simp[kc,ai]
 |v::r,n,L=>by simp only[kc,aB.ok,ai,kU (vs:=r),and_assoc]
def rq.held(r:rq)(y:r.ty.den)(L:aB):aB:=
 match r.ty,y with
 | .sc s,y=>(r.a,s.enc y)::L
 | .agg l,y=>kc r.a 0 (sa l y) L
 | .arr s,y=>kc r.a 0 (y.map s.enc) L
theorem rq.VI{r:rq}{y:r.ty.den}{L:aB}{b:Heap}(c:r.holds b y){m:Heap}:(r.held y L).ok m↔r.holds m y/\L.ok m:=by
 obtain⟨a,ty,n⟩:=r;cases ty with
 |sc s=>exact Iff.rfl
 |agg l=>exact kU
 |arr s=>exact kU.trans ⟨fun x=>⟨⟨c.1,x.1⟩,x.2⟩,fun x=>⟨x.1.2,x.2⟩⟩
structure eN where
 op:Nat
 r:rq
 y:r.ty.den
def flat:List eN->aB
 |[]=>[]
 |p::r=>p.r.held p.y (flat r)
def eN.ok(p:eN)(w:World):Prop:=p.r.holds w.heap p.y
def waits(ops:Array Oper)(j i:Nat):Bool:=match ops[j]? with
 |some o=>o.after.any fun e=>Region.binds .any e&&wh e.on i
 |none=>false
def keep(ops:Array Oper)(j:Nat):List eN->List eN
 |[]=>[]
 |p::r=>bif waits ops j p.op then keep ops j r else p::keep ops j r
theorem mY{ops:Array Oper}{j:Nat}:∀{L:List eN},∀p∈keep ops j L,p∈L
 |[],p,h=>by cases h
 |q::r,p,h=>by
  unfold keep at h;cases hw:waits ops j q.op with
  |true=>rw[hw]at h;exact q0 _ (mY p h)
  |false=>
   rw[hw]at h;rcases zj.1 h with rfl|h
   ·exact qT
   ·exact q0 _ (mY p h)
theorem ud{ops:Array Oper}{j:Nat}:∀{L:List eN} {p:eN},p∈L->waits ops j p.op=false->p∈keep ops j L
 |q::r,p,h,hw=>by
  unfold keep;rcases zj.1 h with rfl|h
  ·rw[hw];exact qT
  ·cases hq:waits ops j q.op with
   |true=>exact ud h hw
   |false=>exact q0 _ (ud h hw)
theorem De{ops:Array Oper}{j:Nat}{p:eN}:∀{M:List eN},p∈keep ops j M->waits ops j p.op=false
 |[],h=>by cases h
 |q::r,h=>by
  unfold keep at h;cases hq:waits ops j q.op with
  |true=>rw[hq]at h;exact De h
  |false=>
   rw[hq]at h;rcases zj.1 h with rfl|h
   ·exact hq
   ·exact De h
theorem xP{ops:Array Oper}{j:Nat}{L b:List eN}(c:∀p∈b,p∈L):∀p∈keep ops j b,p∈keep ops j L:=
 fun p a=>ud (c p (mY p a)) (De a)
def jE(P:Program)(ops:Array Oper)(Q:Exit->Act->World->Prop):Nat->List eN->Array Bool->Act->World->Prop
 |0,_,listed,a,w=>Region.ready .any ops listed=[]/\Q .normal a w
 |fuel+1,L,listed,a,w=>
  (Region.ready .any ops listed=[]->Q .normal a w)/\
  ∀i∈Region.ready .any ops listed,wpOp P ops Q i (fun a' w'=>(∀p∈keep ops i L,p.ok w')/\jE P ops Q fuel (keep ops i L) (listed.setIfInBounds i true) a' w') a w
theorem Eh{P:Program}{ops:Array Oper}{Q:Exit->Act->World->Prop}:∀(c:Nat) (L:List eN) (b:Array Bool) (a:Act) (w:World),jE P ops Q c L b a w->wpAny P .any ops Q c b a w
 |0,_,_,_,_,h=>h
 |c+1,_,_,_,_,h=>⟨h.1,fun i e=>wpOp_mono (fun a' w' d=>Eh c _ _ a' w' d.2) (h.2 i e)⟩
theorem ue{P:Program}{ops:Array Oper}{Q:Exit->Act->World->Prop}:∀(c:Nat) {L e:List eN} (b:Array Bool) (a:Act) (w:World),(∀p∈e,p∈L)->jE P ops Q c L b a w->jE P ops Q c e b a w
 |0,_,_,_,_,_,_,h=>h
 |c+1,_,_,_,_,_,hs,h=>⟨h.1,fun i f=>wpOp_mono (fun a' w' d=>⟨fun p g=>d.1 p (xP hs p g),ue c _ a' w' (xP hs) d.2⟩) (h.2 i f)⟩
theorem JF{P:Program}{ops:Array Oper}{Q:Exit->Act->World->Prop}{i:Nat}{t:Oper}{v:Value}{T:World->Prop}{N:List eN}(Z:ops[i]?=some t)(x:∀(j:Nat) (o:Oper) cs b,ops[j]?=some o->o.op≠.select cs b)
  (hQ:∀c a w,Q (.panic c) (a.put t.dst v) w->Q (.panic c) a w) (hN:∀p∈N,p.op=i) (hT:∀w,(∀p∈N,p.ok w)->T w):
  ∀(f:Nat) (L:List eN) (d:Array Bool) (a:Act) (w:World),
   (∀j u,ops[j]?=some u->j≠i->d.getD j true=false->(∀e∈u.after,Region.binds .any e=true->e.on≠i)->t.apart ops u=true)->
   i∈Region.ready .any ops d->YieldsIf P ops T t v a->(∀p∈N,p.ok w)->(∀p∈L,p.ok w)->
   jE P ops Q f (N++L) (d.setIfInBounds i true) (a.put t.dst v) w->jE P ops Q (f+1) L d a w:=by
 intro f;have A:∀(f:Nat) (L:List eN) (d:Array Bool) (a:Act) (w:World),YieldsIf P ops T t v a->(∀p∈N,p.ok w)->(∀p∈L,p.ok w)->
   jE P ops Q f (N++L) (d.setIfInBounds i true) (a.put t.dst v) w->
   wpOp P ops Q i (fun a' w'=>(∀p∈keep ops i L,p.ok w')/\jE P ops Q f (keep ops i L) (d.setIfInBounds i true) a' w') a w:=fun f L d a w G q J H=>
  G.wpOp Z (hT w q) ⟨fun p g=>J p (mY p g),ue f _ _ _ (fun p g=>wQ _ (mY p g)) H⟩
 induction f with
 |zero=>
  intro L d a w _ E G q J H;refine⟨fun h=>(by rw[h]at E;cases E),fun j S=>?_⟩;by_cases l:j=i
  ·subst l;exact A 0 L d a w G q J H
  ·have:=ready_mono S l;rw[H.1]at this;cases this
 |succ f ih=>
  intro L d a w n E G q J H;refine⟨fun h=>(by rw[h]at E;cases E),fun j S=>?_⟩;by_cases l:j=i
  ·subst l;exact A (f+1) L d a w G q J H
  ·have F:=H.2 j (ready_mono S l);obtain⟨B,u,s,R⟩:=mem_ready.1 S;have z:∀e∈u.after,Region.binds .any e=true->e.on≠i:=fun e he M X=>by
    have F:=R e he M;have Y:=(mem_ready.1 E).1;rw[X]at F;rcases Nat.lt_or_ge i d.size with h'|h'
    ·simp[h']at Y F;rw[Y]at F;cases F
    ·simp[Array.getElem?_eq_none h']at F
   have K:(u.after.any fun e=>Region.binds .any e&&wh e.on i)=false:=by
    cases hc:u.after.any fun e=>Region.binds .any e&&wh e.on i with
    |false=>rfl
    |true=>
     obtain⟨k,V,M⟩:=Array.any_eq_true.1 hc;simp only[qz]at M;exact absurd (zw M.2) (z _ (Array.getElem_mem V) M.1)
   have D:waits ops j i=false:=by
    unfold waits;rw[s];exact K
   have y:∀p,p∈N->p∈keep ops j (N++L):=fun p g=>ud (List.mem_append_left _ g) (by rw[hN p g];exact D);have m:∀p,p∈keep ops j L->p∈keep ops j (N++L):=xP fun p g=>wQ _ g;have h2:=wpOp_putIf s (n j u s l B z) (fun cs b=>x i t cs b Z) (fun cs b=>x j u cs b s) hQ G F;have r:∀k ok,ops[k]?=some ok->k≠i->(d.setIfInBounds j true).getD k true=false->
     (∀e∈ok.after,Region.binds .any e=true->e.on≠i)->t.apart ops ok=true:=fun k ok V U I W=>by
    refine n k ok V U ?_ W;by_cases O:j=k
    ·subst O;exact B
    ·rw[getD_set_ne true O]at I;exact I
   refine wpOp_mono (fun a' w' h3=>⟨fun p g=>h3.2.1 p (m p g),ih (keep ops j L) (d.setIfInBounds j true) a' w' r (ready_mono E (Ne.symm l)) h3.1 (fun p g=>h3.2.1 p (y p g)) (fun p g=>h3.2.1 p (m p g)) ?_⟩) h2;rw[Array.setIfInBounds_comm _ _ l];refine ue _ _ _ _ (fun p g=>?_) h3.2.2;rcases List.mem_append.1 g with g|g
   ·exact y p g
   ·exact m p g
theorem sf{P:Program}{ops:Array Oper}{Q:Exit->Act->World->Prop}{i:Nat}{e:Oper}{v:Value}{T:World->Prop}{N:List eN}{d:Nat}{L:List eN}{b:Array Bool}{a:Act}{w:World}(g:ops[i]?=some e)
  (r:Region.noSelect ops=true) (j:Region.free .any ops b i=true) (m:(Region.ready .any ops b).contains i=true)
  (k:∀c a w,Q (.panic c) (a.put e.dst v) w->Q (.panic c) a w) (q:∀p∈N,p.op=i) (n:∀w,(∀p∈N,p.ok w)->T w) (l:YieldsIf P ops T e v a) (f:∀p∈N,p.ok w) (o:∀p∈L,p.ok w)
  (h:jE P ops Q d (N++L) (b.setIfInBounds i true) (a.put e.dst v) w):jE P ops Q (d+1) L b a w:=
 JF g (Region.noSelect_spec r) k q n d L b a w (Region.free_spec g j) (by simpa using m) l f o h
theorem Gj:∀{L:List eN} {w0:World},(∀p∈L,p.ok w0)->∀{m:Heap},(flat L).ok m->∀p∈L,p.r.holds m p.y
 |[],_,_,_,_,p,a=>by cases a
 |q::r,w0,h0,m,h,p,a=>by
  have h:=(rq.VI (h0 q qT)).1 h;rcases zj.1 a with rfl|a
  ·exact h.1
  ·exact Gj (fun p a=>h0 p (q0 _ a)) h.2 p a
def UN:Op->Bool
 | .move _| .assign _| .pick .. | .nilCheck _| .fieldAddr .. | .indexAddr .. | .index .. | .field .. | .extract .. | .binOp .. | .unOp .. | .convert .. | .build .. | .makeFunc .. | .load .. =>true
 | .slice _ _ _ _ none=>true
 | .call c=>match c.callee with
  | .builtin .len| .builtin .cap| .builtin .min| .builtin .max| .builtin .real| .builtin .imag=>true
  |_=>false
 |_=>false
def ly(ops:Array Oper)(a:Array Bool):List Nat->Option Nat
 |[]=>none
 |i::r=>match ops[i]? with
  |some o=>bif UN o.op&&Region.free .any ops a i then some i else ly ops a r
  |none=>ly ops a r
def On(C:Ctx)(n:Nat)(ops:Array Oper)(i:Nat)(o:Oper)(L:List eN)(K:List eN->Env->Heap->Prop)(ρ:Env)(h:Heap):Prop:=
 Ef ops o ρ (fun ρ=>match sI C.P C.T o.op ρ.eval with
  | .no=>match ph C.T o.op ρ.eval with
   |some r=>∃y:r.ty.den,r.holds h y/\put n o.dst (K (⟨i,r,y⟩::L)) ρ (r.ty.enc y) h
   |none=>False
  |p=>p.holds fun v=>put n o.dst (K L) ρ v h) (fun ρ=>put n o.dst (K L) ρ undef h)
def JG(C:Ctx)(n:Nat)(ops:Array Oper)(K:Nat->Env->Heap->Prop)(ρ:Env)(h:Heap):List Nat->Prop
 |[]=>True
 |[i]=>match ops[i]? with
  |some o=>BD C n ops o (K i) ρ h
  |none=>False
 |i::j::r=>(match ops[i]? with
  |some o=>BD C n ops o (K i) ρ h
  |none=>False)/\JG C n ops K ρ h (j::r)
def pj(C:Ctx)(n:Nat)(ops:Array Oper)(K:Env->Heap->Prop):Nat->Array Bool->List eN->Env->Heap->Prop
 |0,listed,_,ρ,h=>bif (Region.ready .any ops listed).isEmpty then K ρ h else False
 |k+1,listed,L,ρ,h=>match ly ops listed (Region.ready .any ops listed)with
  |some i=>match ops[i]? with
   |some o=>On C n ops i o L (pj C n ops K k (listed.setIfInBounds i true)) ρ h
   |none=>False
  |none=>match Region.ready .any ops listed with
   |[]=>K ρ h
   |i::r=>JG C n ops (fun i ρ h=>(flat (keep ops i L)).ok h/\pj C n ops K k (listed.setIfInBounds i true) (keep ops i L) ρ h) ρ h (i::r)
theorem oo{ops:Array Oper}{a:Array Bool}:∀{rs:List Nat} {i:Nat},ly ops a rs=some i->i∈rs/\Region.free .any ops a i=true
 |[],_,h=>by cases h
 |j::r,i,h=>by
  simp only[ly]at h;split at h
  ·rename_i o b;cases hb:(UN o.op&&Region.free .any ops a j)with
   |true=>
    rw[hb]at h;cases h;simp only[qz]at hb;exact⟨qT,hb.2⟩
   |false=>
    rw[hb]at h;have:=oo h;exact⟨q0 _ this.1,this.2⟩
  ·have:=oo h;exact⟨q0 _ this.1,this.2⟩
theorem Ho{C:Ctx}{n:Nat}{ops:Array Oper}{K:Nat->Env->Heap->Prop}{ρ:Env}{h:Heap}:∀{l:List Nat},JG C n ops K ρ h l->∀i∈l,∃o,ops[i]?=some o/\BD C n ops o (K i) ρ h
 |[],_,i,hi=>by cases hi
 |[j],ha,i,hi=>by
  simp only[qB]at hi;subst hi;simp only[JG]at ha;split at ha
  ·rename_i o a;exact⟨o,a,ha⟩
  ·exact ha.elim
 |j::k::r,ha,i,hi=>by
  obtain⟨b,c⟩:=ha;rcases zj.1 hi with rfl|hi
  ·split at b
   ·rename_i o a;exact⟨o,a,b⟩
   ·exact b.elim
  ·exact Ho c i hi
section
variable {C:Ctx} {n:Nat} {ops:Array Oper} {K:Env->Heap->Prop} {Q:Exit->Act->World->Prop} {ρ0:Env} {a0:Act} {w0:World}
theorem Hp(G:C.Ok)(J:Region.noSelect ops=true)
  (S:∀a w ρ,Fits n a ρ->Ext ρ0 ρ a0 a->cA w0 w->K ρ w.heap->Q .normal a w) (E:∀c a w,¬Q (.panic c) a w):
  ∀(k:Nat) (b:Array Bool) (L:List eN) (ρ:Env) (a:Act) (w:World),Fits n a ρ->Ext ρ0 ρ a0 a->cA w0 w->(∀p∈L,p.ok w)->
   pj C n ops K k b L ρ w.heap->jE C.P ops Q k L b a w
 |0,b,L,ρ,a,w,hf,hx,hl,hL,h=>by
  simp only[pj]at h;cases hb:(Region.ready .any ops b).isEmpty with
  |false=>rw[hb]at h;exact h.elim
  |true=>rw[hb]at h;exact⟨by simpa using hb,S _ _ _ hf hx hl h⟩
 |k+1,b,L,ρ,a,w,hf,hx,hl,hL,h=>by
  have H:=Hp G J S E k;simp only[pj]at h;split at h
  ·rename_i i M;obtain⟨z,f⟩:=oo M;have e:(Region.ready .any ops b).contains i=true:=by simpa using z
   split at h
   ·rename_i o B;unfold On at h;obtain⟨ρ',I,U,h3⟩:=Cp hf h;have s:∀c a w (v:Value),Q (.panic c) (Act.put a o.dst v) w->Q (.panic c) a w:=fun c a w v hq=>absurd hq (E c _ w);have Y:∀x v,Env.eval ρ' x=some v->a.eval x=v:=fun x v h=>I.eval h;rcases h3 with⟨t,g⟩|⟨t,g⟩
    ·have q:(sI C.P C.T o.op (Env.eval ρ')).holds (fun v=>put n o.dst (pj C n ops K k (b.setIfInBounds i true) L) ρ' v w.heap)->
       jE C.P ops Q (k+1) L b a w:=fun d=>by
      obtain⟨v,hv,W⟩:=Eb G.toOk Y d;obtain⟨m,u,D,A⟩:=pi W I;exact sf (N:=[]) (T:=fun _=>True) B J f e (fun c a w=>s c a w v) (fun p d=>by cases d) (fun _ _=>trivial) (.inl ⟨t,fun w _=>hv w⟩) (fun p d=>by cases d) hL
       (H _ L m _ w u (hx.trans (U.trans D)) hl hL A)
     split at g
     ·split at g
      ·rename_i r F;obtain⟨y,X,W⟩:=g;obtain⟨m,u,D,A⟩:=pi W I;have V:∀p∈[(⟨i,r,y⟩:eN)],p.ok w:=fun p d=>by rw[qB]at d;subst d;exact X
       refine sf (N:=[⟨i,r,y⟩]) (T:=fun w=>r.holds w.heap y) B J f e (fun c a w=>s c a w _) (fun p d=>by rw[qB]at d;subst d;rfl)
        (fun w h=>h ⟨i,r,y⟩ (qB.2 rfl)) (.inl ⟨t,fun w t=>uc G.toOk Y F t⟩) V hL ?_
       refine H _ (⟨i,r,y⟩::L) m _ w u (hx.trans (U.trans D)) hl (fun p d=>?_) A;rcases zj.1 d with rfl|d
       ·exact X
       ·exact hL p d
      ·exact g.elim
     ·exact q g
    ·obtain⟨m,u,D,A⟩:=pi g I;exact sf (N:=[]) (T:=fun _=>True) B J f e (fun c a w=>s c a w undef) (fun p d=>by cases d) (fun _ _=>trivial) (.inr ⟨t,rfl⟩) (fun p d=>by cases d) hL
      (H _ L m _ w u (hx.trans (U.trans D)) hl hL A)
   ·exact h.elim
  ·split at h
   ·rename_i g;exact⟨fun _=>S _ _ _ hf hx hl h,fun i M=>by rw[g]at M;cases M⟩
   ·rename_i i r g;refine⟨fun h0=>absurd (g▸h0) (by simp),fun j Z=>?_⟩;rw[g]at Z;obtain⟨o,B,R⟩:=Ho h j Z;have l:∀p∈keep ops j L,p.ok w:=fun p d=>hL p (mY p d);exact Eg G B hf R fun a' w' ρ' x1 x2 x3 O=>⟨Gj l O.1,H _ (keep ops j L) ρ' a' w' x1 (hx.trans x2) (hl.trans x3) (Gj l O.1) O.2⟩
end
def sched(ops:Array Oper):Nat->Array Bool->Option (List (Nat×Bool))
 |0,listed=>bif (Region.ready .any ops listed).isEmpty then some []else none
 |k+1,listed=>match ly ops listed (Region.ready .any ops listed)with
  |some i=>(sched ops k (listed.setIfInBounds i true)).map ((i,true)::·)
  |none=>match Region.ready .any ops listed with
   |[]=>some []
   |[i]=>(sched ops k (listed.setIfInBounds i true)).map ((i,false)::·)
   |_::_::_=>none
def nM(C:Ctx)(n:Nat)(ops:Array Oper)(K:Env->Heap->Prop):List (Nat×Bool)->List eN->Env->Heap->Prop
 |[],_,ρ,h=>K ρ h
 |(i,true)::r,L,ρ,h=>match ops[i]? with
  |some o=>On C n ops i o L (nM C n ops K r) ρ h
  |none=>False
 |(i,false)::r,L,ρ,h=>match ops[i]? with
  |some o=>BD C n ops o (fun ρ h=>(flat (keep ops i L)).ok h/\nM C n ops K r (keep ops i L) ρ h) ρ h
  |none=>False
theorem Hq{C:Ctx}{n:Nat}{ops:Array Oper}{K:Env->Heap->Prop}:∀(k:Nat) (a:Array Bool) (l:List (Nat×Bool)),sched ops k a=some l->
  pj C n ops K k a=nM C n ops K l
 |0,a,l,hs=>by
  simp only[sched]at hs;cases hb:(Region.ready .any ops a).isEmpty with
  |false=>rw[hb]at hs;cases hs
  |true=>
   rw[hb]at hs;cases hs;funext L ρ h;simp only[pj,hb,nM,cond_true]
 |k+1,a,l,hs=>by
  have d:=fun i=>Hq (C:=C) (n:=n) (ops:=ops) (K:=K) k (a.setIfInBounds i true);funext L ρ h;unfold sched at hs;unfold pj;cases hi:ly ops a (Region.ready .any ops a)with
  |some i=>
   rw[hi]at hs;obtain⟨b,c,rfl⟩:=yz.1 hs;simp only[nM,d i b c]
  |none=>
   rw[hi]at hs;generalize e:Region.ready .any ops a=rd at hs
   match rd,hs with
   |[],hs=>cases hs;simp only[nM]
   |[i],hs=>
    obtain⟨b,c,rfl⟩:=yz.1 hs;simp only[JG,nM,d i b c]
def Gk(C:Ctx)(n:Nat)(ops:Array Oper)(a:Bool)(K:Env->Heap->Prop)(ρ:Env)(h:Heap):Prop:=
 match a with
 |false=>Tf C n ops K ops.toList ρ h
 |true=>bif Region.noSelect ops then(match sched ops ops.size (y7 ops.size false)with
  |some l=>nM C n ops K l [] ρ h
  |none=>pj C n ops K ops.size (y7 ops.size false) [] ρ h)else False
theorem JH{C:Ctx}(d:C.Ok){n:Nat}{id:Nat}{ops:Array Oper}{b:Bool}{Q:Exit->Env->Heap->Prop}{ρ:Env}{a:Act}{w:World}(i:Fits n a ρ)
  (h:Gk C n ops b (Q .normal) ρ w.heap):(Code.region id ops b).wp C.P (fun e a' w'=>(∀c,e≠.panic c)/\Out n Q ρ a w e a' w') a w:=by
 cases b with
 |false=>
  refine wp_region ?_;have:=Hn d (Q:=fun e a' w'=>(∀c,e≠.panic c)/\Out n Q ρ a w e a' w') (K:=Q .normal) (ρ0:=ρ) (a0:=a) (w0:=w) (fun a' w' ρ' g x2 x3 f=>⟨fun c e=>(by cases e),ρ',g,x2,x3,f⟩)
   ops.toList 0 (fun j=>by simp) ρ a w i (Ext.refl _ _) (cA.refl _) h
  rw[List.range_eq_range'];simpa using this
 |true=>
  simp only[Gk]at h;cases hb:Region.noSelect ops with
  |false=>rw[hb]at h;exact h.elim
  |true=>
   rw[hb]at h;have h:pj C n ops (Q .normal) ops.size (y7 ops.size false) [] ρ w.heap:=by
    simp only[cond_true]at h;split at h
    ·rename_i l m;rw[Hq _ _ _ m];exact h
    ·exact h
   refine wp_region_any d.mixed (Eh _ [] _ _ _ ?_);exact Hp d hb (Q:=fun e a' w'=>(∀c,e≠.panic c)/\Out n Q ρ a w e a' w') (ρ0:=ρ) (a0:=a) (w0:=w) (fun a' w' ρ' g x2 x3 f=>⟨fun c e=>(by cases e),ρ',g,x2,x3,f⟩)
    (fun c a w k=>k.1 c rfl) _ _ [] ρ a {w with drawn:=w.drawn+1} i (Ext.refl _ _) ⟨rfl,rfl,rfl,Nat.le_succ _⟩ (fun p o=>by cases o) h
def aY{σ:Type}(rest:σ->Heap->Prop)(B:(σ->Heap->Prop)->Prop):Prop:=∃R:σ->Heap->Prop,(∀s h,R s h->rest s h)/\B R
def aN{σ:Type}(B:σ->(σ->Heap->Prop)->Heap->Prop)(s:σ)(h:Heap):Prop:=
 ∃(τ:Type) (V:τ->σ) (I:τ->Heap->Prop) (μ:τ->Nat) (t0:τ),s=V t0/\I t0 h/\∀t h,I t h->B (V t) (fun c b=>∃a,c=V a/\I a b/\μ a<μ t) h
theorem Qu{P:Program}{c:Code}{Q:Exit->Act->World->Prop}{a:Act}{w:World}{σ:Type}(R:σ->Act->World->Prop)(μ:σ->World->Nat)(t:σ)(y:R t a w)
  (i:∀s a w,R s a w->c.wp P (Exit.then (fun a' w'=>∃m,R m a' w'/\μ m w'<μ s w) Q) a w):(Code.loop c).wp P Q a w:=by
 intro b k cs;have q:∀n s a w,μ s w=n->R s a w->
   ∃e a' w',Q e a' w'/\Arrives P (lone (b.at a (.code c::.inLoop c::k)) cs w) b k cs e a' w':=by
  intro n
  induction n using Nat.strongRecOn with
  |_ n ih=>
   intro s a w B A;obtain⟨e,j,h,f,d⟩:=i s a w A b (.inLoop c::k) cs;cases e with
   |normal=>
    obtain⟨m,p,o⟩:=f;obtain⟨z,v,u,r,g⟩:=ih (μ m h) (B▸o) m j h rfl p;exact⟨z,v,u,r,.of_steps (Steps.trans d (.one step_inLoop)) g⟩
   |exit id=>exact⟨_,j,h,f,.pass (x:=.inLoop c) rfl (fun _ _=>.inl (by simp)) d⟩
   |goto l=>exact⟨_,j,h,f,.pass (x:=.inLoop c) rfl (fun _ _=>.inl (by simp)) d⟩
   |ret=>exact⟨_,j,h,f,.pass (x:=.inLoop c) rfl (fun _ _=>.inl (by simp)) d⟩
   |panic ch=>exact⟨_,j,h,f,.pass (x:=.inLoop c) rfl (fun _ _=>.inl (by simp)) d⟩
   |outgrown=>exact⟨_,j,h,f,.pass (x:=.inLoop c) rfl (fun _ _=>.inl (by simp)) d⟩
 obtain⟨e,a',w',f,d⟩:=q _ t a w rfl y;exact⟨e,a',w',f,.of_steps (.one step_loop) d⟩
inductive ak where
 |n
 |two (a b:ak)
 |inn (a:ak)
 |loop (σ:cT) (κ:cx) (a:ak)
 |join (σ:cT) (κ:cx) (a:ak)
 |scope (l:Nat) (σ:cT) (κ:cx) (pre rest:List ak) (fwd:List (Nat×List ak))
 |fwd (a:ak) (fwd:List (Nat×List ak))
def ak.fst:ak->ak
 | .two a _=>a
 |_=>.n
def ak.snd:ak->ak
 | .two _ b=>b
 |_=>.n
def ak.sub:ak->ak
 | .inn a=>a
 |_=>.n
abbrev QT:=Exit->Env->Heap->Prop
def Ei(σ:cT)(κ:cx)(ρ:Env)(K:σ.den->Heap->Prop)(Q:QT):QT
 | .normal,ρ',h=>bif within σ κ ρ' (ρ'.length-ρ.length)then(match σ.read ρ' with|some s=>K s h|none=>False)else False
 |e,ρ',h=>Q e ρ' h
def BE(next:Env->Heap->Prop)(Q:QT):QT
 | .normal,ρ,h=>next ρ h
 |e,ρ,h=>Q e ρ h
def Qv(id:Nat)(Q:QT):QT
 | .exit i,ρ,h=>bif wh i id then Q .normal ρ h else Q (.exit i) ρ h
 |e,ρ,h=>Q e ρ h
abbrev Rec:=Code->ak->QT->Env->Heap->Prop
def ru(rec:Rec):List Code->List ak->QT->Env->Heap->Prop
 |[],_,Q,ρ,h=>Q .normal ρ h
 |c::cs,[],Q,ρ,h=>rec c .n (BE (ru rec cs [] Q) Q) ρ h
 |c::cs,x::xs,Q,ρ,h=>rec c x (BE (ru rec cs xs Q) Q) ρ h
def chain:Code->Nat->Option (List Code×List Code)
 | .seq a b,l=>match chain a l with
  |some (p,r)=>some (p,r++[b])
  |none=>match chain b l with
   |some (p,r)=>some (a::p,r)
   |none=>none
 | .label l',l=>bif wh l' l then some ([],[])else none
 |_,_=>none
def UO(a:List (Nat×List ak))(l:Nat):Option (List ak):=
 match a with
 |[]=>none
 |p::r=>bif wh p.1 l then some p.2 else UO r l
def BF(rec:Rec)(c:Code)(a:List (Nat×List ak))(Q:QT):Nat->QT
 |0=>fun _ _ _=>False
 |g+1=>fun e ρ h=>match e with
  | .goto l=>match UO a l with
   |some xs=>match chain c l with
    |some (_,r)=>ru rec r xs (BF rec c a Q g) ρ h
    |none=>False
   |none=>Q (.goto l) ρ h
  |e=>Q e ρ h
def Oo(l:Nat)(σ:cT)(κ:cx)(ρ:Env)(K:σ.den->Heap->Prop)(Q:QT):QT
 | .goto l',ρ',h=>bif wh l' l then(bif within σ κ ρ' (ρ'.length-ρ.length)then(match σ.read ρ' with|some s=>K s h|none=>False)else False)else Q (.goto l') ρ' h
 |e,ρ',h=>Q e ρ' h
def JI(c:Code)(Q:QT):QT
 | .goto l,ρ,h=>match findLabel c l with
  |none=>Q (.goto l) ρ h
  |some _=>False
 |e,ρ,h=>Q e ρ h
def JJ(C:Ctx)(n:Nat)(rec:Rec)(c:Code)(d:ak)(Q:QT)(ρ:Env)(h:Heap):Prop:=
 match d with
 | .join σ κ a=>aY (fun s h=>Q .normal (σ.aV s (κ.over ρ)) h) (fun K=>rec c a (Ei σ κ ρ K Q) ρ h)
 |d=>match c with
  | .skip=>Q .normal ρ h
  | .label _=>Q .normal ρ h
  | .region _ ops draw=>Gk C n ops draw (Q .normal) ρ h
  | .seq a b=>rec a d.fst (BE (rec b d.snd Q) Q) ρ h
  | .cond x a b=>match ρ.eval x with
   |some (.bool t)=>Br t (rec a d.fst Q ρ h) (rec b d.snd Q ρ h)
   |_=>False
  | .block id c=>rec c d.sub (Qv id Q) ρ h
  | .exit id=>Q (.exit id) ρ h
  | .goto l=>Q (.goto l) ρ h
  | .ret=>Q .ret ρ h
  | .loop c=>match d with
   | .loop σ κ a=>match σ.read ρ with
    |some s0=>aN (fun s K h=>rec c a (Ei σ κ (σ.aV s (κ.over ρ)) K Q) (σ.aV s (κ.over ρ)) h) s0 h
    |none=>False
   |_=>False
  | .scope c=>match d with
   | .scope l σ κ pre rest fwd=>match chain c l with
    |some (p,r)=>ru rec p pre (BE (fun ρ' e=>match σ.read ρ' with
     |some s0=>aN (fun s K h=>ru rec r rest (BF rec c fwd (Oo l σ κ (σ.aV s (κ.over ρ')) K (JI c Q)) 4) (σ.aV s (κ.over ρ')) h) s0 e
     |none=>False) (JI c Q)) ρ h
    |none=>False
   | .fwd a fwd=>rec c a (BF rec c fwd (JI c Q) 4) ρ h
   |_=>False
  |_=>False
def vc(C:Ctx)(n:Nat):Nat->Rec
 |0=>fun _ _ _ _ _=>False
 |f+1=>JJ C n (vc C n f)
def BG(C:Ctx)(n:Nat)(rec:Rec):Prop:=∀(c:Code) (b:ak) (Q:QT) (ρ:Env) (a:Act) (w:World),Fits n a ρ->rec c b Q ρ w.heap->c.wp C.P (Out n Q ρ a w) a w
section
variable {C:Ctx} {n:Nat} {Q:QT} {ρ ρ':Env} {a a':Act} {w w':World}
theorem Out.base{e:Exit}{b:Act}{c:World}(g:Ext ρ ρ' a a')(k:cA w w')(h:Out n Q ρ' a' w' e b c):Out n Q ρ a w e b c:=by
 obtain⟨d,i,f,h3,j⟩:=h;exact⟨d,i,g.trans f,k.trans h3,j⟩
theorem Out.mono{f:QT}{e:Exit}{b:Act}{c:World}(j:∀ρ h,Q e ρ h->f e ρ h)(h:Out n Q ρ a w e b c):Out n f ρ a w e b c:=by
 obtain⟨d,i,g,h3,k⟩:=h;exact⟨d,i,g,h3,j _ _ k⟩
theorem Out.then{next:Env->Heap->Prop}{N:Act->World->Prop}{g:Exit->Act->World->Prop}{e:Exit}{b:Act}{c:World}(h:Out n (BE next Q) ρ a w e b c)
  (l:∀ρ',Fits n b ρ'->Ext ρ ρ' a b->cA w c->next ρ' c.heap->N b c) (k:Out n Q ρ a w e b c->e≠.normal->g e b c):Exit.then N g e b c:=by
 obtain⟨d,i,f,h3,j⟩:=h;cases e<;>first|exact l d i f h3 j|exact k ⟨d,i,f,h3,j⟩ (by simp)
def kV(P:Program):List Code->(Exit->Act->World->Prop)->Act->World->Prop
 |[],Q,a,w=>Q .normal a w
 |c::cs,Q,a,w=>c.wp P (Exit.then (kV P cs Q) Q) a w
theorem iF{P:Program}{Q d:Exit->Act->World->Prop}(b:∀e a w,Q e a w->d e a w):∀(l:List Code) (a:Act) (w:World),kV P l Q a w->kV P l d a w
 |[],_,_,h=>b _ _ _ h
 |c::cs,a,w,h=>wp_mono h fun e a w h=>by
  cases e<;>first|exact iF b cs a w h|exact b _ _ _ h
theorem ma{rec:Rec}(d:BG C n rec):∀(l:List Code) (xs:List ak) (Q:QT) (ρ:Env) (a:Act) (w:World),Fits n a ρ->ru rec l xs Q ρ w.heap->kV C.P l (Out n Q ρ a w) a w
 |[],_,Q,ρ,a,w,hf,h=>⟨ρ,hf,Ext.refl _ _,cA.refl _,h⟩
 |c::cs,[],Q,ρ,a,w,hf,h=>by
  refine wp_mono (d c .n _ ρ a w hf h) fun e a' w' b=>b.then (fun ρ' g x2 x3 f=>?_) (fun b _=>b);exact iF (fun e a w h=>h.base x2 x3) cs a' w' (ma d cs [] Q ρ' a' w' g f)
 |c::cs,x::xs,Q,ρ,a,w,hf,h=>by
  refine wp_mono (d c x _ ρ a w hf h) fun e a' w' b=>b.then (fun ρ' g x2 x3 f=>?_) (fun b _=>b);exact iF (fun e a w h=>h.base x2 x3) cs a' w' (ma d cs xs Q ρ' a' w' g f)
end
theorem sg{P:Program}{b:Code}{Q:Exit->Act->World->Prop}:∀(l:List Code) (a:Act) (w:World),kV P (l++[b]) Q a w->kV P l (Exit.then (b.wp P Q) Q) a w
 |[],a,w,h=>by
  refine wp_mono h fun e a w h=>?_;cases e<;>exact h
 |c::cs,a,w,h=>wp_mono h fun e a w h=>by
  cases e<;>first|exact sg cs a w h|exact h
theorem ny:∀{c:Code} {l:Nat} {p r:List Code},chain c l=some (p,r)->∃k,findLabel c l=some k/\
  (∀{P:Program} {Q:Exit->Act->World->Prop} {a:Act} {w:World},kV P r Q a w->k.wp P Q a w)/\
  (∀{P:Program} {Q:Exit->Act->World->Prop} {a:Act} {w:World},kV P p (Exit.then (kV P r Q) Q) a w->c.wp P Q a w)
 | .seq x y,l,p,r,h=>by
  simp only[chain]at h;split at h
  ·rename_i o m d;cases h;obtain⟨k,j,i,h3⟩:=ny d;refine⟨.seq k y,by simp[findLabel,j],fun{P Q a w} h=>wp_seq (i (sg m a w h)),fun{P Q a w} h=>wp_seq (h3 ?_)⟩;refine iF (fun e a w g=>?_) p a w h;cases e<;>first|exact sg m a w g|exact g
  ·rename_i d;split at h
   ·rename_i o m n;cases h;obtain⟨k,j,i,h3⟩:=ny n;have s:findLabel x l=none:=by
     clear j i h3 n
     induction x with
     |seq a b iha ihb=>
      simp only[chain]at d;split at d
      ·cases d
      ·rename_i q;split at d
       ·cases d
       ·rename_i f;simp[findLabel,iha q,ihb f]
     |label l'=>
      simp only[chain]at d;cases f:wh l' l with
      |true=>rw[f]at d;cases d
      |false=>
       have:¬l'=l:=fun e=>by subst e;simp at f
       simp[findLabel,this]
     |_=>rfl
    refine⟨k,by simp[findLabel,s,j],i,fun{P Q a w} h=>wp_seq (wp_mono h fun e a w g=>?_)⟩;cases e<;>first|exact h3 g|exact g
   ·cases h
 | .label l',l,p,r,h=>by
  simp only[chain]at h;cases f:wh l' l with
  |false=>rw[f]at h;cases h
  |true=>
   rw[f]at h;cases h;have:=zw f;subst this;exact⟨.skip,by simp[findLabel],fun h=>wp_skip h,fun h=>wp_label h⟩
 | .skip,_,_,_,h=>by cases h
 | .region ..,_,_,_,h=>by cases h
 | .cond ..,_,_,_,h=>by cases h
 | .block ..,_,_,_,h=>by cases h
 | .loop _,_,_,_,h=>by cases h
 | .rangeFunc ..,_,_,_,h=>by cases h
 | .exit _,_,_,_,h=>by cases h
 | .scope _,_,_,_,h=>by cases h
 | .goto _,_,_,_,h=>by cases h
 | .ret,_,_,_,h=>by cases h
 | .refuse _,_,_,_,h=>by cases h
section
variable {P:Program} {c:Code} {Q:Exit->Act->World->Prop} {b:Frame} {k:List Item} {cs:List Frame}
def Reach(P:Program)(c:Code)(Q:Exit->Act->World->Prop)(b:Frame)(k:List Item)(d:List Frame)(a:Act)(w:World)(r:Code):Prop:=
 ∃e a' w',Q e a' w'/\Arrives P (lone (b.at a (.code r::.inScope c::k)) d w) b k d e a' w'
def Good(P:Program)(c:Code)(Q:Exit->Act->World->Prop)(b:Frame)(k:List Item)(d:List Frame):Exit->Act->World->Prop
 | .goto l,a,w=>match findLabel c l with
  |some r=>Reach P c Q b k d a w r
  |none=>Q (.goto l) a w
 |e,a,w=>Q e a w
theorem JK{m:Machine}{e:Exit}{a:Act}{w:World}(f:Good P c Q b k cs e a w)(d:Arrives P m b (.inScope c::k) cs e a w):
  ∃e a' w',Q e a' w'/\Arrives P m b k cs e a' w':=by
 cases e with
 |normal=>exact⟨.normal,a,w,f,Steps.trans d (.one step_inScope)⟩
 |exit id=>exact⟨.exit id,a,w,f,fun j h=>d j (by simp[exitTo,h])⟩
 |goto l=>
  simp only[Good]at f;cases hf:findLabel c l with
  |none=>
   rw[hf]at f;exact⟨.goto l,a,w,f,fun j h=>d j (by simp[gotoIn,hf,h])⟩
  |some r=>
   rw[hf]at f;obtain⟨o,p,n,i,g⟩:=f;exact⟨o,p,n,i,.of_steps (d _ (by simp[gotoIn,hf])) g⟩
 |ret=>exact⟨_,a,w,f,d⟩
 |panic ch=>exact⟨_,a,w,f,d⟩
 |outgrown=>exact⟨_,a,w,f,d⟩
theorem JL{r:Code}{a:Act}{w:World}(h:r.wp P (Good P c Q b k cs) a w):Reach P c Q b k cs a w r:=by
 obtain⟨e,a',w',f,d⟩:=h b (.inScope c::k) cs;exact JK f d
theorem vi{a:Act}{w:World}(h:∀b k cs,c.wp P (Good P c Q b k cs) a w):(Code.scope c).wp P Q a w:=by
 intro b k cs;obtain⟨e,l,m,j,d⟩:=h b k cs b (.inScope c::k) cs;obtain⟨g,a',w',i,f⟩:=JK j d;exact⟨g,a',w',i,.of_steps (.one step_scope) f⟩
end
section
variable {C:Ctx} {n:Nat} {rec:Rec}
theorem uf(t:BG C n rec){c:Code}{o:List (Nat×List ak)}{q:QT}{u:Exit->Act->World->Prop}{b:Frame}{k:List Item}{s:List Frame}{ρ:Env}{a0:Act}{w0:World}
  (j:∀e f i d,Fits n i f->Ext ρ f a0 i->cA w0 d->q e f d.heap->Good C.P c u b k s e i d):
  ∀(g:Nat) (e:Exit) (f:Env) (i:Act) (d:World),Fits n i f->Ext ρ f a0 i->cA w0 d->BF rec c o q g e f d.heap->Good C.P c u b k s e i d
 |0,_,_,_,_,_,_,_,h=>h.elim
 |g+1,e,f,i,d,hf,hx,hl,h=>by
  cases e with
  |goto l=>
   simp only[BF]at h;split at h
   ·split at h
    ·rename_i p r m;obtain⟨F,B,z,_⟩:=ny m;simp only[Good,B];refine JL (z ?_);refine iF (fun e a w A=>?_) _ _ _ (ma t _ _ _ f i d hf h);obtain⟨x,v,D,y,E⟩:=A;exact uf t j g e x a w v (hx.trans D) (hl.trans y) E
    ·exact h.elim
   ·exact j _ _ _ _ hf hx hl h
  |normal=>exact j _ _ _ _ hf hx hl h
  |exit id=>exact j _ _ _ _ hf hx hl h
  |ret=>exact j _ _ _ _ hf hx hl h
  |panic ch=>exact j _ _ _ _ hf hx hl h
  |outgrown=>exact j _ _ _ _ hf hx hl h
theorem lK{c:Code}{Q:QT}{b:Frame}{k:List Item}{m:List Frame}{ρ:Env}{a0:Act}{w0:World}{e:Exit}{a:Env}{j:Act}{i:World}
  (d:Fits n j a) (f:Ext ρ a a0 j) (g:cA w0 i) (h:JI c Q e a i.heap):Good C.P c (Out n Q ρ a0 w0) b k m e j i:=by
 cases e with
 |goto l=>
  simp only[JI]at h;simp only[Good];split at h
  ·rename_i o;simp only[o];exact⟨a,d,f,g,h⟩
  ·exact h.elim
 |normal=>exact⟨a,d,f,g,h⟩
 |exit id=>exact⟨a,d,f,g,h⟩
 |ret=>exact⟨a,d,f,g,h⟩
 |panic ch=>exact⟨a,d,f,g,h⟩
 |outgrown=>exact⟨a,d,f,g,h⟩
theorem Hr{a:Act}{σ:cT}{κ:cx}{ρ:Env}{s:σ.den}(b:Fits n a ρ)(c:σ.read ρ=some s):Fits n a (σ.aV s (κ.over ρ))/\Ext ρ (σ.aV s (κ.over ρ)) a a:=
 b.mX b (fun _ _ _=>rfl) c
theorem Mr(L:BG C n rec){c:Code}{l:Nat}{σ:cT}{κ:cx}{pre rest:List ak}{H:List (Nat×List ak)}{p r:List Code}(X:chain c l=some (p,r)){Q:QT}{ρ:Env}{a:Act}{w:World}(Y:Fits n a ρ)
  (h:ru rec p pre (BE (fun ρ' h'=>match σ.read ρ' with
     |some O=>aN (fun s K h=>ru rec r rest (BF rec c H (Oo l σ κ (σ.aV s (κ.over ρ')) K (JI c Q)) 4) (σ.aV s (κ.over ρ')) h) O h'
     |none=>False) (JI c Q)) ρ w.heap):(Code.scope c).wp C.P (Out n Q ρ a w) a w:=by
 refine vi fun b k cs=>?_;obtain⟨kk,h1,h2,h3⟩:=ny X;refine h3 (iF (fun e a' w' x=>?_) _ _ _ (ma L _ _ _ ρ a w Y h));refine x.then (fun ρ' S x2 x3 F=>?_) (fun x _=>?_)
 ·split at F
  ·rename_i O E;obtain⟨τ,V,I,μ,t0,W,hI,i⟩:=F;subst W;have g:=Hr (κ:=κ) S E;have y:∀(m:Nat) (t:τ) (v:Act) (u:World),μ t=m->I t u.heap->Fits n v (σ.aV (V t) (κ.over ρ'))->Ext ρ' (σ.aV (V t) (κ.over ρ')) a' v->cA w' u->
     kV C.P r (Good C.P c (Out n Q ρ a w) b k cs) v u:=by
    intro m
    induction m using Nat.strongRecOn with
    |_ m ih=>
     intro t v u hm B A f d;refine iF (fun e a2 w2 x=>?_) _ _ _ (ma L _ _ _ _ v u A (i t u.heap B));obtain⟨ρ2,z,G,J,D⟩:=x;refine uf L (ρ:=σ.aV (V t) (κ.over ρ')) (a0:=v) (w0:=u) (fun e R a3 w3 o j z3 z4=>?_) 4 e ρ2 a2 w2 z G J D;cases e with
     |goto l'=>
      simp only[Oo]at z4;cases hb:wh l' l with
      |false=>
       rw[hb]at z4;exact lK o (x2.trans (f.trans j)) (x3.trans (d.trans z3)) z4
      |true=>
       rw[hb]at z4;have:=zw hb;subst this;simp only[Good,h1];cases hw:within σ κ R (R.length-(σ.aV (V t) (κ.over ρ')).length)with
       |false=>rw[hw]at z4;exact z4.elim
       |true=>
        rw[hw]at z4;simp only[cond_true]at z4;split at z4
        ·rename_i s' M;have q:∀t,σ.has t=false->(κ.over []).dn t=false->a3.tmps[t]?=a'.tmps[t]?:=fun t T N=>by
          rw[j.within hw t T N,f.mX t T N]
         obtain⟨U,Z⟩:=S.mX (κ:=κ) o q M;obtain⟨t',e1,i1,i2⟩:=z4;subst e1;exact JL (h2 (ih _ (by rw[<-hm];exact i2) t' a3 w3 rfl i1 U Z (d.trans z3)))
        ·exact z4.elim
     |normal=>exact lK o (x2.trans (f.trans j)) (x3.trans (d.trans z3)) z4
     |exit id=>exact lK o (x2.trans (f.trans j)) (x3.trans (d.trans z3)) z4
     |ret=>exact lK o (x2.trans (f.trans j)) (x3.trans (d.trans z3)) z4
     |panic ch=>exact lK o (x2.trans (f.trans j)) (x3.trans (d.trans z3)) z4
     |outgrown=>exact lK o (x2.trans (f.trans j)) (x3.trans (d.trans z3)) z4
   exact y _ t0 a' w' rfl hI g.1 g.2 (cA.refl _)
  ·exact F.elim
 ·obtain⟨ρ1,z,G,J,D⟩:=x;exact lK z G J D
theorem VJ(N:C.Ok)(o:BG C n rec):BG C n (JJ C n rec):=by
 intro c ad Q ρ a w g h;have q:∀{σ:cT} {κ:cx} {K:σ.den->Heap->Prop} {e:Exit} {a':Act} {w':World},Out n (Ei σ κ ρ K Q) ρ a w e a' w'->(∀s h,K s h->Q .normal (σ.aV s (κ.over ρ)) h)->Out n Q ρ a w e a' w':=by
  intro σ κ K e a' w' j hk;obtain⟨ρ',f,x2,x3,d⟩:=j;cases e with
  |normal=>
   simp only[Ei]at d;cases hw:within σ κ ρ' (ρ'.length-ρ.length)with
   |false=>rw[hw]at d;exact d.elim
   |true=>
    rw[hw]at d;simp only[cond_true]at d;split at d
    ·rename_i s Y;obtain⟨E,F⟩:=g.mX (κ:=κ) f (x2.within hw) Y;exact⟨_,E,F,x3,hk _ _ d⟩
    ·exact d.elim
  |exit id=>exact⟨ρ',f,x2,x3,d⟩
  |goto l=>exact⟨ρ',f,x2,x3,d⟩
  |ret=>exact⟨ρ',f,x2,x3,d⟩
  |panic ch=>exact⟨ρ',f,x2,x3,d⟩
  |outgrown=>exact⟨ρ',f,x2,x3,d⟩
 unfold JJ at h;split at h
 ·rename_i σ κ x;obtain⟨K,S,O⟩:=h;exact wp_mono (o c x _ ρ a w g O) fun e a' w' j=>q j S
 ·split at h
  ·exact wp_skip ⟨ρ,g,Ext.refl _ _,cA.refl _,h⟩
  ·exact wp_label ⟨ρ,g,Ext.refl _ _,cA.refl _,h⟩
  ·exact wp_mono (JH N g h) fun e a' w' j=>j.2
  ·rename_i x y;refine wp_seq (wp_mono (o x _ _ ρ a w g h) fun e a' w' j=>j.then (fun ρ' f x2 x3 d=>?_) (fun j _=>j));exact wp_mono (o y _ _ ρ' a' w' f d) fun e P am j=>j.base x2 x3
  ·rename_i x y z;split at h
   ·rename_i t W;refine wp_cond_split (g.eval W) (fun e=>?_) (fun e=>?_)
    ·subst e;exact o y _ _ ρ a w g h
    ·subst e;exact o z _ _ ρ a w g h
   ·exact h.elim
  ·rename_i id x;refine wp_block (wp_mono (o x _ _ ρ a w g h) fun e a' w' j=>?_);obtain⟨ρ',f,x2,x3,d⟩:=j;cases e with
   |exit i=>
    simp only[Exit.inBlock];simp only[Qv]at d;cases hb:wh i id with
    |true=>
     rw[hb]at d;rw[if_pos (zw hb)];exact⟨ρ',f,x2,x3,d⟩
    |false=>
     rw[hb]at d;rw[if_neg (fun e=>by subst e;simp at hb)];exact⟨ρ',f,x2,x3,d⟩
   |normal=>exact⟨ρ',f,x2,x3,d⟩
   |goto l=>exact⟨ρ',f,x2,x3,d⟩
   |ret=>exact⟨ρ',f,x2,x3,d⟩
   |panic ch=>exact⟨ρ',f,x2,x3,d⟩
   |outgrown=>exact⟨ρ',f,x2,x3,d⟩
  ·exact wp_exit ⟨ρ,g,Ext.refl _ _,cA.refl _,h⟩
  ·exact wp_goto ⟨ρ,g,Ext.refl _ _,cA.refl _,h⟩
  ·exact wp_ret ⟨ρ,g,Ext.refl _ _,cA.refl _,h⟩
  ·rename_i x;split at h
   ·rename_i σ κ y _;split at h
    ·rename_i s0 J;obtain⟨τ,V,I,μ,t0,U,Z,u⟩:=h;subst U;have m:=Hr (κ:=κ) g J;refine Qu (σ:=τ) (fun t D B=>Fits n D (σ.aV (V t) (κ.over ρ))/\Ext ρ (σ.aV (V t) (κ.over ρ)) a D/\cA w B/\I t B.heap) (fun t _=>μ t) t0 ⟨m.1,m.2,cA.refl _,Z⟩ ?_;rintro t D B ⟨G,v,z3,z4⟩;refine wp_mono (o x y _ _ D B G (u t _ z4)) fun e R w2 j=>?_;obtain⟨ρ',f,x2,x3,d⟩:=j;cases e with
     |normal=>
      simp only[Ei]at d;cases hw:within σ κ ρ' (ρ'.length-(σ.aV (V t) (κ.over ρ)).length)with
      |false=>rw[hw]at d;exact d.elim
      |true=>
       rw[hw]at d;simp only[cond_true]at d;split at d
       ·rename_i s' H;have A:∀t,σ.has t=false->(κ.over []).dn t=false->R.tmps[t]?=a.tmps[t]?:=fun t M L=>by
         rw[x2.within hw t M L,v.mX t M L]
        obtain⟨E,F⟩:=g.mX (κ:=κ) f A H;obtain⟨t',T,i1,X⟩:=d;subst T;exact⟨t',⟨E,F,z3.trans x3,i1⟩,X⟩
       ·exact d.elim
     |exit id=>exact⟨ρ',f,v.trans x2,z3.trans x3,d⟩
     |goto l=>exact⟨ρ',f,v.trans x2,z3.trans x3,d⟩
     |ret=>exact⟨ρ',f,v.trans x2,z3.trans x3,d⟩
     |panic ch=>exact⟨ρ',f,v.trans x2,z3.trans x3,d⟩
     |outgrown=>exact⟨ρ',f,v.trans x2,z3.trans x3,d⟩
    ·exact h.elim
   ·exact h.elim
  ·rename_i x;split at h
   ·split at h
    ·rename_i p r hc;exact Mr o hc g h
    ·exact h.elim
   ·refine vi fun b k cs=>wp_mono (o x _ _ ρ a w g h) fun e a' w' j=>?_;obtain⟨ρ',f,x2,x3,d⟩:=j;exact uf o (ρ:=ρ) (a0:=a) (w0:=w) (fun e ρ3 a3 w3 G v z3 z4=>lK G v z3 z4) 4 e ρ' a' w' f x2 x3 d
   ·exact h.elim
  ·exact h.elim
theorem JM(a:C.Ok):∀f,BG C n (vc C n f)
 |0=>fun _ _ _ _ _ _ _ h=>h.elim
 |f+1=>VJ a (JM a f)
end
def xQ(C:Ctx)(ρ:Env):List ResultVar->(List Value->Prop)->Heap->Prop
 |[],K,_=>K []
 | .tmp t::r,K,h=>match ρ.get t with
  |some v=>xQ C ρ r (fun vs=>K (v::vs)) h
  |none=>False
 | .cell a t::r,K,h=>match ph C.T (.load t (.tmp a)) ρ.eval with
  |some q=>∃y:q.ty.den,q.holds h y/\xQ C ρ r (fun vs=>K (q.ty.enc y::vs)) h
  |none=>False
def xR:List Value->Value
 |[v]=>v
 |vs=>.tuple vs.toArray
def Yy(C:Ctx)(rs:List ResultVar)(R:Value->Heap->Prop):QT
 | .normal,ρ,h=>xQ C ρ rs (fun vs=>R (xR vs) h) h
 | .ret,ρ,h=>xQ C ρ rs (fun vs=>R (xR vs) h) h
 |_,_,_=>False
def xS:Nat->List Value->Env
 |_,[]=>[]
 |n,v::r=>.val n v::xS (n+1) r
def WU(C:Ctx)(d:Func)(a:Nat)(b:ak)(args:List Value)(R:Value->Heap->Prop)(h:Heap):Prop:=
 match d.body with
 |some c=>vc C d.ntmps a c b (Yy C d.results.toList R) (xS 0 args) h
 |none=>False
theorem Ej:∀{args:List Value} {n t:Nat} {v:Value},(xS n args).get t=some v->n<=t/\args[t-n]?=some v
 |[],_,_,_,h=>by cases h
 |u::r,n,t,v,h=>by
  simp only[xS,Env.get]at h;cases hb:wh n t with
  |true=>
   rw[hb]at h;have:=zw hb;subst this;simpa using h
  |false=>
   rw[hb]at h;obtain⟨c,a⟩:=Ej (args:=r) h;refine⟨by omega,?_⟩;obtain⟨k,b⟩:∃k,t-n=k+1:=⟨t-(n+1),by omega⟩
   rw[b,List.getElem?_cons_succ];have:t-(n+1)=k:=by omega
   rw[<-this];exact a
theorem Tg{C:sH}(f:C.Ok){ev:Operand->Option Value}{e:Operand->Value}(g:∀x v,ev x=some v->e x=v){t:TypeId}{x:Operand}{q:rq}
  (h:ph C.T (.load t x) ev=some q) {y:q.ty.den} {w:World} (d:q.holds w.heap y):(vA t (e x)).run C.P w=.ok (q.ty.enc y) w:=by
 have c:(do pure (Next.value (<-vA t (e x))):Sem Next).run C.P w=.ok (.value (q.ty.enc y)) w:=uc f g (o:=⟨none,.load t x,0, "",#[],none⟩) h d;rw[Sem.run_bind]at c;cases hr:(vA t (e x)).run C.P w with
 |halt a b=>rw[hr]at c;cases c
 |ok v w'=>
  rw[hr]at c;simp only[Result.andThen_ok]at c;cases c;rfl
theorem xT{C:Ctx}(g:C.Ok){n:Nat}{a:Act}{ρ:Env}(d:Fits n a ρ):∀{rs:List ResultVar} {K:List Value->Prop} {w:World},xQ C ρ rs K w.heap->
  ∃vs,(rs.mapM (fun| .tmp t=>pure (a.tmps.getD t undef)| .cell x t=>(do loadVar t (<-asAddr (a.tmps.getD x undef)):Sem Value)):Sem (List Value)).run C.P w=.ok vs w/\K vs
 |[],K,w,h=>⟨[],rfl,h⟩
 | .tmp t::r,K,w,h=>by
  simp only[xQ]at h;split at h
  ·rename_i v s;obtain⟨vs,k,j⟩:=xT g d h;refine⟨v::vs,?_,j⟩;have i:a.tmps.getD t undef=v:=by simp[Array.getD_eq_getD_getElem?,d.get t v s]
   rw[List.mapM_cons,Sem.run_bind,Sem.run_pure,Result.andThen_ok,Sem.run_bind,k,i];rfl
  ·exact h.elim
 | .cell x t::r,K,w,h=>by
  simp only[xQ]at h;split at h
  ·rename_i q f;obtain⟨y,p,h⟩:=h;obtain⟨vs,k,j⟩:=xT g d h;refine⟨q.ty.enc y::vs,?_,j⟩;have m:=Tg g.toOk (e:=a.eval) (fun x v h=>d.eval h) f p;have o:∃c,a.eval (.tmp x)=.pointer (some c):=by
    unfold ph at f;simp only at f;split at f
    ·rename_i c b;exact⟨c,d.eval b⟩
    ·cases f
   obtain⟨c,b⟩:=o;have i:a.tmps.getD x undef=.pointer (some c):=b;rw[b]at m;rw[List.mapM_cons,Sem.run_bind];simp only[i];have l:(do loadVar t (<-asAddr (.pointer (some c))):Sem Value).run C.P w=.ok (q.ty.enc y) w:=m;rw[l,Result.andThen_ok,Sem.run_bind,k];rfl
  ·exact h.elim
theorem VK{C:Ctx}(l:C.Ok){f:FuncId}{d:Func}(p:C.P.funcs[f]?=some d){a:Nat}{i:ak}{args:List Value}(z:args.length<=d.ntmps){R:Value->Heap->Prop}{h:Heap}
  (j:WU C d a i args R h):ac C.P f args.toArray h R:=by
 rintro w rfl;unfold WU at j;split at j
 ·rename_i c y;refine calls_of_wp p y ?_;have b:Fits d.ntmps {tmps:=args.toArray++y7 (d.ntmps-args.toArray.size) undef,defers:=[]} (xS 0 args):=by
   refine⟨by simp;omega,rfl,fun t v u=>?_⟩;obtain⟨_,g⟩:=Ej u;rw[Nat.sub_zero]at g;have k:t<args.length:=(qk.1 g).1;simp only[Array.getElem?_append,List.size_toArray,k,if_true,List.getElem?_toArray];exact g
  refine wp_mono (JM l a c i _ _ _ w b j) fun e a' w' q=>?_;obtain⟨ρ',o,x2,x3,m⟩:=q;have fin:xQ C ρ' d.results.toList (fun vs=>R (xR vs) w'.heap) w'.heap->a'.defers=[]/\∃v,(results d a'.tmps).run C.P w'=.ok v w'/\(∃n,Ending.returned v=.returned n/\cA w w'/\R n w'.heap):=fun s=>by
   obtain⟨vs,x,g⟩:=xT l o s;refine⟨o.defers,xR vs,?_,xR vs,rfl,x3,g⟩;unfold results;rw[yR,map_eq_pure_bind,bind_assoc,Sem.run_bind];refine(congrArg (fun r=>Result.andThen r _) x).trans ?_;simp only[Result.andThen_ok,pure_bind,Sem.run_pure];cases vs with
   |nil=>rfl
   |cons v r=>cases r<;>rfl
  cases e<;>first|exact fin m|exact m.elim
 ·exact j.elim
theorem ao{C:Ctx}(g:C.Ok){f:FuncId}{b:Func}(c:C.P.funcs[f]?=some b)(a:ak){args:List Value}{R:Value->Heap->Prop}{h:Heap}{Q:Prop}(i:Q)
  (d:vN args.length b.ntmps=true:=by kernel_rfl) (e:WU C b 300 a args R h=Q:=by kernel_rfl):ac C.P f args.toArray h R:=VK g c (wP d) (cast e.symm i)
def av(P:Program)(s:Sem Value)(r:Rt)(h:Heap)(K:r.den->Heap->Prop):Prop:=ab P s h fun v a=>∃x:r.den,v=r.enc x/\K x a
def aI(P:Program)(s:Sem Value)(h:Heap)(K:Addr->Heap->Prop):Prop:=ab P s h fun v b=>∃a:Addr,v=.pointer (some a)/\K a b
def ae(P:Program)(f:FuncId)(args:Array Value)(r:Rt)(h:Heap)(K:r.den->Heap->Prop):Prop:=ac P f args h fun v a=>∃x:r.den,v=r.enc x/\K x a
def gy(C:Ctx)(g:FuncId)(args:List Value)(r:Rt)(h:Heap)(K:r.den->Heap->Prop):Prop:=
 match C.fns[g]? with
 |some true=>ae C.P g args.toArray r h K
 |_=>False
theorem eZ{C:Ctx}{g:FuncId}{args:List Value}{r:Rt}{h:Heap}{K:r.den->Heap->Prop}(b:C.fns[g]?=some true)(a:ae C.P g args.toArray r h K):gy C g args r h K:=by
 unfold gy;rw[b];exact a
end Go.Vc
abbrev bR:=List (List UInt8)
abbrev aL:=List UInt8
abbrev Oq:=List (List Int)
abbrev aD:=List Int
abbrev aM:=Option Go.Addr
abbrev aQ:=List Go.Value
abbrev ug:=Go.Value->Go.Vc.Heap->Prop
abbrev cq:=Go.FuncId×Array Go.Value×Array Go.Value
abbrev Go.Vc.ak.tn(a:Go.Vc.ak):Go.Vc.ak:=.two .n a
