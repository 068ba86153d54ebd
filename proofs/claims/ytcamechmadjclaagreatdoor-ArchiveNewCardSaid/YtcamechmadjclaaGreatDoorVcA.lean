/- Part of the proofs that the laws of this seat answer true whatever the input reads, and leave it as it was; no condition. -/
import Derived.Calls
import Derived.Orders
import Derived.Scope
import Derived.KernelRfl
import Derived.Laws.Sem
import Derived.OrdersHeld
set_option linter.unusedVariables false
set_option linter.unusedSimpArgs false
open Nat renaming add_assoc -> z8, beq -> q7, ble -> wH, blt -> wA, eq_of_beq_eq_true -> qD, le_of_ble_eq_true -> zk, le_refl -> qM, le_trans -> zw, mul_one -> za
open Bool renaming and_eq_true -> qB, false_eq_true -> qJ, not_false -> zP, not_true -> zM, or_eq_false_iff -> zJ, or_false -> wG
open List renaming append_assoc -> qp, cons_append -> zm, getElem?_cons_succ -> qe, getElem?_eq_some_iff -> qn, getElem?_map -> qE, getElem?_toArray -> q6, length_cons -> qV, length_map -> qT, map_cons -> zO, mem_append -> qZ, mem_cons -> zA, mem_cons_of_mem -> qX, mem_cons_self -> zg, mem_singleton -> qz, range -> zf, size_toArray -> zq
open BitVec renaming ofInt -> qq
open Go.IntKind renaming i64 -> wO
open Go.Instr renaming alloc -> qC, box -> qA, build -> zy, buildSlice -> qg, fill -> zD, loadAt -> wD, makeSlice -> wc, sliceAt -> zV, sliceBounds -> zh, storeAt -> qb
open Prod renaming fst -> qL, snd -> wE
open Option renaming map_eq_some_iff -> zR, map_some -> qQ, some -> zQ
open Array renaming ext' -> zN, getElem?_eq_some_iff -> zX, getElem?_toList -> wy, mapM_eq_mapM_toList -> z6, replicate -> we
open Go.Builtin renaming append_ -> qh, copy_ -> zd
namespace Go.Vc
open Go
abbrev Heap:=Array Obj
def cellOf(h:Heap)(a:Addr):Option Value:=
 match h[a.block]? with
 |some (.cells c _ _)=>if a.spot.isSome then none else c[a.off]?
 |_=>none
def tH(h:Heap)(a:Addr):Bool:=
 match h[a.block]? with
 |some (.cells _ _ (lo,hi))=>lo<=a.off&&a.off<hi
 |_=>false
def lQ(h:Heap)(a:Addr)(v:Value):Heap:=
 h.modify a.block fun
  | .cells c elem frozen=>.cells (if a.spot.isSome then c else c.setIfInBounds a.off v) elem frozen
  |o=>o
def shapeOf(h:Heap)(r:Nat):Option (TypeId×Nat):=match h[r]? with|some (.cells c elem _)=>some (elem,c.size)|_=>none
theorem vt(w:World)(r:Nat):w.shape? r=shapeOf w.heap r:=rfl
theorem oJ(w:World)(a:Addr):w.cell? a=cellOf w.heap a:=rfl
theorem wZ(w:World)(a:Addr):w.frozen? a=tH w.heap a:=rfl
theorem xa(w:World)(a:Addr)(v:Value):(w.setCell a v).heap=lQ w.heap a v:=rfl
structure bm (w w':World):Prop where
 os:w'.os=w.os
 tape:w'.tape=w.tape
 output:w'.output=w.output
 drawn:w.drawn<=w'.drawn
theorem bm.refl(w:World):bm w w:=⟨rfl,rfl,rfl,qM _⟩
theorem bm.trans{a b c:World}(h:bm a b)(k:bm b c):bm a c:=⟨k.os.trans h.os,k.tape.trans h.tape,k.output.trans h.output,zw h.drawn k.drawn⟩
def ac(P:Program)(f:FuncId)(args:Array Value)(h:Heap)(R:Value->Heap->Prop):Prop:=
 ∀w,w.heap=h->Calls P f args w fun e w'=>∃v,e=.returned v/\bm w w'/\R v w'.heap
theorem ac.mono{P:Program}{f:FuncId}{args:Array Value}{h:Heap}{R b:Value->Heap->Prop}(d:ac P f args h R)
  (c:∀v a,R v a->b v a):ac P f args h b:=fun w e=>
 (d w e).mono fun _ _ ⟨v,g,i,r⟩=>⟨v,g,i,c _ _ r⟩
def ab{α:Type}(P:Program)(s:Sem α)(h:Heap)(K:α->Heap->Prop):Prop:=
 ∀w,w.heap=h->∃v w',s.run P w=.ok v w'/\bm w w'/\K v w'.heap
section
variable {α β:Type} {P:Program} {h:Heap}
theorem ab.pure'{K:α->Heap->Prop}{a:α}(c:K a h):ab P (Pure.pure a) h K:=fun w b=>⟨a,w,rfl,bm.refl w,by rw[b];exact c⟩
theorem ab.bind{s:Sem α}{f:α->Sem β}{K:β->Heap->Prop}(j:ab P s h fun v g=>ab P (f v) g K):ab P (s>>=f) h K:=by
 intro w i;obtain⟨v,w',e,l,m⟩:=j w i;obtain⟨k,a,d,c,b⟩:=m w' rfl;exact⟨k,a,by rw[Sem.run_bind,e];exact d,l.trans c,b⟩
theorem ab.mono{s:Sem α}{K e:α->Heap->Prop}(f:ab P s h K)(i:∀v d,K v d->e v d):ab P s h e:=fun w g=>
 let⟨v,w',a,b,c⟩:=f w g;⟨v,w',a,b,i _ _ c⟩
theorem ab.vu{K:Program->Heap->Prop}(b:K P h):ab P program h K:=fun w a=>⟨P,w,rfl,bm.refl w,by rw[a];exact b⟩
theorem ab.xq{a:Addr}{v v0:Value}{m:Mode}{K:Unit->Heap->Prop}(c:v.oneCell'=true)(f:cellOf h a=some v0)(d:tH h a=false)(e:K () (lQ h a v)):
  ab P (store a v m) h K:=fun w b=>
 ⟨(),w.setCell a v,by rw[run_store _ _ _ _ _ c,oJ,b,f];simp[wZ,b,d],⟨rfl,rfl,rfl,qM _⟩,by rw[xa,b];exact e⟩
theorem ab.gk{o:Obj}{K:Nat->Heap->Prop}(b:K h.size (h.push o)):ab P (newObj o) h K:=fun w a=>
 ⟨w.heap.size,_,run_newObj P w o,⟨rfl,rfl,rfl,qM _⟩,by simp only[a];exact b⟩
theorem ab.nv{n:Nat}{K:Unit->Heap->Prop}(b:K () h):ab P (askRoom n) h K:=fun w a=>⟨(),w,run_askRoom P w n,bm.refl w,by rw[a];exact b⟩
theorem ab.oK{q:Question}{K:Nat->Heap->Prop}(b:(q.forced=true->K 0 h)/\(q.forced=false->∀n,K (q.cut n) h)):ab P (choose q) h K:=by
 intro w a;cases hq:q.forced with
 |true=>exact⟨0,w,by rw[run_choose,hq];rfl,bm.refl w,by rw[a];exact b.1 hq⟩
 |false=>exact⟨q.cut (w.tape w.drawn q),{w with drawn:=w.drawn+1},by rw[run_choose,hq];rfl,⟨rfl,rfl,rfl,Nat.le_succ _⟩,by show K _ w.heap;rw[a];exact b.2 hq _⟩
theorem ab.xb{r:Nat}{o:Obj}{K:Obj->Heap->Prop}(b:h[r]?=some o)(g:∀c e f,o≠.cells c e f)(d:K o h):ab P (getObj r) h K:=fun w a=>by
 refine⟨o,w,?_,bm.refl w,by rw[a];exact d⟩;simp only[getObj,Sem.run,a,b]
theorem ab.xr{r:Nat}{K:Option (TypeId×Nat)->Heap->Prop}(b:K (shapeOf h r) h):ab P (shape r) h K:=fun w a=>
 ⟨_,w,run_shape P w r,bm.refl w,by rw[a,vt,a];exact b⟩
end
def kn(P:Program)(s:Sem Next)(h:Heap)(K:Value->Heap->Prop):Prop:=
 ab P s h fun b a=>match b with
  | .value v=>K v a
  | .skip=>K undef a
  | .enter f args=>ac P f args a K
  |_=>False
theorem xQ{P:Program}{o:Oper}{a:Act}{w:World}{K:Value->Heap->Prop}{Q:Exit->Act->World->Prop}
  (k:kn P (execOp a.eval o) w.heap K) {next:Act->World->Prop}
  (c:∀v w',bm w w'->K v w'.heap->next (a.put o.dst v) w'):o.wp P a w next Q:=by
 obtain⟨i,w',h,d,b⟩:=k w rfl;unfold Oper.wp;rw[h];cases i<;>simp only at b<;>simp only[Oper.upon]
 case value v=>exact c _ _ d b
 case skip=>exact c _ _ d b
 case enter f args=>
  refine(b w' rfl).mono ?_;rintro e j ⟨v,rfl,g,r⟩;exact c _ _ (d.trans g) r
structure Sl where
 ptr:Option Addr
 len:Nat
 cap:Nat
 deriving Inhabited
inductive Sc where
 |int (k:IntKind)|bool|str|ptr|slc|flt (k:FloatKind)|cpx (k:FloatKind)|mp|fn|any|adr
@[reducible] def Sc.den:Sc->Type
 | .int _=>Int
 | .bool=>Bool
 | .str=>ByteArray
 | .ptr=>Option Addr
 | .slc=>Sl
 | .flt _=>Nat
 | .cpx _=>Nat×Nat
 | .mp=>Option Nat
 | .fn=>FuncId×Array Value×Array Value
 | .any=>Value
 | .adr=>Addr
@[reducible] def Sc.enc:(s:Sc)->s.den->Value
 | .int k,n=>.int k n
 | .bool,x=>.bool x
 | .str,x=>.string x
 | .ptr,a=>.pointer a
 | .slc,x=>.slice x.ptr x.len x.cap
 | .flt k,n=>.float k n
 | .cpx k,x=>.complex k x.1 x.2
 | .mp,r=>.map r
 | .fn,x=>.func (.func x.1) x.2.1 x.2.2
 | .any,v=>v
 | .adr,a=>.pointer (some a)
def ko:IntKind->IntKind->Bool
 | .i8,.i8| .i16,.i16| .i32,.i32| .i64,.i64| .u8,.u8| .u16,.u16| .u32,.u32| .u64,.u64=>true
 |_,_=>false
theorem mW:∀{a b:IntKind},ko a b=true->a=b:=by
 intro a b;cases a<;>cases b<;>simp[ko]
def lR:FloatKind->FloatKind->Bool
 | .f32,.f32| .f64,.f64=>true
 |_,_=>false
theorem lS:∀{a b:FloatKind},lR a b=true->a=b:=by
 intro a b;cases a<;>cases b<;>simp[lR]
def Sc.dec:(s:Sc)->Value->Option s.den
 | .int k,.int k' n=>bif ko k k' then some n else none
 | .bool,.bool x=>some x
 | .str,.string x=>some x
 | .ptr,.pointer a=>some a
 | .slc,.slice a l c=>some ⟨a,l,c⟩
 | .flt k,.float k' n=>bif lR k k' then some n else none
 | .cpx k,.complex k' a b=>bif lR k k' then some (a,b)else none
 | .mp,.map r=>some r
 | .fn,.func (.func g) f c=>some (g,f,c)
 | .any,v=>some v
 | .adr,.pointer (some a)=>some a
 |_,_=>none
theorem Sc.gl{s:Sc}{v:Value}{x:s.den}(h:s.dec v=some x):v=s.enc x:=by
 cases s<;>cases v<;>simp only[Sc.dec]at h<;>try(first|(cases h;done)|(cases h;rfl))
 case int.int k k' n=>
  cases hk:ko k k'<;>simp[hk]at h;have:=mW hk;subst this;subst h;rfl
 case flt.float k k' n=>
  cases hk:lR k k'<;>simp[hk]at h;have:=lS hk;subst this;subst h;rfl
 case cpx.complex k k' a b=>
  cases hk:lR k k'<;>simp[hk]at h;have:=lS hk;subst this;subst h;rfl
 case fn.func g f c=>
  cases g<;>first|(cases h;done)|skip
  obtain⟨l⟩:=f;cases l<;>first|(cases h;done)|(cases h;rfl)
 case adr.pointer a=>
  cases a<;>first|(cases h;done)|(cases h;rfl)
@[reducible] def oL:List Sc->Type
 |[]=>Unit
 |[s]=>s.den
 |s::t::r=>s.den×oL (t::r)
@[reducible] def jQ:(l:List Sc)->oL l->List Value
 |[],_=>[]
 |[s],x=>[s.enc x]
 |s::t::r,x=>s.enc x.1::jQ (t::r) x.2
def tI:(l:List Sc)->List Value->Option (oL l)
 |[],[]=>some ()
 |[s],[v]=>s.dec v
 |s::t::r,v::vs=>match s.dec v with
  |some x=>match tI (t::r) vs with
   |some y=>some (x,y)
   |none=>none
  |none=>none
 |_,_=>none
theorem uw:∀{l:List Sc} {vs:List Value} {x:oL l},tI l vs=some x->vs=jQ l x:=by
 intro l vs
 fun_induction tI l vs with
 |case1=>intro x _;rfl
 |case2 s v=>intro x h;simp only[jQ];rw[Sc.gl h]
 |case3 s t r v vs x hx y hy ih=>intro z h;cases h;simp only[jQ];rw[Sc.gl hx,ih hy]
 |case4=>intro x h;cases h
 |case5=>intro x h;cases h
 |case6=>intro x h;cases h
inductive Ty where
 |sc (s:Sc)
 |agg (l:List Sc)
 |arr (s:Sc)
@[reducible] def Ty.den:Ty->Type
 | .sc s=>s.den
 | .agg l=>oL l
 | .arr s=>List s.den
@[reducible] def Ty.enc:(t:Ty)->t.den->Value
 | .sc s,x=>s.enc x
 | .agg l,x=>.agg (jQ l x).toArray
 | .arr s,x=>.agg (x.map s.enc).toArray
def Ty.dec:(t:Ty)->Value->Option t.den
 | .sc s,v=>s.dec v
 | .agg l,.agg ⟨cs⟩=>tI l cs
 |_,_=>none
theorem Ty.gl{t:Ty}{v:Value}{x:t.den}(h:t.dec v=some x):v=t.enc x:=by
 unfold Ty.dec at h;split at h
 ·exact Sc.gl h
 ·have:=uw h;subst this;rfl
 ·cases h
@[reducible] def tJ:List Ty->Type
 |[]=>Unit
 |[s]=>s.den
 |s::t::r=>s.den×tJ (t::r)
@[reducible] def vX:(l:List Ty)->tJ l->List Value
 |[],_=>[]
 |[s],x=>[s.enc x]
 |s::t::r,x=>s.enc x.1::vX (t::r) x.2
inductive Rt where
 |one (t:Ty)
 |many (l:List Ty)
@[reducible] def Rt.den:Rt->Type
 | .one t=>t.den
 | .many l=>tJ l
@[reducible] def Rt.enc:(r:Rt)->r.den->Value
 | .one t,x=>t.enc x
 | .many l,x=>.tuple (vX l x).toArray
inductive dd where
 |val (t:Nat) (x:Value)
 |kil (lo hi:Nat)
abbrev Env:=List dd
def dd.bC:dd->Nat->Bool
 | .val s _,t=>q7 s t
 | .kil lo hi,t=>wH lo t&&wA t hi
def Env.get:Env->Nat->Option Value
 |[],_=>none
 | .val s x::r,t=>bif q7 s t then some x else Env.get r t
 | .kil lo hi::r,t=>bif wH lo t&&wA t hi then none else Env.get r t
def Env.bC:Env->Nat->Bool
 |[],_=>false
 |e::r,t=>e.bC t||Env.bC r t
theorem Env.vv(e:dd)(r:Env)(t:Nat)(h:e.bC t=false):Env.get (e::r) t=Env.get r t:=by
 cases e<;>simp only[dd.bC]at h<;>simp[Env.get,h]
theorem Env.get_append{δ ρ:Env}{t:Nat}(h:δ.bC t=false):Env.get (δ++ρ) t=Env.get ρ t:=by
 induction δ with
 |nil=>rfl
 |cons e r ih=>
  simp only[Env.bC,zJ]at h;rw[zm,Env.vv _ _ _ h.1,ih h.2]
theorem Env.jR{δ ρ:Env}{t:Nat}:Env.bC (δ++ρ) t=(δ.bC t||ρ.bC t):=by
 induction δ with
 |nil=>simp[Env.bC]
 |cons e r ih=>simp[Env.bC,ih,Bool.or_assoc]
structure Fits (n:Nat) (a:Act) (ρ:Env):Prop where
 size:a.tmps.size=n
 defers:a.defers=[]
 get:∀t x,ρ.get t=some x->a.tmps[t]?=some x
def Ext(ρ b:Env)(a c:Act):Prop:=∃δ:Env,b=δ++ρ/\∀t,δ.bC t=false->c.tmps[t]?=a.tmps[t]?
theorem Ext.refl(ρ:Env)(a:Act):Ext ρ ρ a a:=⟨[],rfl,fun _ _=>rfl⟩
theorem Ext.trans{ρ e b:Env}{a f c:Act}(h:Ext ρ e a f)(k:Ext e b f c):Ext ρ b a c:=by
 obtain⟨δ,rfl,h⟩:=h;obtain⟨g,rfl,k⟩:=k;refine⟨g++δ,by simp,fun t d=>?_⟩;rw[Env.jR,zJ]at d;rw[k t d.1,h t d.2]
def Env.eval(ρ:Env):Operand->Option Value
 | .tmp t=>ρ.get t
 | .const v=>some v
 | .global g=>some (.pointer (some ⟨g,0,none⟩))
 | .func f=>some (.func (.func f) #[] #[])
theorem Fits.eval{n:Nat}{a:Act}{ρ:Env}(h:Fits n a ρ){x:Operand}{v:Value}(b:ρ.eval x=some v):a.eval x=v:=by
 cases x<;>simp only[Env.eval]at b<;>simp only[Act.eval]
 case tmp t=>have:=h.get t v b;simp[Array.getD_eq_getD_getElem?,this]
 all_goals (injection b)
theorem Fits.put{n:Nat}{a:Act}{ρ:Env}(h:Fits n a ρ){d:Nat}(f:wA d n=true)(v:Value):Fits n (a.put (some d) v) (.val d v::ρ):=by
 have c:d<n:=zk f;refine⟨by simp[Act.put,h.size],h.defers,fun t x b=>?_⟩;simp only[Env.get]at b;simp only[Act.put,Array.getElem?_setIfInBounds];cases hb:q7 d t with
 |true=>
  rw[hb]at b;have:d=t:=qD hb;subst this;simp at b;simp[h.size,c,b]
 |false=>
  rw[hb]at b;have:d≠t:=fun e=>by subst e;simp at hb
  simp only[this,if_false];exact h.get t x b
theorem Ext.put{ρ:Env}{a:Act}{d:Nat}(v u:Value):Ext ρ (.val d u::ρ) a (a.put (some d) v):=by
 refine⟨[.val d u],rfl,fun t b=>?_⟩;simp only[Env.bC,dd.bC,wG]at b;have:d≠t:=fun e=>by subst e;simp at b
 simp[Act.put,this]
abbrev bu:=List (Nat×Ty)
@[reducible] def bu.den:bu->Type
 |[]=>Unit
 |[s]=>s.2.den
 |s::t::r=>s.2.den×bu.den (t::r)
def bu.bK:(σ:bu)->σ.den->Env->Env
 |[],_,ρ=>ρ
 |[s],x,ρ=>.val s.1 (s.2.enc x)::ρ
 |s::t::r,x,ρ=>.val s.1 (s.2.enc x.1)::bu.bK (t::r) x.2 ρ
def bu.read:(σ:bu)->Env->Option σ.den
 |[],_=>some ()
 |[s],ρ=>match ρ.get s.1 with
  |some v=>s.2.dec v
  |none=>none
 |s::t::r,ρ=>match ρ.get s.1 with
  |some v=>match s.2.dec v with
   |some x=>match bu.read (t::r) ρ with
    |some y=>some (x,y)
    |none=>none
   |none=>none
  |none=>none
def bu.has:bu->Nat->Bool
 |[],_=>false
 |s::r,t=>q7 s.1 t||bu.has r t
abbrev aZ:=List (Nat×Nat)
def aZ.over:aZ->Env->Env
 |[],ρ=>ρ
 |(lo,hi)::r,ρ=>.kil lo hi::aZ.over r ρ
def aZ.has:aZ->Nat->Nat->Bool
 |[],_,_=>false
 |(lo,hi)::r,a,b=>(wH lo a&&wH b hi)||aZ.has r a b
def within(σ:bu)(κ:aZ):Env->Nat->Bool
 |_,0=>true
 |[],_+1=>true
 | .val t _::r,n+1=>(bu.has σ t||aZ.has κ t (t+1))&&within σ κ r n
 | .kil lo hi::r,n+1=>aZ.has κ lo hi&&within σ κ r n
theorem aZ.vw{κ:aZ}{a b:Nat}(h:κ.has a b=true){t:Nat}(f:a<=t)(e:t<b)(ρ:Env):∃δ:Env,κ.over ρ=δ++ρ/\δ.bC t=true:=by
 induction κ with
 |nil=>simp[aZ.has]at h
 |cons p r ih=>
  obtain⟨d,c⟩:=p;simp only[aZ.has,Bool.or_eq_true,qB]at h;obtain⟨δ,g⟩:∃δ:Env,aZ.over r ρ=δ++ρ:=by
   clear ih h
   induction r with
   |nil=>exact⟨[],rfl⟩
   |cons q r ih=>obtain⟨δ,h⟩:=ih;exact⟨.kil q.1 q.2::δ,by show dd.kil q.1 q.2::aZ.over r ρ=_;rw[h];rfl⟩
  rcases h with h|h
  ·have l:=zk h.1;have k:=zk h.2;refine⟨.kil d c::δ,by simp[aZ.over,g],?_⟩;have j:wH d t=true:=Nat.ble_eq_true_of_le (by omega);have x2:wA t c=true:=by unfold wA;exact Nat.ble_eq_true_of_le (by omega)
   simp[Env.bC,dd.bC,j,x2]
  ·obtain⟨i,f,e⟩:=ih h;exact⟨.kil d c::i,by simp[aZ.over,f],by simp[Env.bC,e]⟩
theorem aZ.ro(κ:aZ)(ρ:Env):κ.over ρ=κ.over []++ρ:=by
 induction κ with
 |nil=>rfl
 |cons p r ih=>obtain⟨b,a⟩:=p;simp[aZ.over,ih]
theorem bu.nw:∀(σ:bu) (x:σ.den) (ρ:Env),σ.bK x ρ=σ.bK x []++ρ
 |[],_,ρ=>rfl
 |[s],x,ρ=>rfl
 |s::t::r,x,ρ=>by simp only[bu.bK];rw[bu.nw (t::r) x.2 ρ];rfl
theorem bu.jH:∀(σ:bu) (x:σ.den) (t:Nat),(σ.bK x []).bC t=σ.has t
 |[],_,_=>rfl
 |[s],x,t=>by simp[bu.bK,Env.bC,dd.bC,bu.has]
 |s::u::r,x,t=>by
  have:=bu.jH (u::r) x.2 t;simp only[bu.bK,Env.bC,dd.bC,this];rfl
theorem bu.rp:∀(σ:bu) (x:σ.den) (e:Env) (t:Nat),σ.has t=true->((σ.bK x [])++e).get t=(σ.bK x []).get t
 |[],_,_,_,h=>by cases h
 |[s],x,e,t,h=>by
  simp only[bu.has,wG]at h;simp[bu.bK,Env.get,h]
 |s::u::r,x,e,t,h=>by
  simp only[bu.bK,zm,Env.get];cases hb:q7 s.1 t with
  |true=>rfl
  |false=>
   have b:bu.has (u::r) t=true:=by
    have a:(q7 s.1 t||bu.has (u::r) t)=true:=h;rw[hb]at a;exact a
   simpa using bu.rp (u::r) x.2 e t b
theorem aZ.po{κ:aZ}{a b t:Nat}(h:κ.has a b=true)(e:a<=t)(d:t<b):(κ.over []).bC t=true:=by
 obtain⟨δ,c,f⟩:=aZ.vw h e d [];rw[c];simpa using f
theorem cm{σ:bu}{κ:aZ}:∀{δ ρ:Env},within σ κ (δ++ρ) δ.length=true->∀t,σ.has t=false->(κ.over []).bC t=false->δ.bC t=false
 |[],_,_,_,_,_=>rfl
 | .val s x::r,ρ,h,t,h1,h2=>by
  simp only[zm,qV,within,qB,Bool.or_eq_true]at h;simp only[Env.bC,dd.bC,zJ];refine⟨?_,cm h.2 t h1 h2⟩;cases hb:q7 s t with
  |false=>rfl
  |true=>
   have:s=t:=qD hb;subst this;rcases h.1 with h|h
   ·rw[h]at h1;cases h1
   ·rw[aZ.po h (qM _) (Nat.lt_succ_self _)]at h2;cases h2
 | .kil lo hi::r,ρ,h,t,h1,h2=>by
  simp only[zm,qV,within,qB]at h;simp only[Env.bC,dd.bC,zJ];refine⟨?_,cm h.2 t h1 h2⟩;cases hb:(wH lo t&&wA t hi)with
  |false=>rfl
  |true=>
   simp only[qB]at hb;have b:=zk hb.1;have a:t<hi:=zk hb.2;rw[aZ.po h.1 b a]at h2;cases h2
theorem bu.rq:∀{σ:bu} {ρ:Env} {x:σ.den} {t:Nat} {v:Value},σ.read ρ=some x->(σ.bK x []).get t=some v->ρ.get t=some v∨False
 |[],_,_,_,_,_,h=>by simp[bu.bK,Env.get]at h
 |[s],ρ,x,t,v,h,hv=>by
  simp only[bu.read]at h;split at h
  ·rename_i u c;simp only[bu.bK,Env.get]at hv;cases hb:q7 s.1 t with
   |true=>
    rw[hb]at hv;have:=qD hb;simp at hv;subst hv;rw[<-Ty.gl h,<-this];exact .inl c
   |false=>rw[hb]at hv;simp at hv
  ·cases h
 |s::u::r,ρ,x,t,v,h,hv=>by
  simp only[bu.read]at h;split at h
  ·rename_i z a;split at h
   ·rename_i y d;split at h
    ·rename_i w b;cases h;simp only[bu.bK,Env.get]at hv;cases hb:q7 s.1 t with
     |true=>
      rw[hb]at hv;have:=qD hb;simp at hv;subst hv;rw[<-Ty.gl d,<-this];exact .inl a
     |false=>
      rw[hb]at hv;exact bu.rq (σ:=u::r) b hv
    ·cases h
   ·cases h
  ·cases h
theorem Fits.gm{n:Nat}{a d:Act}{σ:bu}{κ:aZ}{ρ g:Env}{x:σ.den}(k:Fits n a ρ)(h:Fits n d g)
  (b:∀t,σ.has t=false->(κ.over []).bC t=false->d.tmps[t]?=a.tmps[t]?) (j:σ.read g=some x):
  Fits n d (σ.bK x (κ.over ρ))/\Ext ρ (σ.bK x (κ.over ρ)) a d:=by
 rw[bu.nw,aZ.ro];refine⟨⟨h.size,h.defers,fun t v c=>?_⟩,⟨σ.bK x []++κ.over [],by simp,fun t f=>?_⟩⟩
 ·cases h1:σ.has t with
  |true=>
   have:∀(e:Env),((σ.bK x [])++e).get t=(σ.bK x []).get t:=fun e=>bu.rp σ x e t h1;rw[this]at c;rcases bu.rq j c with h2|h2
   ·exact h.get t v h2
   ·exact h2.elim
  |false=>
   rw[Env.get_append (by rw[bu.jH];exact h1)]at c;cases h2:(κ.over []).bC t with
   |true=>
    have:∀(e:Env),((κ.over [])++e).get t=none:=by
     intro e;clear b c
     induction κ with
     |nil=>simp[aZ.over,Env.bC]at h2
     |cons p r ih=>
      obtain⟨i,l⟩:=p;simp only[aZ.over,Env.bC,dd.bC]at h2;simp only[aZ.over,zm,Env.get];cases hb:(wH i t&&wA t l)with
      |true=>rfl
      |false=>rw[hb]at h2;simp at h2;simpa using ih h2
    rw[this]at c;cases c
   |false=>
    rw[Env.get_append h2]at c;rw[b t h1 h2];exact k.get t v c
 ·rw[Env.jR,zJ,bu.jH]at f;exact b t f.1 f.2
theorem Ext.within{a e:Act}{σ:bu}{κ:aZ}{ρ c:Env}(f:Ext ρ c a e)(d:within σ κ c (c.length-ρ.length)=true):
  ∀t,σ.has t=false->(κ.over []).bC t=false->e.tmps[t]?=a.tmps[t]?:=by
 obtain⟨δ,rfl,i⟩:=f;have b:(δ++ρ).length-ρ.length=δ.length:=by simp
 rw[b]at d;exact fun t h g=>i t (cm d t h g)
theorem Ext.gm{a c:Act}{σ:bu}{κ:aZ}{ρ:Env}{x:σ.den}(d:Ext ρ (σ.bK x (κ.over ρ)) a c):
  ∀t,σ.has t=false->(κ.over []).bC t=false->c.tmps[t]?=a.tmps[t]?:=by
 obtain⟨δ,b,g⟩:=d;rw[bu.nw,aZ.ro,<-qp]at b;have:=List.append_cancel_right b;subst this;exact fun t f e=>g t (by rw[Env.jR,bu.jH,f,e];rfl)
inductive mX where
 |int (k:IntKind)|bool|str|flt|cpx|mp|fn|other
 |slice (e:TypeId)|array (n:Nat) (e:TypeId)|struct (fs:List (Nat×TypeId))|ptr (e:TypeId)
def cB:Option TypeDesc->mX
 |some (.int k)=>.int k
 |some .bool=>.bool
 |some .string=>.str
 |some (.float _)=>.flt
 |some (.complex _)=>.cpx
 |some (.map ..)=>.mp
 |some (.func ..)=>.fn
 |some (.slice e)=>.slice e
 |some (.array n e)=>.array n e
 |some (.struct fs)=>.struct (fs.toList.map fun f=>(f.offset,f.type))
 |some (.pointer e)=>.ptr e
 |_=>.other
structure TI where
 bi:mX
 ty:Ty
 size:Nat
 bytes:Nat
 zero:List Value
abbrev ed:=List TI
def ed.seen(P:Program)(t:TypeId):mX×Option (Nat×Nat×Option (List Value)):=
 (cB (P.underlying t),(P.info? t).map fun i=>(i.size,i.bytes,i.zero.map (·.cells.toList)))
def ed.told(i:TI):mX×Option (Nat×Nat×Option (List Value)):=(i.bi,some (i.size,i.bytes,some i.zero))
def ed.get:ed->Nat->Option TI
 |[],_=>none
 |i::_,0=>some i
 |_::r,t+1=>ed.get r t
structure kp where
 P:Program
 T:ed
structure kp.Ok (C:kp):Prop where
 wV:(zf C.T.length).map (ed.seen C.P)=C.T.map ed.told
 mixed:C.P.follows .mixedOrders=true
theorem ed.get_eq:∀(T:ed) (t:Nat),T.get t=T[t]?
 |[],_=>rfl
 |_::_,0=>rfl
 |_::r,t+1=>by simp[ed.get,ed.get_eq r t]
theorem kp.Ok.at{C:kp}(h:C.Ok){t:Nat}{i:TI}(a:C.T.get t=some i):ed.seen C.P t=ed.told i:=by
 rw[ed.get_eq]at a;have b:t<C.T.length:=(qn.1 a).1;have:=congrArg (·[t]?) h.wV;simp[b]at this;rw[this,(qn.1 a).2]
def Br(b:Bool)(A B:Prop):Prop:=match b with
 |true=>A
 |false=>B
inductive PV:Type 1 where
 |no
 |val (v:Value)
 |cond (c:Prop) (v:Value)
 |ex (X:Type) (c:X->Prop) (v:X->Value)
 |br (b:Bool) (x y:Value)
def PV.holds(p:PV)(K:Value->Prop):Prop:=match p with
 | .no=>False
 | .val v=>K v
 | .cond c v=>c/\K v
 | .ex _ c v=>∃x,c x/\K (v x)
 | .br b x y=>Br b (K x) (K y)
def gS(P:Program)(s:Sem Next)(v:Value):Prop:=∀w,s.run P w=.ok (.value v) w
def aj{α:Type}(P:Program)(s:Sem α)(v:α):Prop:=∀w,s.run P w=.ok v w
def iO(P:Program)(c:BinOp)(t:TypeId)(x y:Operand)(a b r:Value):Prop:=aj P (do eqGuard c t x y a b;binOp c t a b) r
def vY:Operand->Bool
 | .tmp _=>true
 |_=>false
def vx(P:Program)(t:TypeId)(x y:Operand)(d:Option mX)(f:BinOp):Value->Value->PV
 | .int k a,.int k' b=>
  match f with
  | .shl=>.cond (0<=b) (.int k (k.wrap (a*2^min b.toNat k.bits)))
  | .shr=>.cond (0<=b) (.int k (a.fdiv (2^min b.toNat k.bits)))
  |_=>bif ko k k' then
   match f with
   | .add=>.val (.int k (k.wrap (a+b)))
   | .sub=>.val (.int k (k.wrap (a-b)))
   | .mul=>.val (.int k (k.wrap (a*b)))
   | .quo=>.cond (b≠0) (.int k (k.wrap (a.tdiv b)))
   | .rem=>.cond (b≠0) (.int k (a.tmod b))
   | .and=>.val (.int k (k.wrap (qq k.bits a&&&qq k.bits b).toNat))
   | .or=>.val (.int k (k.wrap (qq k.bits a|||qq k.bits b).toNat))
   | .xor=>.val (.int k (k.wrap (qq k.bits a^^^qq k.bits b).toNat))
   | .andNot=>.val (.int k (k.wrap (qq k.bits a&&&~~~qq k.bits b).toNat))
   | .eql=>.val (.bool (a==b))
   | .neq=>.val (.bool (a !=b))
   | .lss=>.val (.bool (decide (a<b)))
   | .leq=>.val (.bool (decide (a<=b)))
   | .gtr=>.val (.bool (decide (a>b)))
   | .geq=>.val (.bool (decide (a>=b)))
   |_=>.no
  else .no
 | .float k a,.float k' b=>bif lR k k' then
   match f with
   | .add=>.ex Nat (fun r=>k.format.add a b=some r) (fun r=>.float k r)
   | .sub=>.ex Nat (fun r=>k.format.sub a b=some r) (fun r=>.float k r)
   | .mul=>.ex Nat (fun r=>k.format.mul a b=some r) (fun r=>.float k r)
   | .quo=>.ex Nat (fun r=>k.format.div a b=some r) (fun r=>.float k r)
   | .eql=>.val (.bool (k.format.order a b==some .eq))
   | .neq=>.val (.bool (k.format.order a b !=some .eq))
   | .lss=>.val (.bool (k.format.order a b==some .lt))
   | .gtr=>.val (.bool (k.format.order a b==some .gt))
   |_=>.no
  else .no
 | .string a,.string b=>
  match f with
  | .eql=>.val (.bool (a.toList==b.toList))
  | .neq=>.val (.bool (!(a.toList==b.toList)))
  | .lss=>.val (.bool (Op.bytesLess a.toList b.toList))
  | .leq=>.val (.bool (Op.bytesLess a.toList b.toList||a.toList==b.toList))
  | .gtr=>.val (.bool (!(Op.bytesLess a.toList b.toList||a.toList==b.toList)))
  | .geq=>.val (.bool (!(Op.bytesLess a.toList b.toList)))
  | .add=>.cond (((a.size+b.size:Nat):Int)<=wO.max) (.string (a++b))
  |_=>.no
 | .bool a,.bool b=>
  match d with
  |some .bool=>match f with
   | .eql=>.val (.bool (a==b))
   | .neq=>.val (.bool (!(a==b)))
   |_=>.no
  |_=>.no
 | .pointer a,.pointer b=>bif vY y then .ex Bool (fun r=>iO P f t x y (.pointer a) (.pointer b) (.bool r)) (fun r=>.bool r)else
  match b with
  |none=>match d with
   |some (.ptr _)=>match f with
    | .eql=>.val (.bool a.isNone)
    | .neq=>.val (.bool (!a.isNone))
    |_=>.no
   |_=>.no
  |some _=>.no
 | .slice a _ _,.slice none _ _=>
  match d with
  |some (.slice _)=>match f with
   | .eql=>.val (.bool a.isNone)
   | .neq=>.val (.bool (!a.isNone))
   |_=>.no
  |_=>.no
 | .agg a,.agg b=>.ex Bool (fun r=>iO P f t x y (.agg a) (.agg b) (.bool r)) (fun r=>.bool r)
 | .complex k a b,.complex k' c e=>
  match f with
  | .eql| .neq=>.ex Bool (fun r=>iO P f t x y (.complex k a b) (.complex k' c e) (.bool r)) (fun r=>.bool r)
  |_=>.ex (Nat×Nat) (fun r=>iO P f t x y (.complex k a b) (.complex k' c e) (.complex k r.1 r.2)) (fun r=>.complex k r.1 r.2)
 |_,_=>.no
def yf(a:UnOp):Value->PV
 | .bool b=>match a with
  | .not=>.val (.bool !b)
  |_=>.no
 | .int k n=>match a with
  | .neg=>.val (.int k (k.wrap (0-n)))
  | .xor=>.val (.int k (k.wrap (qq k.bits (if k.signed then-1 else k.max)^^^qq k.bits n).toNat))
  |_=>.no
 |_=>.no
def gf(a:Operand->Option Value):List Operand->Option (List Value)
 |[]=>some []
 |x::r=>match a x with
  |some v=>match gf a r with
   |some vs=>some (v::vs)
   |none=>none
  |none=>none
def lT(a:Operand->Option Value):List (Nat×Operand)->Option (List (Nat×Value))
 |[]=>some []
 |(n,x)::r=>match a x with
  |some v=>match lT a r with
   |some vs=>some ((n,v)::vs)
   |none=>none
  |none=>none
def placesOf(T:ed):List (Nat×TypeId)->Option (List (Nat×Nat))
 |[]=>some []
 |(off,t)::r=>match T.get t with
  |some j=>match placesOf T r with
   |some ps=>some ((off,j.size)::ps)
   |none=>none
  |none=>none
def nL(a:Operand->Option Value):Option Operand->Option (Option Int)
 |none=>some none
 |some x=>match a x with
  |some (.int _ n)=>some (some n)
  |_=>none
def xt(d:Option mX):Value->PV
 | .slice _ n _=>match d with
  |some (.slice _)=>.val (.int .i64 n)
  |_=>.no
 | .string s=>match d with
  |some .str=>.val (.int .i64 s.size)
  |_=>.no
 |_=>.no
def xu(d:Option mX):Value->PV
 | .slice _ _ n=>match d with
  |some (.slice _)=>.val (.int .i64 n)
  |_=>.no
 |_=>.no
def vZ(d:Option mX):Value->PV
 | .int _ n=>match d with
  |some (.int k)=>.val (.int k (k.wrap n))
  |_=>.no
 |_=>.no
def kq(P:Program)(T:ed)(g:Op)(d:Operand->Option Value):PV:=
 match g with
 | .move x| .assign x=>match d x with
  |some v=>.val v
  |none=>.no
 | .pick c a b=>match d c,d a,d b with
  |some (.bool t),some x,some y=>.br t x y
  |_,_,_=>.no
 | .nilCheck x=>match d x with
  |some (.pointer p)=>.ex Addr (fun a=>p=some a) (fun a=>.pointer (some a))
  |_=>.no
 | .fieldAddr s x f=>match d x with
  |some (.pointer (some a))=>match T.get s with
   |some i=>match i.bi with
    | .struct fs=>match fs[f]? with
     |some (off,t)=>match T.get t with
      |some j=>bif q7 j.size 0 then .no else .val (.pointer (some (a.add off)))
      |none=>.no
     |none=>.no
    |_=>.no
   |none=>.no
  |_=>.no
 | .indexAddr t x ix=>match d ix with
  |some (.int _ n)=>match d x with
   |some (.slice p len _)=>match T.get t with
    |some i=>match i.bi with
     | .slice e=>match T.get e with
      |some j=>.ex Addr (fun a=>p=some a/\0<=n/\n<(len:Int)) (fun a=>.pointer (some (a.add (n.toNat*j.size))))
      |none=>.no
     |_=>.no
    |none=>.no
   |some (.pointer (some a))=>match T.get t with
    |some i=>match i.bi with
     | .array m e=>match T.get e with
      |some j=>.cond (0<=n/\n<(m:Int)) (.pointer (some (a.add (n.toNat*j.size))))
      |none=>.no
     |_=>.no
    |none=>.no
   |_=>.no
  |_=>.no
 | .index t x ix=>match d ix with
  |some (.int _ n)=>match d x with
   |some (.string s)=>match T.get t with
    |some i=>match i.bi with
     | .str=>.ex UInt8 (fun b=>0<=n/\s.data[n.toNat]?=some b) (fun b=>.int .u8 b.toNat)
     |_=>.no
    |none=>.no
   |some (.agg cs)=>match T.get t with
    |some i=>match i.bi with
     | .array m e=>match T.get e with
      |some j=>match j.ty with
       | .sc s=>match j.bi with
        | .struct _=>.no
        | .array _ _=>.no
        | .other=>.no
        |_=>bif q7 j.size 1 then .ex s.den (fun y=>0<=n/\n<(m:Int)/\cs[n.toNat]?=some (s.enc y)) (fun y=>s.enc y)else .no
       |_=>.no
      |none=>.no
     |_=>.no
    |none=>.no
   |_=>.no
  |_=>.no
 | .field s x f=>match d x with
  |some (.agg ⟨cs⟩)=>match T.get s with
   |some i=>match i.bi with
    | .struct fs=>match fs[f]? with
     |some (off,t)=>match T.get t with
      |some j=>match j.bi with
       | .struct _=>.val (.agg ((cs.drop off).take j.size).toArray)
       | .array _ _=>.val (.agg ((cs.drop off).take j.size).toArray)
       | .other=>.no
       |_=>match cs[off]? with
        |some v=>.val v
        |none=>.no
      |none=>.no
     |none=>.no
    |_=>.no
   |none=>.no
  |_=>.no
 | .slice t x lo hi mx=>match mx with
  |some _=>.no
  |none=>match nL d lo,nL d hi with
   |some l,some r=>match d x with
    |some (.slice p len cap)=>match T.get t with
     |some i=>match i.bi with
      | .slice e=>match T.get e with
       |some j=>match l,r with
        |none,none=>.val (.slice p len cap)
        |none,some r=>.cond (0<=r/\r<=(cap:Int)) (.slice p r.toNat cap)
        |some l,none=>.cond (0<=l/\l<=(len:Int)) (.slice (if cap=l.toNat then p else p.map (·.add (l.toNat*j.size))) (len-l.toNat) (cap-l.toNat))
        |some l,some r=>.cond (0<=l/\l<=r/\r<=(cap:Int)) (.slice (if cap=l.toNat then p else p.map (·.add (l.toNat*j.size))) (r.toNat-l.toNat) (cap-l.toNat))
       |none=>.no
      |_=>.no
     |none=>.no
    |some (.string s)=>match T.get t with
     |some i=>match i.bi with
      | .str=>match l,r with
       |none,none=>.val (.string (s.extract 0 s.size))
       |none,some r=>.cond (0<=r/\r<=(s.size:Int)) (.string (s.extract 0 r.toNat))
       |some l,none=>.cond (0<=l/\l<=(s.size:Int)) (.string (s.extract l.toNat s.size))
       |some l,some r=>.cond (0<=l/\l<=r/\r<=(s.size:Int)) (.string (s.extract l.toNat r.toNat))
      |_=>.no
     |none=>.no
    |some (.pointer (some a))=>match T.get t with
     |some i=>match i.bi with
      | .array n e=>match T.get e with
       |some j=>match l,r with
        |none,none=>.val (.slice (some a) n n)
        |none,some r=>.cond (0<=r/\r<=(n:Int)) (.slice (some a) r.toNat n)
        |some l,none=>.cond (0<=l/\l<=(n:Int)) (.slice (some (if n=l.toNat then a else a.add (l.toNat*j.size))) (n-l.toNat) (n-l.toNat))
        |some l,some r=>.cond (0<=l/\l<=r/\r<=(n:Int)) (.slice (some (if n=l.toNat then a else a.add (l.toNat*j.size))) (r.toNat-l.toNat) (n-l.toNat))
       |none=>.no
      |_=>.no
     |none=>.no
    |_=>.no
   |_,_=>.no
 | .extract x n=>match d x with
  |some (.tuple ⟨vs⟩)=>match vs[n]? with
   |some v=>.val v
   |none=>.no
  |_=>.no
 | .binOp g t x y _=>match d x,d y with
  |some a,some b=>vx P t x y ((T.get t).map (·.bi)) g a b
  |_,_=>.no
 | .unOp g _ x=>match d x with
  |some v=>yf g v
  |none=>.no
 | .convert src dst x=>match d x,(T.get src).map TI.bi with
  |some v,some (mX.int _)=>vZ ((T.get dst).map (·.bi)) v
  |_,_=>.no
 | .build t parts=>match lT d parts.toList with
  |some vs=>match T.get t with
   |some i=>bif wA 24 i.size then .ex Value (fun v=>aj P (zy t vs.toArray) v) (fun v=>v)else match i.bi with
    | .struct fs=>match placesOf T fs with
     |some ps=>match zD (fun n=>ps[n]?) i.zero.toArray vs with
      |some cells=>.val (.agg cells)
      |none=>.no
     |none=>.no
    | .array _ e=>match T.get e with
     |some j=>match zD (fun n=>some (n*j.size,j.size)) i.zero.toArray vs with
      |some cells=>.val (.agg cells)
      |none=>.no
     |none=>.no
    |_=>.no
   |none=>.no
  |none=>.no
 | .makeFunc fn first captured=>match gf d first.toList,gf d captured.toList with
  |some a,some b=>.val (.func fn a.toArray b.toArray)
  |_,_=>.no
 | .call c=>match c.callee with
  | .builtin b=>match b with
   | .len=>match c.argTypes.toList,c.args.toList with
    |t::_,[x]=>match d x with
     |some v=>xt ((T.get t).map (·.bi)) v
     |none=>.no
    |_,_=>.no
   | .cap=>match c.argTypes.toList,c.args.toList with
    |t::_,[x]=>match d x with
     |some v=>xu ((T.get t).map (·.bi)) v
     |none=>.no
    |_,_=>.no
   | .min=>match gf d c.args.toList with
    |some [.int k a,.int _ b]=>.val (.int k (if b<a then b else a))
    |_=>.no
   | .max=>match gf d c.args.toList with
    |some [.int k a,.int _ b]=>.val (.int k (if b>a then b else a))
    |_=>.no
   | .real=>match gf d c.args.toList with
    |some [.complex k a _]=>.val (.float k a)
    |_=>.no
   | .imag=>match gf d c.args.toList with
    |some [.complex k _ b]=>.val (.float k b)
    |_=>.no
   |_=>.no
  |_=>.no
 |_=>.no
theorem aj.next{P:Program}{s:Sem Value}{v:Value}(h:aj P s v):gS P (do pure (.value (<-s))) v:=fun w=>by
 rw[Sem.run_bind,h w];rfl
theorem aj.pure{α:Type}{P:Program}{v:α}:aj P (pure v) v:=fun _=>rfl
theorem aj.bind{α β:Type}{P:Program}{s:Sem α}{f:α->Sem β}{v:α}{u:β}(h:aj P s v)(k:aj P (f v) u):aj P (s>>=f) u:=fun w=>by
 rw[Sem.run_bind,h w];exact k w
theorem oM{d:Option TypeDesc}{k:IntKind}(h:cB d=.int k):d=some (.int k):=by
 unfold cB at h;split at h<;>cases h;rfl
theorem vy{d:Option TypeDesc}(h:cB d=.bool):d=some .bool:=by
 unfold cB at h;split at h<;>cases h;rfl
theorem kr{d:Option TypeDesc}(h:cB d=.str):d=some .string:=by
 unfold cB at h;split at h<;>cases h;rfl
theorem dI{d:Option TypeDesc}{e:TypeId}(h:cB d=.slice e):d=some (.slice e):=by
 unfold cB at h;split at h<;>cases h;rfl
theorem gT{d:Option TypeDesc}{n:Nat}{e:TypeId}(h:cB d=.array n e):d=some (.array n e):=by
 unfold cB at h;split at h<;>cases h;rfl
theorem xc{d:Option TypeDesc}{e:TypeId}(h:cB d=.ptr e):d=some (.pointer e):=by
 unfold cB at h;split at h<;>cases h;rfl
theorem fD{d:Option TypeDesc}{b:List (Nat×TypeId)}(h:cB d=.struct b):∃a,d=some (.struct a)/\b=a.toList.map fun f=>(f.offset,f.type):=by
 unfold cB at h;split at h<;>cases h;exact⟨_,rfl,rfl⟩
section
variable {C:kp} {t:TypeId} {i:TI}
theorem kp.Ok.bi(h:C.Ok)(a:C.T.get t=some i):cB (C.P.underlying t)=i.bi:=congrArg qL (h.at a)
theorem kp.Ok.info(h:C.Ok)(d:C.T.get t=some i):∃f,C.P.info? t=some f/\f.size=i.size/\f.bytes=i.bytes/\∃z,f.zero=some z/\z.cells.toList=i.zero:=by
 have:=congrArg wE (h.at d);simp only[ed.seen,ed.told]at this;cases hf:C.P.info? t with
 |none=>rw[hf]at this;cases this
 |some f=>
  rw[hf]at this;simp only[qQ,zQ.injEq,Prod.mk.injEq]at this;obtain⟨a,b,c⟩:=this;cases hz:f.zero with
  |none=>rw[hz]at c;cases c
  |some z=>rw[hz]at c;simp at c;exact⟨f,rfl,a,b,z,hz,by simpa using c⟩
theorem aq{P:Program}{t:TypeId}{d:TypeDesc}(h:P.underlying t=some d):aj P (underlying t) d:=fun w=>by
 simp[underlying,h]
theorem bc{P:Program}{t:TypeId}{d:TypeInfo}(h:P.info? t=some d):aj P (typeInfo t) d:=fun w=>by
 simp[typeInfo,h]
theorem bj(h:C.Ok)(b:C.T.get t=some i):aj C.P (sizeOf t) i.size:=by
 obtain⟨f,c,a,_⟩:=h.info b;rw[<-a];exact(bc c).bind .pure
theorem jS(h:C.Ok)(b:C.T.get t=some i):∃z,aj C.P (zeroValue t) z/\z.cells.toList=i.zero:=by
 obtain⟨f,c,_,_,z,a,d⟩:=h.info b;refine⟨z,(bc c).bind ?_,d⟩;rw[a];exact .pure
theorem dw(h:C.Ok)(f:C.T.get t=some i):(∀b,i.bi=.struct b->aj C.P (isAgg t) true)/\(∀n e,i.bi=.array n e->aj C.P (isAgg t) true)/\
  ((∀b,i.bi≠.struct b)->(∀n e,i.bi≠.array n e)->i.bi≠.other->aj C.P (isAgg t) false):=by
 have a:=h.bi f;refine⟨fun b c=>?_,fun n e c=>?_,fun j g l=>?_⟩
 ·rw[c]at a;obtain⟨m,k,_⟩:=fD a;exact(aq k).bind .pure
 ·rw[c]at a;exact(aq (gT a)).bind .pure
 ·cases hu:C.P.underlying t with
  |none=>rw[hu]at a;exact absurd a.symm l
  |some d=>
   refine(aq hu).bind ?_;rw[hu]at a;cases d<;>first|exact .pure|(exfalso;simp only[cB]at a;first|exact j _ a.symm|exact g _ _ a.symm)
end
theorem kF{b:Operand->Option Value}{e:Operand->Value}(d:∀x v,b x=some v->e x=v):∀{l:List Operand} {vs:List Value},gf b l=some vs->l.map e=vs:=by
 intro l
 induction l with
 |nil=>intro vs h;cases h;rfl
 |cons x r ih=>
  intro vs h;simp only[gf]at h;split at h
  ·rename_i v c;split at h
   ·rename_i f a;cases h;simp[d _ _ c,ih a]
   ·cases h
  ·cases h
theorem mY{b:Operand->Option Value}{e:Operand->Value}(d:∀x v,b x=some v->e x=v):∀{l:List (Nat×Operand)} {vs:List (Nat×Value)},lT b l=some vs->l.map (fun p=>(p.1,e p.2))=vs:=by
 intro l
 induction l with
 |nil=>intro vs h;cases h;rfl
 |cons x r ih=>
  intro vs h;obtain⟨n,x⟩:=x;simp only[lT]at h;split at h
  ·rename_i v c;split at h
   ·rename_i f a;cases h;simp[d _ _ c,ih a]
   ·cases h
  ·cases h
section
variable {P:Program}
theorem ny(t:TypeId)(x y:Value):Op.equal t x y=Op.equalIn (9999+1) t x y:=rfl
theorem xd{t:TypeId}(c:P.underlying t=some .bool)(d:Nat)(a b:Bool):aj P (Op.equalIn (d+1) t (.bool a) (.bool b)) (a==b):=fun w=>by
 simp[Op.equalIn,underlying,c]
theorem xv{t e:TypeId}(b:P.underlying t=some (.pointer e))(d:Nat)(a:Option Addr):aj P (Op.equalIn (d+1) t (.pointer a) (.pointer none)) a.isNone:=fun w=>by
 cases a<;>simp[Op.equalIn,underlying,b]
theorem vz{t e:TypeId}(g:P.underlying t=some (.slice e))(d:Nat)(a:Option Addr)(l c f b:Nat):aj P (Op.equalIn (d+1) t (.slice a l c) (.slice none f b)) a.isNone:=fun w=>by
 cases a<;>simp[Op.equalIn,underlying,g]
theorem tK{t:TypeId}{d:Option mX}{j:BinOp}{a b:Value}{x y:Operand}{K:Value->Prop}(p:∀q,d=some q->cB (P.underlying t)=q)
  (h:(vx P t x y d j a b).holds K):∃v,aj P (do eqGuard j t x y a b;binOp j t a b) v/\K v:=by
 have m:∀{a b:Value},¬(a=.nilIface/\b=.nilIface)->(∀u v,¬(a=.agg u/\b=.agg v))->aj P (eqGuard j t x y a b) ():=by
  intro a b f i w;simp only[eqGuard];cases j<;>simp only[zM,zP,qJ,if_true,if_false]<;>
   first
    |rfl
    |(split<;>first|exact absurd ⟨rfl,rfl⟩ f|exact absurd ⟨rfl,rfl⟩ (i _ _)|rfl)
 unfold vx at h;split at h
 ·rename_i k a o b;have g:=m (a:=.int k a) (b:=.int o b) (by simp) (by simp);cases j<;>simp only at h
  case shl=>exact⟨_,g.bind fun w=>by simp only[binOp,Op.shift];rw[if_neg (by have:=h.1;omega)];rfl,h.2⟩
  case shr=>exact⟨_,g.bind fun w=>by simp only[binOp,Op.shift];rw[if_neg (by have:=h.1;omega)];rfl,h.2⟩
  all_goals
   cases hk:ko k o with
   |false=>rw[hk]at h;simp[PV.holds]at h
   |true=>
    rw[hk]at h;simp only[cond_true,PV.holds]at h;have e:=mW hk;subst e
    first
     |exact⟨_,g.bind fun w=>by simp[binOp,Op.intArith,Op.intBits,Op.intCmp],h⟩
     |exact⟨_,g.bind fun w=>by simp[binOp,Op.intDiv,h.1],h.2⟩
     |exact h.elim
 ·rename_i k a o b;have g:=m (a:=.float k a) (b:=.float o b) (by simp) (by simp);cases hk:lR k o with
  |false=>rw[hk]at h;simp[PV.holds]at h
  |true=>
   rw[hk]at h;have e:=lS hk;subst e;cases j<;>simp only[cond_true,PV.holds]at h<;>
    first
     |(obtain⟨r,f,i⟩:=h;exact⟨_,g.bind fun w=>by simp[binOp,Op.floatArith,f],i⟩)
     |exact⟨_,g.bind fun w=>by simp[binOp,Op.floatCmp],h⟩
     |exact h.elim
 ·rename_i a b;have g:=m (a:=.string a) (b:=.string b) (by simp) (by simp);cases j<;>simp only[PV.holds]at h<;>
   first
    |exact⟨_,g.bind fun w=>by simp[binOp,Op.stringOp],h⟩
    |exact⟨_,g.bind fun w=>by simp only[binOp,Op.stringOp];rw[if_neg (by have:=h.1;omega)];rfl,h.2⟩
    |exact h.elim
 ·rename_i a b;have g:=m (a:=.bool a) (b:=.bool b) (by simp) (by simp);split at h
  ·have n:=vy (p _ rfl);cases j<;>simp only[PV.holds]at h<;>
    first
     |exact⟨_,g.bind (by simp only[binOp,ny];exact(xd n _ a b).bind .pure),h⟩
     |exact h.elim
  ·exact h.elim
 ·rename_i a b;cases hy:vY y with
  |true=>
   rw[hy]at h;obtain⟨r,f,i⟩:=h;exact⟨_,f,i⟩
  |false=>
   rw[hy]at h;cases b with
   |some _=>exact h.elim
   |none=>
    have g:=m (a:=.pointer a) (b:=.pointer none) (by simp) (by simp);simp only[cond_false]at h;split at h
    ·rename_i e;have n:=xc (p _ rfl);cases j<;>simp only[PV.holds]at h<;>
      first
       |exact⟨_,g.bind (by simp only[binOp,ny];exact(xv n _ a).bind .pure),h⟩
       |exact h.elim
    ·exact h.elim
 ·rename_i a l c z s;have g:=m (a:=.slice a l c) (b:=.slice none z s) (by simp) (by simp);split at h
  ·rename_i e;have n:=dI (p _ rfl);cases j<;>simp only[PV.holds]at h<;>
    first
     |exact⟨_,g.bind (by simp only[binOp,ny];exact(vz n _ a l c z s).bind .pure),h⟩
     |exact h.elim
  ·exact h.elim
 ·obtain⟨r,f,i⟩:=h;exact⟨_,f,i⟩
 ·split at h
  ·obtain⟨r,f,i⟩:=h;exact⟨_,f,i⟩
  ·obtain⟨r,f,i⟩:=h;exact⟨_,f,i⟩
  ·obtain⟨r,f,i⟩:=h;exact⟨_,f,i⟩
 ·exact h.elim
end
theorem ru(a:List Value)(off n:Nat):((a.drop off).take n).toArray=(a.toArray).extract off (off+n):=by
 apply zN;simp[List.extract_eq_take_drop]
section
variable {C:kp} {ev:Operand->Option Value} {e:Operand->Value}
theorem eR(c:C.Ok):∀{b:List Field} {a:List (Nat×Nat)},placesOf C.T (b.map fun f=>(f.offset,f.type))=some a->
  aj C.P (b.mapM fun f=>(do pure (f.offset,<-sizeOf f.type):Sem (Nat×Nat))) a
 |[],a,h=>by cases h;exact .pure
 |f::r,a,h=>by
  simp only[zO,placesOf]at h;split at h
  ·rename_i j d;split at h
   ·rename_i g e;cases h;rw[List.mapM_cons];exact aj.bind ((bj c d).bind .pure) ((eR c e).bind .pure)
   ·cases h
  ·cases h
theorem mZ(f:C.Ok){t:TypeId}{j:TI}(i:C.T.get t=some j)(g:∀c,j.bi≠.struct c)(d:∀n e,j.bi≠.array n e)(h:j.bi≠.other)
  {a:Array Value} {off:Nat} {v:Value} (b:a[off]?=some v):aj C.P (part t a off) v:=by
 refine((dw f i).2.2 g d h).bind ?_;rw[b];exact .pure
theorem rv(b:C.Ok){t:TypeId}{j:TI}(c:C.T.get t=some j)(h:(∃a,j.bi=.struct a)∨∃n e,j.bi=.array n e)
  {d:Array Value} {off:Nat}:aj C.P (part t d off) (.agg (d.extract off (off+j.size))):=by
 have f:aj C.P (isAgg t) true:=by
  rcases h with⟨a,h⟩|⟨n,e,h⟩
  ·exact(dw b c).1 a h
  ·exact(dw b c).2.1 n e h
 exact f.bind ((bj b c).bind .pure)
theorem nM(I:C.Ok)(G:∀x v,ev x=some v->e x=v){o:Oper}{K:Value->Prop}(h:(kq C.P C.T o.op ev).holds K):
  ∃v,gS C.P (execOp e o) v/\K v:=by
 have M:∀t q,(C.T.get t).map (·.bi)=some q->cB (C.P.underlying t)=q:=fun t q h=>by
  cases F:C.T.get t with
  |none=>rw[F]at h;cases h
  |some i=>rw[F]at h;cases h;exact I.bi F
 cases hop:o.op<;>rw[hop]at h<;>simp only[kq]at h<;>simp only[execOp,hop]
 case move x=>
  split at h
  ·rename_i v A;rw[G _ _ A];exact⟨v,fun _=>rfl,h⟩
  ·exact h.elim
 case assign x=>
  split at h
  ·rename_i v A;rw[G _ _ A];exact⟨v,fun _=>rfl,h⟩
  ·exact h.elim
 case pick c a b=>
  split at h
  ·rename_i t x y Q h2 h3;rw[G _ _ Q,G _ _ h2,G _ _ h3];cases t
   ·exact⟨y,fun _=>rfl,h⟩
   ·exact⟨x,fun _=>rfl,h⟩
  ·exact h.elim
 case nilCheck x=>
  split at h
  ·rename_i p hp;obtain⟨a,rfl,B⟩:=h;rw[G _ _ hp];exact⟨_,fun _=>rfl,B⟩
  ·exact h.elim
 case fieldAddr s x f=>
  split at h
  ·rename_i a ha;rw[G _ _ ha];split at h
   ·rename_i i F;split at h
    ·rename_i fs X;split at h
     ·rename_i off t a0;split at h
      ·rename_i j R;cases hz:q7 j.size 0 with
       |true=>rw[hz]at h;exact h.elim
       |false=>
        rw[hz]at h;have E:=I.bi F;rw[X]at E;obtain⟨gs,hg,rfl⟩:=fD E;simp only[qE,zR]at a0;obtain⟨g,a8,b0⟩:=a0;cases b0;refine⟨_,aj.next ((aq hg).bind ?_),h⟩;have a4:gs[f]?=some g:=by simpa using a8
        simp only[a4];refine aj.bind (v:=a) .pure (aj.bind (v:=a.add g.offset) ?_ .pure);unfold fieldPlace;refine(bj I R).bind ?_;have:j.size≠0:=fun e=>by rw[e]at hz;cases hz
        rw[if_neg this];exact .pure
      ·exact h.elim
     ·exact h.elim
    ·exact h.elim
   ·exact h.elim
  ·exact h.elim
 case indexAddr t x ix=>
  split at h
  ·rename_i k n hn;rw[G _ _ hn];split at h
   ·rename_i p len cap U;rw[G _ _ U];split at h
    ·rename_i i F;split at h
     ·rename_i el D;split at h
      ·rename_i j R;obtain⟨a,⟨rfl,h0,Q⟩,B⟩:=h;have E:=I.bi F;rw[D]at E;have H:=dI E;refine⟨_,aj.next ?_,B⟩;unfold Instr.indexAt;refine aj.bind (v:=(k,n)) .pure ?_;refine(aq H).bind ?_;refine aj.bind (v:=(some a,len,el)) .pure ?_;intro w;have:=bj I R w;simp only[Sem.run_bind,aq H w,Result.andThen_ok];cases hl:decide (len<=1)<;>simp[h0,Q,this]
      ·exact h.elim
     ·exact h.elim
    ·exact h.elim
   ·rename_i a U;rw[G _ _ U];split at h
    ·rename_i i F;split at h
     ·rename_i m el D;split at h
      ·rename_i j R;obtain⟨⟨h0,Q⟩,B⟩:=h;have E:=I.bi F;rw[D]at E;have H:=gT E;refine⟨_,aj.next ?_,B⟩;unfold Instr.indexAt;refine aj.bind (v:=(k,n)) .pure ?_;refine(aq H).bind ?_;refine aj.bind (v:=(some a,m,el)) .pure ?_;intro w;have:=bj I R w;simp only[Sem.run_bind,aq H w,Result.andThen_ok];cases hl:decide (m<=1)<;>simp[h0,Q,this]
      ·exact h.elim
     ·exact h.elim
    ·exact h.elim
   ·exact h.elim
  ·exact h.elim
 case index t x ix=>
  split at h
  ·rename_i k n hn;rw[G _ _ hn];split at h
   ·rename_i s U;rw[G _ _ U];split at h
    ·rename_i i F;split at h
     ·rename_i D;obtain⟨b,⟨h0,Q⟩,B⟩:=h;have E:=I.bi F;rw[D]at E;have H:=kr E;refine⟨_,aj.next ?_,B⟩;unfold Instr.index;refine aj.bind (v:=(k,n)) .pure ?_;refine(aq H).bind ?_;have hb:s[n.toNat]?=some b:=by
       rw[zX]at Q;obtain⟨b2,hg⟩:=Q;have b1:n.toNat<s.size:=b2;rw[getElem?_pos s n.toNat b1];exact congrArg some hg
      simp only[h0,if_true,hb];exact .pure
     ·exact h.elim
    ·exact h.elim
   ·rename_i cs U;rw[G _ _ U];split at h
    ·rename_i i F;split at h
     ·rename_i m el D;split at h
      ·rename_i j R;split at h
       ·rename_i s hs;have E:=I.bi F;rw[D]at E;have H:=gT E;have a5:(∃y,(0<=n/\n<(m:Int)/\cs[n.toNat]?=some (s.enc y))/\K (s.enc y))->(∀fs,j.bi≠.struct fs)->(∀n e,j.bi≠.array n e)->j.bi≠.other->j.size=1->
          ∃v,gS C.P (do pure (.value (<-Instr.index t (.agg cs) (.int k n)))) v/\K v:=by
         rintro⟨y,⟨h0,Q,h2⟩,B⟩ d1 d2 d3 cc;refine⟨_,aj.next ?_,B⟩;unfold Instr.index;refine aj.bind (v:=(k,n)) .pure ?_;refine(aq H).bind ?_;simp only[h0,Q,and_self,if_true];refine(bj I R).bind ?_;rw[cc,za];exact mZ I R d1 d2 d3 h2
        split at h
        ·exact h.elim
        ·exact h.elim
        ·exact h.elim
        ·rename_i d1 d2 d3;cases hz:q7 j.size 1 with
         |false=>rw[hz]at h;exact h.elim
         |true=>
          rw[hz]at h;exact a5 h d1 d2 d3 (qD hz)
       ·exact h.elim
      ·exact h.elim
     ·exact h.elim
    ·exact h.elim
   ·exact h.elim
  ·exact h.elim
 case field s x f=>
  split at h
  ·rename_i cs U;rw[G _ _ U];split at h
   ·rename_i i F;split at h
    ·rename_i fs X;split at h
     ·rename_i off t a0;split at h
      ·rename_i j R;have E:=I.bi F;rw[X]at E;obtain⟨gs,hg,rfl⟩:=fD E;simp only[qE,zR]at a0;obtain⟨g,a8,b0⟩:=a0;cases b0;have a4:gs[f]?=some g:=by simpa using a8
       have a5:∀v,aj C.P (part g.type ⟨cs⟩ g.offset) v->K v->∃v,gS C.P (do pure (.value (<-Instr.field s (.agg ⟨cs⟩) f))) v/\K v:=by
        intro v A B;refine⟨v,aj.next ((aq hg).bind ?_),B⟩;simp only[a4];exact aj.bind (v:=(⟨cs⟩:Array Value)) .pure A
       split at h
       ·rename_i ch a7;refine a5 _ (rv I R (.inl ⟨_,a7⟩)) ?_;rw[<-ru];exact h
       ·rename_i n' e' a7;refine a5 _ (rv I R (.inr ⟨_,_,a7⟩)) ?_;rw[<-ru];exact h
       ·exact h.elim
       ·rename_i d1 d2 d3;split at h
        ·rename_i v A;exact a5 v (mZ I R d1 d2 d3 (by simpa using A)) h
        ·exact h.elim
      ·exact h.elim
     ·exact h.elim
    ·exact h.elim
   ·exact h.elim
  ·exact h.elim
 case slice t x V hi0 mx=>
  split at h
  ·exact h.elim
  ·split at h
   ·rename_i l r hl hr;have bd:(V=none/\l=none)∨∃y k m,V=some y/\e y=.int k m/\l=some m:=by
     cases V with
     |none=>cases hl;exact .inl ⟨rfl,rfl⟩
     |some y=>
      simp only[nL]at hl;split at hl
      ·rename_i k m hm;cases hl;exact .inr ⟨y,k,m,rfl,G _ _ hm,rfl⟩
      ·cases hl
    have a9:(hi0=none/\r=none)∨∃y k m,hi0=some y/\e y=.int k m/\r=some m:=by
     cases hi0 with
     |none=>cases hr;exact .inl ⟨rfl,rfl⟩
     |some y=>
      simp only[nL]at hr;split at hr
      ·rename_i k m hm;cases hr;exact .inr ⟨y,k,m,rfl,G _ _ hm,rfl⟩
      ·cases hr
    have J:∀(bb:Bool) (len cap:Nat) (V F:Option Value) (a b:Nat),(V=none->a=0)->(∀v,V=some v->∃k m,v=.int k m/\0<=m/\a=m.toNat/\m<=(b:Int))->
      (F=none->b=len)->(∀v,F=some v->∃k m,v=.int k m/\0<=m/\b=m.toNat/\m<=(cap:Int))->
      aj C.P (zh bb len cap V F none) (a,b,cap):=by
     intro bb len cap V F a b Q h2 h3 h4 w;cases F with
     |none=>
      have e1:=h3 rfl;subst e1;cases V with
      |none=>rw[Q rfl];simp[zh]
      |some v=>
       obtain⟨k,m,rfl,x1,rfl,x2⟩:=h2 v rfl;simp[zh,Instr.sliceBound,asIntOf,x1,x2]
     |some u=>
      obtain⟨k',W,rfl,y1,rfl,y2⟩:=h4 u rfl;cases V with
      |none=>rw[Q rfl];simp[zh,Instr.sliceBound,asIntOf,y1,y2]
      |some v=>
       obtain⟨k,m,rfl,x1,rfl,x2⟩:=h2 v rfl;have x3:¬max W 0<m:=by omega
       simp[zh,Instr.sliceBound,asIntOf,x1,y1,y2,x3]
    split at h
    ·rename_i p len cap U;rw[G _ _ U];split at h
     ·rename_i i F;split at h
      ·rename_i el D;split at h
       ·rename_i j R;have E:=I.bi F;rw[D]at E;have H:=dI E;have fin:∀(a b:Nat) (v:Value),aj C.P (zh true len cap (V.map e) (hi0.map e) none) (a,b,cap)->
          v=.slice (if cap=a then p else p.map (·.add (a*j.size))) (b-a) (cap-a)->K v->
          ∃v,gS C.P (do pure (.value (<-zV t (.slice p len cap) (V.map e) (hi0.map e) (Option.map e none)))) v/\K v:=by
         intro a b v hb A B;refine⟨v,aj.next ?_,B⟩;unfold zV;refine(aq H).bind ?_;simp only[Instr.slice,Option.map_none];refine(aq H).bind ?_;refine hb.bind ?_;subst A;exact(bj I R).bind .pure
        have ad:(if cap=0 then p else p.map (·.add (0*j.size)))=p:=by
         cases p<;>simp[Addr.add]
        rcases bd with⟨rfl,rfl⟩|⟨y,k,m,rfl,hy,rfl⟩<;>rcases a9 with⟨rfl,rfl⟩|⟨y',k',W,rfl,hy',rfl⟩
        ·exact fin 0 len _ (J _ _ _ _ _ _ _ (fun _=>rfl) (by simp) (fun _=>rfl) (by simp)) (by rw[ad];rfl) h
        ·obtain⟨⟨S,Z⟩,B⟩:=h;exact fin 0 W.toNat _ (J _ _ _ _ _ _ _ (fun _=>rfl) (by simp) (by simp) (fun v A=>by cases A;exact⟨k',W,hy',S,rfl,Z⟩)) (by rw[ad];rfl) B
        ·obtain⟨⟨S,Z⟩,B⟩:=h;exact fin m.toNat len _ (J _ _ _ _ _ _ _ (by simp) (fun v A=>by cases A;exact⟨k,m,hy,S,rfl,Z⟩) (fun _=>rfl) (by simp)) rfl B
        ·obtain⟨⟨S,Z,a3⟩,B⟩:=h;exact fin m.toNat W.toNat _ (J _ _ _ _ _ _ _ (by simp) (fun v A=>by cases A;exact⟨k,m,hy,S,rfl,by omega⟩) (by simp) (fun v A=>by cases A;exact⟨k',W,hy',by omega,rfl,a3⟩)) rfl B
       ·exact h.elim
      ·exact h.elim
     ·exact h.elim
    ·rename_i s U;rw[G _ _ U];split at h
     ·rename_i i F;split at h
      ·rename_i D;have E:=I.bi F;rw[D]at E;have H:=kr E;have fin:∀(a b:Nat) (v:Value),aj C.P (zh false s.size s.size (V.map e) (hi0.map e) none) (a,b,s.size)->
         v=.string (s.extract a b)->K v->
         ∃v,gS C.P (do pure (.value (<-zV t (.string s) (V.map e) (hi0.map e) (Option.map e none)))) v/\K v:=by
        intro a b v hb A B;refine⟨v,aj.next ?_,B⟩;unfold zV;refine(aq H).bind ?_;simp only[Instr.slice,Option.map_none];refine(aq H).bind ?_;subst A;intro w;simp[hb w]
       rcases bd with⟨rfl,rfl⟩|⟨y,k,m,rfl,hy,rfl⟩<;>rcases a9 with⟨rfl,rfl⟩|⟨y',k',W,rfl,hy',rfl⟩
       ·exact fin 0 s.size _ (J _ _ _ _ _ _ _ (fun _=>rfl) (by simp) (fun _=>rfl) (by simp)) rfl h
       ·obtain⟨⟨S,Z⟩,B⟩:=h;exact fin 0 W.toNat _ (J _ _ _ _ _ _ _ (fun _=>rfl) (by simp) (by simp) (fun v A=>by cases A;exact⟨k',W,hy',S,rfl,Z⟩)) rfl B
       ·obtain⟨⟨S,Z⟩,B⟩:=h;exact fin m.toNat s.size _ (J _ _ _ _ _ _ _ (by simp) (fun v A=>by cases A;exact⟨k,m,hy,S,rfl,Z⟩) (fun _=>rfl) (by simp)) rfl B
       ·obtain⟨⟨S,Z,a3⟩,B⟩:=h;exact fin m.toNat W.toNat _ (J _ _ _ _ _ _ _ (by simp) (fun v A=>by cases A;exact⟨k,m,hy,S,rfl,by omega⟩) (by simp) (fun v A=>by cases A;exact⟨k',W,hy',by omega,rfl,a3⟩)) rfl B
      ·exact h.elim
     ·exact h.elim
    ·rename_i a U;rw[G _ _ U];split at h
     ·rename_i i F;split at h
      ·rename_i n el D;split at h
       ·rename_i j R;have E:=I.bi F;rw[D]at E;have H:=gT E;have fin:∀(a' b:Nat) (v:Value),aj C.P (zh false n n (V.map e) (hi0.map e) none) (a',b,n)->
          v=.slice (some (if n=a' then a else a.add (a'*j.size))) (b-a') (n-a')->K v->
          ∃v,gS C.P (do pure (.value (<-zV t (.pointer (some a)) (V.map e) (hi0.map e) (Option.map e none)))) v/\K v:=by
         intro a' b v hb A B;refine⟨v,aj.next ?_,B⟩;unfold zV;refine(aq H).bind ?_;simp only[Option.map_none];refine aj.bind (v:=a) .pure ?_;refine hb.bind ?_;subst A;exact(bj I R).bind .pure
        have ad:(if n=0 then a else a.add (0*j.size))=a:=by simp[Addr.add]
        rcases bd with⟨rfl,rfl⟩|⟨y,k,m,rfl,hy,rfl⟩<;>rcases a9 with⟨rfl,rfl⟩|⟨y',k',W,rfl,hy',rfl⟩
        ·exact fin 0 n _ (J _ _ _ _ _ _ _ (fun _=>rfl) (by simp) (fun _=>rfl) (by simp)) (by rw[ad];rfl) h
        ·obtain⟨⟨S,Z⟩,B⟩:=h;exact fin 0 W.toNat _ (J _ _ _ _ _ _ _ (fun _=>rfl) (by simp) (by simp) (fun v A=>by cases A;exact⟨k',W,hy',S,rfl,Z⟩)) (by rw[ad];rfl) B
        ·obtain⟨⟨S,Z⟩,B⟩:=h;exact fin m.toNat n _ (J _ _ _ _ _ _ _ (by simp) (fun v A=>by cases A;exact⟨k,m,hy,S,rfl,Z⟩) (fun _=>rfl) (by simp)) rfl B
        ·obtain⟨⟨S,Z,a3⟩,B⟩:=h;exact fin m.toNat W.toNat _ (J _ _ _ _ _ _ _ (by simp) (fun v A=>by cases A;exact⟨k,m,hy,S,rfl,by omega⟩) (by simp) (fun v A=>by cases A;exact⟨k',W,hy',by omega,rfl,a3⟩)) rfl B
       ·exact h.elim
      ·exact h.elim
     ·exact h.elim
    ·exact h.elim
   ·exact h.elim
 case extract x n=>
  split at h
  ·rename_i vs U;rw[G _ _ U];split at h
   ·rename_i v A;refine⟨v,aj.next ?_,h⟩;have:(⟨vs⟩:Array Value)[n]?=some v:=by simpa using A
    simp only[Instr.extract,this];exact .pure
   ·exact h.elim
  ·exact h.elim
 case binOp op t x y u=>
  split at h
  ·rename_i a b ha hb;rw[G _ _ ha,G _ _ hb];obtain⟨v,A,B⟩:=tK (P:=C.P) (x:=x) (y:=y) (M t) h;exact⟨v,A.next,B⟩
  ·exact h.elim
 case unOp op t x=>
  split at h
  ·rename_i v A;rw[G _ _ A];unfold yf at h;split at h
   ·split at h
    ·exact⟨_,aj.next .pure,h⟩
    ·exact h.elim
   ·split at h
    ·exact⟨_,aj.next .pure,h⟩
    ·exact⟨_,aj.next .pure,h⟩
    ·exact h.elim
   ·exact h.elim
  ·exact h.elim
 case convert s d x=>
  split at h
  ·rename_i v ks A b5;rw[G _ _ A];have hs:=oM (M _ _ b5);unfold vZ at h;split at h
   ·split at h
    ·rename_i n _ k B;have H:=oM (M _ _ B);refine⟨_,aj.next ?_,h⟩;unfold convert;refine(aq hs).bind ((aq H).bind ?_);exact .pure
    ·exact h.elim
   ·exact h.elim
  ·exact h.elim
 case build t parts=>
  split at h
  ·rename_i vs b9;have hp:(parts.map fun(i,x)=>(i,e x)).toList=vs:=by
    have:=mY G b9;simpa using this
   split at h
   ·rename_i i F;obtain⟨z,hz,b6⟩:=jS I F;have a6:i.zero.toArray=z.cells:=by rw[<-b6]
    cases hbig:wA 24 i.size with
    |true=>
     rw[hbig]at h;obtain⟨v,A,B⟩:=h;have b7:(parts.map fun(i,x)=>(i,e x))=vs.toArray:=by rw[<-hp]
     refine⟨v,aj.next ?_,B⟩;show aj C.P (zy t (parts.map fun(i,x)=>(i,e x))) v;rw[b7];exact A
    |false=>
    rw[hbig]at h;simp only[cond_false]at h;split at h
    ·rename_i fs X;have E:=I.bi F;rw[X]at E;obtain⟨gs,hg,rfl⟩:=fD E;split at h
     ·rename_i ps b3;split at h
      ·rename_i cells O;refine⟨_,aj.next (hz.bind ((aq hg).bind ?_)),h⟩;have b4:aj C.P (gs.mapM fun f=>(do pure (f.offset,<-sizeOf f.type):Sem (Nat×Nat))) ps.toArray:=by
        rw[z6];intro w;have:=eR I b3 w;rw[map_eq_pure_bind,Sem.run_bind,this];rfl
       refine b4.bind ?_;have br:zD (fun n=>ps.toArray[n]?) z.cells (parts.map fun(i,x)=>(i,e x)).toList=some cells:=by
        rw[hp,<-a6];simpa using O
       rw[br];exact .pure
      ·exact h.elim
     ·exact h.elim
    ·rename_i n el X;have E:=I.bi F;rw[X]at E;have H:=gT E;split at h
     ·rename_i j R;split at h
      ·rename_i cells O;refine⟨_,aj.next (hz.bind ((aq H).bind ((bj I R).bind ?_))),h⟩;have br:zD (fun i=>some (i*j.size,j.size)) z.cells (parts.map fun(i,x)=>(i,e x)).toList=some cells:=by
        rw[hp,<-a6];exact O
       rw[br];exact .pure
      ·exact h.elim
     ·exact h.elim
    ·exact h.elim
   ·exact h.elim
  ·exact h.elim
 case makeFunc fn first captured=>
  split at h
  ·rename_i a b ha hb;have Q:first.map e=a.toArray:=by apply zN;simpa using kF G ha
   have h2:captured.map e=b.toArray:=by apply zN;simpa using kF G hb
   refine⟨_,aj.next ?_,h⟩;rw[Q,h2];exact .pure
  ·exact h.elim
 case call c=>
  split at h
  ·rename_i b hb;have L:∀{v:Value},aj C.P (builtin b c.argTypes o.type (c.args.map fun| .const _=>true|_=>false) (c.args.map e)) (.value v)->
     gS C.P (do let d<-resolve e c o.type;invoke d.target d.args) v:=by
    intro v A w;have:=A w;unfold resolve;rw[hb];exact this
   have N:∀{vs:List Value},gf ev c.args.toList=some vs->c.args.map e=vs.toArray:=fun A=>by
    apply zN;simpa using kF G A
   have Y:∀{s:Sem Value} {v:Value},aj C.P s v->aj C.P (do pure (Next.value (<-s))) (.value v):=fun hs=>hs.bind .pure;split at h
   case h_1=>
    split at h
    ·rename_i t ts x Q h2;split at h
     ·rename_i v A;have ha:c.args.map e=#[v]:=by
       apply zN;rw[Array.toList_map,h2];simp[G _ _ A]
      have ht:c.argTypes[0]?=some t:=by
       rw[<-wy,Q];rfl
      unfold xt at h;split at h
      ·rename_i p n cap;split at h
       ·rename_i el D;have H:=dI (M _ _ D);refine⟨_,L ?_,h⟩;rw[ha];refine Y ?_;intro w;simp[Builtin.len_,ht,underlying,H,goInt]
       ·exact h.elim
      ·rename_i s;split at h
       ·rename_i D;have H:=kr (M _ _ D);refine⟨_,L ?_,h⟩;rw[ha];refine Y ?_;intro w;simp[Builtin.len_,ht,underlying,H,goInt]
       ·exact h.elim
      ·exact h.elim
     ·exact h.elim
    ·exact h.elim
   case h_2=>
    split at h
    ·rename_i t ts x Q h2;split at h
     ·rename_i v A;have ha:c.args.map e=#[v]:=by
       apply zN;rw[Array.toList_map,h2];simp[G _ _ A]
      have ht:c.argTypes[0]?=some t:=by
       rw[<-wy,Q];rfl
      unfold xu at h;split at h
      ·rename_i p n cap;split at h
       ·rename_i el D;have H:=dI (M _ _ D);refine⟨_,L ?_,h⟩;rw[ha];refine Y ?_;intro w;simp[Builtin.cap_,ht,underlying,H,goInt]
       ·exact h.elim
      ·exact h.elim
     ·exact h.elim
    ·exact h.elim
   case h_3=>
    split at h
    ·rename_i k a k' b A;refine⟨_,L ?_,h⟩;rw[N A];refine Y ?_;intro w;simp[Builtin.min_,Builtin.min2]
    ·exact h.elim
   case h_4=>
    split at h
    ·rename_i k a k' b A;refine⟨_,L ?_,h⟩;rw[N A];refine Y ?_;intro w;simp[Builtin.max_,Builtin.max2]
    ·exact h.elim
   case h_5=>
    split at h
    ·rename_i k a b A;refine⟨_,L ?_,h⟩;rw[N A];exact Y .pure
    ·exact h.elim
   case h_6=>
    split at h
    ·rename_i k a b A;refine⟨_,L ?_,h⟩;rw[N A];exact Y .pure
    ·exact h.elim
   all_goals exact h.elim
  ·exact h.elim
 all_goals exact h.elim
end
def ap(h:Heap)(a:Addr):Nat->List Value->Prop
 |_,[]=>True
 |n,v::r=>cellOf h (a.add n)=some v/\ap h a (n+1) r
structure jI where
 a:Addr
 ty:Ty
 n:Nat
def jI.holds(r:jI)(h:Heap)(y:r.ty.den):Prop:=
 match r.ty,y with
 | .sc s,y=>cellOf h r.a=some (s.enc y)
 | .agg l,y=>ap h r.a 0 (jQ l y)
 | .arr s,y=>y.length=r.n/\ap h r.a 0 (y.map s.enc)
def iP(T:ed)(c:Op)(b:Operand->Option Value):Option jI:=
 match c with
 | .load t x=>match b x with
  |some (.pointer (some a))=>match T.get t with
   |some i=>match i.bi with
    | .struct _=>match i.ty with
     | .agg l=>bif q7 l.length i.size then some ⟨a,i.ty,i.size⟩else none
     |_=>none
    | .array _ _=>match i.ty with
     | .arr _=>some ⟨a,i.ty,i.size⟩
     |_=>none
    | .other=>none
    |_=>match i.ty with
     | .sc _=>some ⟨a,i.ty,1⟩
     |_=>none
   |none=>none
  |_=>none
 |_=>none
theorem na:∀(l:List Sc) (x:oL l),(jQ l x).length=l.length
 |[],_=>rfl
 |[_],_=>rfl
 |_::t::r,x=>by simp only[jQ,qV];rw[na (t::r) x.2];rfl
theorem run_loadCells{P:Program}{w:World}{a:Addr}:∀(vs:List Value) (i:Nat) (b:Array Value),ap w.heap a i vs->
  (loadCellsFrom a i vs.length b).run P w=.ok (b++vs.toArray) w
 |[],i,b,_=>by simp[loadCellsFrom]
 |v::r,i,b,h=>by
  simp only[qV,loadCellsFrom,Sem.run_bind,run_load,oJ,h.1,Result.andThen_ok];rw[run_loadCells r (i+1) (b.push v) h.2];simp
theorem kG{C:kp}(m:C.Ok){A:Operand->Option Value}{e:Operand->Value}(B:∀x v,A x=some v->e x=v){o:Oper}{r:jI}
  (b:iP C.T o.op A=some r) {y:r.ty.den} {w:World} (f:r.holds w.heap y):(execOp e o).run C.P w=.ok (.value (r.ty.enc y)) w:=by
 unfold iP at b;split at b
 ·rename_i t x z;simp only[execOp,z];split at b
  ·rename_i a H;rw[B _ _ H];split at b
   ·rename_i i q;have j:(∀v,(loadVar t a).run C.P w=.ok v w->(do let s<-wD t (.pointer (some a));pure (Next.value s):Sem Next).run C.P w=.ok (.value v) w):=by
     intro v E;have:wD t (.pointer (some a))=loadVar t a:=rfl;rw[this,Sem.run_bind,E];rfl
    split at b
    ·rename_i D h;split at b
     ·rename_i l g;cases hb:q7 l.length i.size with
      |false=>rw[hb]at b;cases b
      |true=>
       rw[hb]at b;simp only[cond_true,zQ.injEq]at b;subst b;have p:=qD hb;have d:∀(c:Ty) (y:c.den),c=.agg l->jI.holds ⟨a,c,i.size⟩ w.heap y->(loadVar t a).run C.P w=.ok (c.enc y) w:=by
        rintro c y rfl f;unfold loadVar;rw[Sem.run_bind,(dw m q).1 D h w];simp only[Result.andThen_ok,if_true,Sem.run_bind,bj m q w];have k:=run_loadCells (P:=C.P) (w:=w) (a:=a) (jQ l y) 0 #[] f;rw[na,p]at k;unfold loadCells;rw[k];simp
       exact j _ (d i.ty y g f)
     ·cases b
    ·rename_i n F h;split at b
     ·rename_i s g;cases b;have d:∀(c:Ty) (y:c.den),c=.arr s->jI.holds ⟨a,c,i.size⟩ w.heap y->(loadVar t a).run C.P w=.ok (c.enc y) w:=by
       rintro c y rfl ⟨g,f⟩;unfold loadVar;rw[Sem.run_bind,(dw m q).2.1 n F h w];simp only[Result.andThen_ok,if_true,Sem.run_bind,bj m q w];have k:=run_loadCells (P:=C.P) (w:=w) (a:=a) (y.map s.enc) 0 #[] f;rw[qT,g]at k;unfold loadCells;rw[k];simp
      exact j _ (d i.ty y g f)
     ·cases b
    ·cases b
    ·rename_i G I J;split at b
     ·rename_i s g;cases b;have d:∀(c:Ty) (y:c.den),c=.sc s->jI.holds ⟨a,c,1⟩ w.heap y->(loadVar t a).run C.P w=.ok (c.enc y) w:=by
       rintro c y rfl f;have u:cellOf w.heap a=some (s.enc y):=f;unfold loadVar;rw[Sem.run_bind,(dw m q).2.2 G I J w];simp[oJ,u]
      exact j _ (d i.ty y g f)
     ·cases b
   ·cases b
  ·cases b
 ·cases b
def Typed(t:Ty)(K:Value->Heap->Prop)(v:Value)(h:Heap):Prop:=∃x:t.den,v=t.enc x/\K (t.enc x) h
def nN(t:Rt)(K:Value->Heap->Prop)(v:Value)(h:Heap):Prop:=∃x:t.den,v=t.enc x/\K (t.enc x) h
def nO(K:Value->Heap->Prop)(v:Value)(h:Heap):Prop:=∃a:Addr,v=.pointer (some a)/\K (.pointer (some a)) h
def xw(T:ed)(t:TypeId)(tup:List (TypeId×List Ty)):Option Rt:=
 match tup.find? (fun p=>q7 p.1 t)with
 |some p=>some (.many p.2)
 |none=>match T.get t with
  |some i=>some (.one i.ty)
  |none=>none
structure Ctx extends kp where
 tup:List (TypeId×List Ty)
 fns:List Bool
structure Ctx.Ok (C:Ctx):Prop extends kp.Ok C.tokp where
 fns:(C.P.funcs.toList.map fun f=>!(f.name== "runtime.NumGoroutine")&&f.body.isSome)=C.fns
def tL(C:Ctx)(g:FuncId)(args:List Value)(t:TypeId)(K:Value->Heap->Prop)(h:Heap):Prop:=
 match C.fns[g]? with
 |some true=>match xw C.T t C.tup with
  |some r=>ac C.P g args.toArray h (nN r K)
  |none=>False
 |_=>False
def nP(C:Ctx)(o:Oper)(e:Operand->Option Value)(K:Value->Heap->Prop)(h:Heap):Prop:=
 match o.op with
 | .store t a x=>match e a,e x with
  |some p,some v=>ab C.P (qb t p v) h fun _ j=>K undef j
  |_,_=>False
 | .alloc t=>ab C.P (qC t true (.tuple #[])) h (nO K)
 | .box t x=>match e x with
  |some v=>ab C.P (qA t v) h (nO K)
  |none=>False
 | .makeSlice t l c=>match e l,e c with
  |some l,some c=>ab C.P (wc t l c) h (Typed (.sc .slc) K)
  |_,_=>False
 | .buildSlice t n parts=>match lT e parts.toList with
  |some ps=>ab C.P (qg t n ps.toArray) h (Typed (.sc .slc) K)
  |none=>False
 | .makeMap t none=>ab C.P (Instr.makeMap t none) h (Typed (.sc .mp) K)
 | .lookup t x ix ok=>match e x,e ix,xw C.T o.type C.tup with
  |some m,some k,some r=>ab C.P (Instr.lookup t m k ok) h (nN r K)
  |_,_,_=>False
 | .mapUpdate t m k x=>match e m,e k,e x with
  |some m,some k,some v=>ab C.P (Instr.mapUpdate t m k v) h fun _ j=>K undef j
  |_,_,_=>False
 | .convert s d x=>match e x,C.T.get o.type with
  |some v,some i=>ab C.P (convert s d v) h (Typed i.ty K)
  |_,_=>False
 | .binOp op t x y _=>match e x,e y,C.T.get o.type with
  |some a,some b,some i=>ab C.P (do eqGuard op t x y a b;binOp op t a b) h (Typed i.ty K)
  |some a,some b,none=>ab C.P (do eqGuard op t x y a b;binOp op t a b) h (Typed (.sc .bool) K)
  |_,_,_=>False
 | .slice t x lo hi mx=>match optVal e lo,optVal e hi,optVal e mx,e x with
  |some l,some r,some m,some v=>ab C.P (zV t v l r m) h (Typed (.sc .slc) K)
  |_,_,_,_=>False
 | .call c=>match c.callee with
  | .builtin .append=>match gf e c.args.toList with
   |some vs=>ab C.P (qh c.argTypes o.type vs.toArray) h (Typed (.sc .slc) K)
   |none=>False
  | .builtin .copy=>match gf e c.args.toList with
   |some vs=>ab C.P (zd c.argTypes o.type vs.toArray) h (Typed (.sc (.int .i64)) K)
   |none=>False
  | .builtin .clear=>match gf e c.args.toList with
   |some vs=>ab C.P (Builtin.clear_ c.argTypes o.type vs.toArray) h K
   |none=>False
  | .builtin .len=>match gf e c.args.toList with
   |some vs=>ab C.P (Builtin.len_ c.argTypes o.type vs.toArray) h (Typed (.sc (.int .i64)) K)
   |none=>False
  | .builtin .unsafeString=>match gf e c.args.toList with
   |some vs=>ab C.P (Builtin.unsafeString_ c.argTypes o.type vs.toArray) h (Typed (.sc .str) K)
   |none=>False
  | .builtin .delete=>match gf e c.args.toList with
   |some vs=>ab C.P (Builtin.delete_ c.argTypes o.type vs.toArray) h K
   |none=>False
  | .value f=>match e f,gf e c.args.toList with
   |some (.func (.func g) ⟨first⟩ ⟨caps⟩),some vs=>tL C g (first++vs++caps) o.type K h
   |_,_=>False
  |_=>False
 |_=>False
where
 optVal (e:Operand->Option Value):Option Operand->Option (Option Value)
  |none=>some none
  |some x=>match e x with
   |some v=>some (some v)
   |none=>none
section
variable {P:Program} {h:Heap} {K:Value->Heap->Prop}
theorem bX{s:Sem Value}(a:ab P s h K):kn P (do pure (.value (<-s))) h K:=
 ab.bind (a.mono fun _ _ b=>ab.pure' b)
theorem rx{s:Sem Unit}(a:ab P s h fun _ b=>K undef b):kn P (do s;pure .skip) h K:=
 ab.bind (a.mono fun _ _ c=>ab.pure' c)
theorem Typed.out{t:Ty}{v:Value}{h:Heap}(x:Typed t K v h):K v h:=by obtain⟨y,rfl,a⟩:=x;exact a
theorem nN.out{t:Rt}{v:Value}{h:Heap}(x:nN t K v h):K v h:=by obtain⟨y,rfl,a⟩:=x;exact a
theorem nO.out{v:Value}{h:Heap}(x:nO K v h):K v h:=by obtain⟨y,rfl,a⟩:=x;exact a
end
theorem sF{C:Ctx}(e:C.Ok){g:FuncId}{args:List Value}{t:TypeId}{K:Value->Heap->Prop}{h:Heap}(b:tL C g args t K h):
  kn C.P (callFunc g args.toArray) h K:=by
 unfold tL at b;split at b
 ·rename_i f;split at b
  ·rename_i r i;have a:=congrArg (·[g]?) e.fns;simp only[qE,f]at a;cases hf:C.P.funcs.toList[g]? with
   |none=>rw[hf]at a;cases a
   |some fn=>
    rw[hf]at a;simp only[qQ,zQ.injEq,qB,Bool.not_eq_true']at a;have c:C.P.funcs[g]?=some fn:=by simpa using hf
    have d:fn.body.isNone=false:=by cases hbb:fn.body<;>simp[hbb]at a⊢
    unfold callFunc;refine ab.bind (ab.vu ?_);simp only[c,a.1,d];exact ab.pure' (b.mono fun v j x=>x.out)
  ·exact b.elim
 ·exact b.elim
theorem tM{C:Ctx}(Y:C.Ok){M:Operand->Option Value}{e:Operand->Value}(A:∀x v,M x=some v->e x=v){o:Oper}
  {K:Value->Heap->Prop} {h:Heap} (j:nP C o M K h):kn C.P (execOp e o) h K:=by
 have F:∀{x:Option Operand} {r:Option Value},nP.optVal M x=some r->x.map e=r:=by
  intro x r I;cases x with
  |none=>cases I;rfl
  |some y=>
   simp only[nP.optVal]at I;split at I
   ·rename_i v B;cases I;rw[qQ,A _ _ B]
   ·cases I
 unfold nP at j;split at j
 ·rename_i t a x q;simp only[execOp,q];split at j
  ·rename_i p v W B;rw[A _ _ W,A _ _ B];exact rx j
  ·exact j.elim
 ·rename_i t q;simp only[execOp,q];exact bX (j.mono fun _ _ x=>x.out)
 ·rename_i t x q;simp only[execOp,q];split at j
  ·rename_i v B;rw[A _ _ B];exact bX (j.mono fun _ _ x=>x.out)
  ·exact j.elim
 ·rename_i t l c q;simp only[execOp,q];split at j
  ·rename_i v u B V;rw[A _ _ B,A _ _ V];exact bX (j.mono fun _ _ x=>x.out)
  ·exact j.elim
 ·rename_i t n H q;simp only[execOp,q];split at j
  ·rename_i Z N;have:(H.map fun(i,x)=>(i,e x))=Z.toArray:=by
    apply zN;have:=mY A N;simpa using this
   rw[this];exact bX (j.mono fun _ _ x=>x.out)
  ·exact j.elim
 ·rename_i t q;simp only[execOp,q];exact bX (j.mono fun _ _ x=>x.out)
 ·rename_i t x ix ok q;simp only[execOp,q];split at j
  ·rename_i m k r L G T;rw[A _ _ L,A _ _ G];exact bX (j.mono fun _ _ x=>x.out)
  ·exact j.elim
 ·rename_i t m k x q;simp only[execOp,q];split at j
  ·rename_i m' k' v L G B;rw[A _ _ L,A _ _ G,A _ _ B];exact rx j
  ·exact j.elim
 ·rename_i s d x q;simp only[execOp,q];split at j
  ·rename_i v i B R;rw[A _ _ B];exact bX (j.mono fun _ _ x=>x.out)
  ·exact j.elim
 ·rename_i op t x y u q;simp only[execOp,q];split at j
  ·rename_i a b i Q S R;rw[A _ _ Q,A _ _ S];exact bX (j.mono fun _ _ x=>x.out)
  ·rename_i a b Q S R;rw[A _ _ Q,A _ _ S];exact bX (j.mono fun _ _ x=>x.out)
  ·exact j.elim
 ·rename_i t x lo R mx q;simp only[execOp,q];split at j
  ·rename_i l r m v X T L B;rw[F X,F T,F L,A _ _ B];exact bX (j.mono fun _ _ x=>x.out)
  ·exact j.elim
 ·rename_i c q;simp only[execOp,q];have w:∀{vs:List Value},gf M c.args.toList=some vs->c.args.map e=vs.toArray:=fun B=>by
   apply zN;simpa using kF A B
  split at j
  ·rename_i D;split at j
   ·rename_i vs z;unfold resolve;rw[D,w z];exact bX (j.mono fun _ _ x=>x.out)
   ·exact j.elim
  ·rename_i D;split at j
   ·rename_i vs z;unfold resolve;rw[D,w z];exact bX (j.mono fun _ _ x=>x.out)
   ·exact j.elim
  ·rename_i D;split at j
   ·rename_i vs z;unfold resolve;rw[D,w z];exact bX j
   ·exact j.elim
  ·rename_i D;split at j
   ·rename_i vs z;unfold resolve;rw[D,w z];exact bX (j.mono fun _ _ x=>x.out)
   ·exact j.elim
  ·rename_i D;split at j
   ·rename_i vs z;unfold resolve;rw[D,w z];exact bX (j.mono fun _ _ x=>x.out)
   ·exact j.elim
  ·rename_i D;split at j
   ·rename_i vs z;unfold resolve;rw[D,w z];exact bX j
   ·exact j.elim
  ·rename_i f D;split at j
   ·rename_i g first E vs U z
    unfold resolve;rw[D,w z];simp only[A _ _ U];have:=sF Y j;have J:(⟨first⟩:Array Value)++vs.toArray++(⟨E⟩:Array Value)=(first++vs++E).toArray:=by simp
    have O:kn C.P (callFunc g ((⟨first⟩:Array Value)++vs.toArray++(⟨E⟩:Array Value))) h K:=by rw[J];exact this
    simp only[Deferred.ofValue];exact O
   ·exact j.elim
  ·exact j.elim
 ·exact j.elim
def put(n:Nat)(a:Option Tmp)(K:Env->Heap->Prop)(ρ:Env)(v:Value)(h:Heap):Prop:=
 match a with
 |some d=>bif wA d n then K (.val d v::ρ) h else False
 |none=>K ρ h
theorem iQ{n:Nat}{b:Option Tmp}{K:Env->Heap->Prop}{ρ:Env}{v:Value}{h:Heap}(c:put n b K ρ v h){a:Act}(e:Fits n a ρ):
  ∃ρ',Fits n (a.put b v) ρ'/\Ext ρ ρ' a (a.put b v)/\K ρ' h:=by
 unfold put at c;cases b with
 |none=>exact⟨ρ,e,Ext.refl _ _,c⟩
 |some d=>
  simp only at c;cases hb:wA d n with
  |false=>rw[hb]at c;exact c.elim
  |true=>rw[hb]at c;exact⟨_,e.put hb v,Ext.put v v,c⟩
def vA(C:Ctx)(n:Nat)(o:Oper)(K:Env->Heap->Prop)(ρ:Env)(h:Heap):Prop:=
 match kq C.P C.T o.op ρ.eval with
 | .no=>match iP C.T o.op ρ.eval with
  |some r=>∃y:r.ty.den,r.holds h y/\put n o.dst K ρ (r.ty.enc y) h
  |none=>nP C o ρ.eval (put n o.dst K ρ) h
 |p=>p.holds fun v=>put n o.dst K ρ v h
def nQ(ops:Array Oper)(o:Oper)(ρ:Env)(c a:Env->Prop):Prop:=
 match o.guard with
 |none=>c ρ
 |some (j,want)=>match(ops[j]?).bind (·.dst)with
  |some d=>match ρ.get d with
   |some (.bool b)=>Br b (bif want then c (.val d (.bool true)::ρ)else a (.val d (.bool true)::ρ)) (bif want then a (.val d (.bool false)::ρ)else c (.val d (.bool false)::ρ))
   |some (.tuple _)=>a ρ
   |_=>False
  |none=>False
theorem Fits.known{n:Nat}{a:Act}{ρ:Env}(c:Fits n a ρ){d:Nat}{v:Value}(e:ρ.get d=some v):Fits n a (.val d v::ρ)/\Ext ρ (.val d v::ρ) a a:=by
 refine⟨⟨c.size,c.defers,fun t x b=>?_⟩,⟨[.val d v],rfl,fun _ _=>rfl⟩⟩;simp only[Env.get]at b;cases hb:q7 d t with
 |false=>rw[hb]at b;exact c.get t x b
 |true=>
  rw[hb]at b;have:=qD hb;subst this;rw[cond_true]at b;exact c.get _ x (e.trans b)
theorem nb{ops:Array Oper}{o:Oper}{ρ:Env}{g e:Env->Prop}{n:Nat}{a:Act}(f:Fits n a ρ)(c:nQ ops o ρ g e):
  ∃ρ',Fits n a ρ'/\Ext ρ ρ' a a/\((Region.wanted o (yielded ops a.tmps)=true/\g ρ')∨(Region.wanted o (yielded ops a.tmps)=false/\e ρ')):=by
 unfold nQ at c;unfold Region.wanted;split at c
 ·rename_i m;rw[m];exact⟨ρ,f,Ext.refl _ _,.inl ⟨rfl,c⟩⟩
 ·rename_i j h m;rw[m];split at c
  ·rename_i d q;split at c
   ·rename_i b k;have p:yielded ops a.tmps j=some b:=by
     unfold yielded;rw[q];simp[f.get _ _ k]
    simp only[p];obtain⟨i,l⟩:=f.known k;cases b<;>cases h<;>simp only[Br,cond_true,cond_false]at c
    ·exact⟨_,i,l,.inl ⟨rfl,c⟩⟩
    ·exact⟨_,i,l,.inr ⟨rfl,c⟩⟩
    ·exact⟨_,i,l,.inr ⟨rfl,c⟩⟩
    ·exact⟨_,i,l,.inl ⟨rfl,c⟩⟩
   ·rename_i vs k;have p:yielded ops a.tmps j=none:=by
     unfold yielded;rw[q];simp[f.get _ _ k]
    simp only[p];exact⟨ρ,f,Ext.refl _ _,.inr ⟨by simp,c⟩⟩
   ·exact c.elim
  ·exact c.elim
theorem ux{C:Ctx}(i:C.Ok){n:Nat}{o:Oper}{K:Env->Heap->Prop}{ρ:Env}{a:Act}{w:World}(j:Fits n a ρ)(d:vA C n o K ρ w.heap)
  {Q:Exit->Act->World->Prop} {next:Act->World->Prop}
  (m:∀a' w' ρ',Fits n a' ρ'->Ext ρ ρ' a a'->bm w w'->K ρ' w'.heap->next a' w'):o.wp C.P a w next Q:=by
 have f:∀x v,ρ.eval x=some v->a.eval x=v:=fun x v h=>j.eval h;have b:∀v w',bm w w'->put n o.dst K ρ v w'.heap->next (a.put o.dst v) w':=fun v w' s l=>by
  obtain⟨ρ',p,t,q⟩:=iQ l j;exact m _ _ _ p t s q
 have c:(kq C.P C.T o.op ρ.eval).holds (fun v=>put n o.dst K ρ v w.heap)->o.wp C.P a w next Q:=fun h=>by
  obtain⟨v,k,g⟩:=nM i.toOk f h;unfold Oper.wp;rw[k w];exact b v w (bm.refl w) g
 unfold vA at d;split at d
 ·split at d
  ·rename_i r e;obtain⟨y,u,g⟩:=d;unfold Oper.wp;rw[kG i.toOk f e u];exact b _ w (bm.refl w) g
  ·exact xQ (tM i f d) b
 ·exact c d
def mF(C:Ctx)(n:Nat)(ops:Array Oper)(o:Oper)(K:Env->Heap->Prop)(ρ:Env)(h:Heap):Prop:=
 nQ ops o ρ (fun ρ=>vA C n o K ρ h) (fun ρ=>put n o.dst K ρ undef h)
theorem nR{C:Ctx}(p:C.Ok){n:Nat}{ops:Array Oper}{o:Oper}{i:Nat}(q:ops[i]?=some o){K:Env->Heap->Prop}{ρ:Env}{a:Act}{w:World}
  (f:Fits n a ρ) (h:mF C n ops o K ρ w.heap) {Q:Exit->Act->World->Prop} {next:Act->World->Prop}
  (c:∀a' w' ρ',Fits n a' ρ'->Ext ρ ρ' a a'->bm w w'->K ρ' w'.heap->next a' w'):wpOp C.P ops Q i next a w:=by
 obtain⟨ρ',d,e,m⟩:=nb f h;unfold wpOp;simp only[q];rcases m with⟨hw,hr⟩|⟨hw,hr⟩
 ·simp only[hw,if_true];exact .inl (ux p d hr fun a' w' b r x2 x3 g=>c _ _ _ r (e.trans x2) x3 g)
 ·simp only[hw,qJ,if_false];obtain⟨b,k,j,l⟩:=iQ hr d;exact c _ _ _ k (e.trans j) (bm.refl w) l
def vB(C:Ctx)(n:Nat)(ops:Array Oper)(K:Env->Heap->Prop):List Oper->Env->Heap->Prop
 |[],ρ,h=>K ρ h
 |o::r,ρ,h=>mF C n ops o (vB C n ops K r) ρ h
def Out(n:Nat)(Q:Exit->Env->Heap->Prop)(ρ:Env)(a:Act)(w:World):Exit->Act->World->Prop:=fun e a' w'=>
 ∃ρ',Fits n a' ρ'/\Ext ρ ρ' a a'/\bm w w'/\Q e ρ' w'.heap
theorem pq{C:Ctx}(c:C.Ok){n:Nat}{ops:Array Oper}{K:Env->Heap->Prop}{Q:Exit->Act->World->Prop}{ρ0:Env}{a0:Act}{w0:World}
  (b:∀a w ρ,Fits n a ρ->Ext ρ0 ρ a0 a->bm w0 w->K ρ w.heap->Q .normal a w):
  ∀(r:List Oper) (i:Nat),(∀j,r[j]?=ops[i+j]?)->∀(ρ:Env) (a:Act) (w:World),Fits n a ρ->Ext ρ0 ρ a0 a->bm w0 w->vB C n ops K r ρ w.heap->
   wpOps C.P ops Q (List.range' i r.length) a w
 |[],i,_,ρ,a,w,hf,hx,hl,hs=>b a w ρ hf hx hl hs
 |o::r,i,hr,ρ,a,w,hf,hx,hl,hs=>by
  have f:ops[i]?=some o:=by simpa using(hr 0).symm
  rw[qV,List.range'_succ,wpOps_cons];refine nR c f hf hs fun a' w' ρ' d g e h=>?_;exact pq c b r (i+1) (fun j=>by have:=hr (j+1);simpa[z8,Nat.add_comm 1 j]using this) ρ' a' w' d (hx.trans g) (hl.trans e) h
abbrev an:=List (Addr×Value)
def an.ok:an->Heap->Prop
 |[],_=>True
 |p::r,h=>cellOf h p.1=some p.2/\an.ok r h
def gn(a:Addr):Nat->List Value->an->an
 |_,[],L=>L
 |n,v::r,L=>(a.add n,v)::gn a (n+1) r L
theorem jT{a:Addr}{h:Heap}:∀{vs:List Value} {n:Nat} {L:an},(gn a n vs L).ok h↔ap h a n vs/\L.ok h
 |[],_,L=>by simp[gn,ap]
 |v::r,n,L=>by simp only[gn,an.ok,ap,jT (vs:=r),and_assoc]
def jI.held(r:jI)(y:r.ty.den)(L:an):an:=
 match r.ty,y with
 | .sc s,y=>(r.a,s.enc y)::L
 | .agg l,y=>gn r.a 0 (jQ l y) L
 | .arr s,y=>gn r.a 0 (y.map s.enc) L
theorem jI.xe{r:jI}{y:r.ty.den}{L:an}{b:Heap}(c:r.holds b y){m:Heap}:(r.held y L).ok m↔r.holds m y/\L.ok m:=by
 obtain⟨a,d,n⟩:=r;cases d with
 |sc s=>exact Iff.rfl
 |agg l=>exact jT
 |arr s=>exact jT.trans ⟨fun x=>⟨⟨c.1,x.1⟩,x.2⟩,fun x=>⟨x.1.2,x.2⟩⟩
structure ca where
 op:Nat
 r:jI
 y:r.ty.den
def flat:List ca->an
 |[]=>[]
 |p::r=>p.r.held p.y (flat r)
def ca.ok(p:ca)(w:World):Prop:=p.r.holds w.heap p.y
def waits(ops:Array Oper)(j i:Nat):Bool:=match ops[j]? with
 |some o=>o.after.any fun e=>Region.binds .any e&&q7 e.on i
 |none=>false
def keep(ops:Array Oper)(j:Nat):List ca->List ca
 |[]=>[]
 |p::r=>bif waits ops j p.op then keep ops j r else p::keep ops j r
theorem go{ops:Array Oper}{j:Nat}:∀{L:List ca},∀p∈keep ops j L,p∈L
 |[],p,h=>by cases h
 |q::r,p,h=>by
  unfold keep at h;cases hw:waits ops j q.op with
  |true=>rw[hw]at h;exact qX _ (go p h)
  |false=>
   rw[hw]at h;rcases zA.1 h with rfl|h
   ·exact zg
   ·exact qX _ (go p h)
theorem kH{ops:Array Oper}{j:Nat}:∀{L:List ca} {p:ca},p∈L->waits ops j p.op=false->p∈keep ops j L
 |q::r,p,h,hw=>by
  unfold keep;rcases zA.1 h with rfl|h
  ·rw[hw];exact zg
  ·cases hq:waits ops j q.op with
   |true=>exact kH h hw
   |false=>exact qX _ (kH h hw)
theorem nz{ops:Array Oper}{j:Nat}{p:ca}:∀{M:List ca},p∈keep ops j M->waits ops j p.op=false
 |[],h=>by cases h
 |q::r,h=>by
  unfold keep at h;cases hq:waits ops j q.op with
  |true=>rw[hq]at h;exact nz h
  |false=>
   rw[hq]at h;rcases zA.1 h with rfl|h
   ·exact hq
   ·exact nz h
theorem lU{ops:Array Oper}{j:Nat}{L b:List ca}(c:∀p∈b,p∈L):∀p∈keep ops j b,p∈keep ops j L:=
 fun p a=>kH (c p (go p a)) (nz a)
def dT(P:Program)(ops:Array Oper)(Q:Exit->Act->World->Prop):Nat->List ca->Array Bool->Act->World->Prop
 |0,_,listed,a,w=>Region.ready .any ops listed=[]/\Q .normal a w
 |fuel+1,L,listed,a,w=>
  (Region.ready .any ops listed=[]->Q .normal a w)/\
  ∀i∈Region.ready .any ops listed,wpOp P ops Q i (fun a' w'=>(∀p∈keep ops i L,p.ok w')/\dT P ops Q fuel (keep ops i L) (listed.setIfInBounds i true) a' w') a w
theorem nS{P:Program}{ops:Array Oper}{Q:Exit->Act->World->Prop}:∀(b:Nat) (L:List ca) (c:Array Bool) (a:Act) (w:World),dT P ops Q b L c a w->wpAny P .any ops Q b c a w
 |0,_,_,_,_,h=>h
 |b+1,_,_,_,_,h=>⟨h.1,fun i d=>wpOp_mono (fun a' w' e=>nS b _ _ a' w' e.2) (h.2 i d)⟩
theorem kI{P:Program}{ops:Array Oper}{Q:Exit->Act->World->Prop}:∀(b:Nat) {L e:List ca} (c:Array Bool) (a:Act) (w:World),(∀p∈e,p∈L)->dT P ops Q b L c a w->dT P ops Q b e c a w
 |0,_,_,_,_,_,_,h=>h
 |b+1,_,_,_,_,_,hs,h=>⟨h.1,fun i f=>wpOp_mono (fun a' w' d=>⟨fun p g=>d.1 p (lU hs p g),kI b _ a' w' (lU hs) d.2⟩) (h.2 i f)⟩
theorem ry{P:Program}{ops:Array Oper}{Q:Exit->Act->World->Prop}{i:Nat}{t:Oper}{v:Value}{T:World->Prop}{N:List ca}(hi:ops[i]?=some t)(x:∀(j:Nat) (o:Oper) cs b,ops[j]?=some o->o.op≠.select cs b)
  (hQ:∀c a w,Q (.panic c) (a.put t.dst v) w->Q (.panic c) a w) (hN:∀p∈N,p.op=i) (hT:∀w,(∀p∈N,p.ok w)->T w):
  ∀(f:Nat) (L:List ca) (d:Array Bool) (a:Act) (w:World),
   (∀j r,ops[j]?=some r->j≠i->d.getD j true=false->(∀e∈r.after,Region.binds .any e=true->e.on≠i)->t.apart ops r=true)->
   i∈Region.ready .any ops d->YieldsIf P ops T t v a->(∀p∈N,p.ok w)->(∀p∈L,p.ok w)->
   dT P ops Q f (N++L) (d.setIfInBounds i true) (a.put t.dst v) w->dT P ops Q (f+1) L d a w:=by
 intro f;have y:∀(f:Nat) (L:List ca) (d:Array Bool) (a:Act) (w:World),YieldsIf P ops T t v a->(∀p∈N,p.ok w)->(∀p∈L,p.ok w)->
   dT P ops Q f (N++L) (d.setIfInBounds i true) (a.put t.dst v) w->
   wpOp P ops Q i (fun a' w'=>(∀p∈keep ops i L,p.ok w')/\dT P ops Q f (keep ops i L) (d.setIfInBounds i true) a' w') a w:=fun f L d a w G n I H=>
  G.wpOp hi (hT w n) ⟨fun p g=>I p (go p g),kI f _ _ _ (fun p g=>List.mem_append_right _ (go p g)) H⟩
 induction f with
 |zero=>
  intro L d a w _ E G n I H;refine⟨fun h=>(by rw[h]at E;cases E),fun j U=>?_⟩;by_cases l:j=i
  ·subst l;exact y 0 L d a w G n I H
  ·have:=ready_mono U l;rw[H.1]at this;cases this
 |succ f ih=>
  intro L d a w q E G n I H;refine⟨fun h=>(by rw[h]at E;cases E),fun j U=>?_⟩;by_cases l:j=i
  ·subst l;exact y (f+1) L d a w G n I H
  ·have D:=H.2 j (ready_mono U l);obtain⟨B,r,s,S⟩:=mem_ready.1 U;have A:∀e∈r.after,Region.binds .any e=true->e.on≠i:=fun e he R V=>by
    have D:=S e he R;have Z:=(mem_ready.1 E).1;rw[V]at D;rcases Nat.lt_or_ge i d.size with h'|h'
    ·simp[h']at Z D;rw[Z]at D;cases D
    ·simp[Array.getElem?_eq_none h']at D
   have K:(r.after.any fun e=>Region.binds .any e&&q7 e.on i)=false:=by
    cases hc:r.after.any fun e=>Region.binds .any e&&q7 e.on i with
    |false=>rfl
    |true=>
     obtain⟨k,X,R⟩:=Array.any_eq_true.1 hc;simp only[qB]at R;exact absurd (qD R.2) (A _ (Array.getElem_mem X) R.1)
   have F:waits ops j i=false:=by
    unfold waits;rw[s];exact K
   have z:∀p,p∈N->p∈keep ops j (N++L):=fun p g=>kH (List.mem_append_left _ g) (by rw[hN p g];exact F);have m:∀p,p∈keep ops j L->p∈keep ops j (N++L):=lU fun p g=>List.mem_append_right _ g;have h2:=wpOp_putIf s (q j r s l B A) (fun cs b=>x i t cs b hi) (fun cs b=>x j r cs b s) hQ G D;have u:∀k ok,ops[k]?=some ok->k≠i->(d.setIfInBounds j true).getD k true=false->
     (∀e∈ok.after,Region.binds .any e=true->e.on≠i)->t.apart ops ok=true:=fun k ok X Y M W=>by
    refine q k ok X Y ?_ W;by_cases O:j=k
    ·subst O;exact B
    ·rw[getD_set_ne true O]at M;exact M
   refine wpOp_mono (fun a' w' J=>⟨fun p g=>J.2.1 p (m p g),ih (keep ops j L) (d.setIfInBounds j true) a' w' u (ready_mono E (Ne.symm l)) J.1 (fun p g=>J.2.1 p (z p g)) (fun p g=>J.2.1 p (m p g)) ?_⟩) h2;rw[Array.setIfInBounds_comm _ _ l];refine kI _ _ _ _ (fun p g=>?_) J.2.2;rcases qZ.1 g with g|g
   ·exact z p g
   ·exact m p g
theorem jU{P:Program}{ops:Array Oper}{Q:Exit->Act->World->Prop}{i:Nat}{e:Oper}{v:Value}{T:World->Prop}{N:List ca}{d:Nat}{L:List ca}{b:Array Bool}{a:Act}{w:World}(g:ops[i]?=some e)
  (l:Region.noSelect ops=true) (j:Region.free .any ops b i=true) (n:(Region.ready .any ops b).contains i=true)
  (m:∀c a w,Q (.panic c) (a.put e.dst v) w->Q (.panic c) a w) (q:∀p∈N,p.op=i) (o:∀w,(∀p∈N,p.ok w)->T w) (r:YieldsIf P ops T e v a) (f:∀p∈N,p.ok w) (k:∀p∈L,p.ok w)
  (h:dT P ops Q d (N++L) (b.setIfInBounds i true) (a.put e.dst v) w):dT P ops Q (d+1) L b a w:=
 ry g (Region.noSelect_spec l) m q o d L b a w (Region.free_spec g j) (by simpa using n) r f k h
theorem oN:∀{L:List ca} {w0:World},(∀p∈L,p.ok w0)->∀{m:Heap},(flat L).ok m->∀p∈L,p.r.holds m p.y
 |[],_,_,_,_,p,a=>by cases a
 |q::r,w0,h0,m,h,p,a=>by
  have h:=(jI.xe (h0 q zg)).1 h;rcases zA.1 a with rfl|a
  ·exact h.1
  ·exact oN (fun p a=>h0 p (qX _ a)) h.2 p a
def wd:Op->Bool
 | .move _| .assign _| .pick .. | .nilCheck _| .fieldAddr .. | .indexAddr .. | .index .. | .field .. | .extract .. | .binOp .. | .unOp .. | .convert .. | .build .. | .makeFunc .. | .load .. =>true
 | .slice _ _ _ _ none=>true
 | .call c=>match c.callee with
  | .builtin .len| .builtin .cap| .builtin .min| .builtin .max| .builtin .real| .builtin .imag=>true
  |_=>false
 |_=>false
def fl(ops:Array Oper)(a:Array Bool):List Nat->Option Nat
 |[]=>none
 |i::r=>match ops[i]? with
  |some o=>bif wd o.op&&Region.free .any ops a i then some i else fl ops a r
  |none=>fl ops a r
def tN(C:Ctx)(n:Nat)(ops:Array Oper)(i:Nat)(o:Oper)(L:List ca)(K:List ca->Env->Heap->Prop)(ρ:Env)(h:Heap):Prop:=
 nQ ops o ρ (fun ρ=>match kq C.P C.T o.op ρ.eval with
  | .no=>match iP C.T o.op ρ.eval with
   |some r=>∃y:r.ty.den,r.holds h y/\put n o.dst (K (⟨i,r,y⟩::L)) ρ (r.ty.enc y) h
   |none=>False
  |p=>p.holds fun v=>put n o.dst (K L) ρ v h) (fun ρ=>put n o.dst (K L) ρ undef h)
def rz(C:Ctx)(n:Nat)(ops:Array Oper)(K:Nat->Env->Heap->Prop)(ρ:Env)(h:Heap):List Nat->Prop
 |[]=>True
 |[i]=>match ops[i]? with
  |some o=>mF C n ops o (K i) ρ h
  |none=>False
 |i::j::r=>(match ops[i]? with
  |some o=>mF C n ops o (K i) ρ h
  |none=>False)/\rz C n ops K ρ h (j::r)
def iR(C:Ctx)(n:Nat)(ops:Array Oper)(K:Env->Heap->Prop):Nat->Array Bool->List ca->Env->Heap->Prop
 |0,listed,_,ρ,h=>bif (Region.ready .any ops listed).isEmpty then K ρ h else False
 |k+1,listed,L,ρ,h=>match fl ops listed (Region.ready .any ops listed)with
  |some i=>match ops[i]? with
   |some o=>tN C n ops i o L (iR C n ops K k (listed.setIfInBounds i true)) ρ h
   |none=>False
  |none=>match Region.ready .any ops listed with
   |[]=>K ρ h
   |i::r=>rz C n ops (fun i ρ h=>(flat (keep ops i L)).ok h/\iR C n ops K k (listed.setIfInBounds i true) (keep ops i L) ρ h) ρ h (i::r)
theorem im{ops:Array Oper}{a:Array Bool}:∀{rs:List Nat} {i:Nat},fl ops a rs=some i->i∈rs/\Region.free .any ops a i=true
 |[],_,h=>by cases h
 |j::r,i,h=>by
  simp only[fl]at h;split at h
  ·rename_i o b;cases hb:(wd o.op&&Region.free .any ops a j)with
   |true=>
    rw[hb]at h;cases h;simp only[qB]at hb;exact⟨zg,hb.2⟩
   |false=>
    rw[hb]at h;have:=im h;exact⟨qX _ this.1,this.2⟩
  ·have:=im h;exact⟨qX _ this.1,this.2⟩
theorem pr{C:Ctx}{n:Nat}{ops:Array Oper}{K:Nat->Env->Heap->Prop}{ρ:Env}{h:Heap}:∀{l:List Nat},rz C n ops K ρ h l->∀i∈l,∃o,ops[i]?=some o/\mF C n ops o (K i) ρ h
 |[],_,i,hi=>by cases hi
 |[j],ha,i,hi=>by
  simp only[qz]at hi;subst hi;simp only[rz]at ha;split at ha
  ·rename_i o b;exact⟨o,b,ha⟩
  ·exact ha.elim
 |j::k::r,ha,i,hi=>by
  obtain⟨a,c⟩:=ha;rcases zA.1 hi with rfl|hi
  ·split at a
   ·rename_i o b;exact⟨o,b,a⟩
   ·exact a.elim
  ·exact pr c i hi
section
variable {C:Ctx} {n:Nat} {ops:Array Oper} {K:Env->Heap->Prop} {Q:Exit->Act->World->Prop} {ρ0:Env} {a0:Act} {w0:World}
theorem pu(I:C.Ok)(G:Region.noSelect ops=true)
  (U:∀a w ρ,Fits n a ρ->Ext ρ0 ρ a0 a->bm w0 w->K ρ w.heap->Q .normal a w) (z:∀c a w,¬Q (.panic c) a w):
  ∀(k:Nat) (b:Array Bool) (L:List ca) (ρ:Env) (a:Act) (w:World),Fits n a ρ->Ext ρ0 ρ a0 a->bm w0 w->(∀p∈L,p.ok w)->
   iR C n ops K k b L ρ w.heap->dT C.P ops Q k L b a w
 |0,b,L,ρ,a,w,hf,hx,hl,hL,h=>by
  simp only[iR]at h;cases hb:(Region.ready .any ops b).isEmpty with
  |false=>rw[hb]at h;exact h.elim
  |true=>rw[hb]at h;exact⟨by simpa using hb,U _ _ _ hf hx hl h⟩
 |k+1,b,L,ρ,a,w,hf,hx,hl,hL,h=>by
  have M:=pu I G U z k;simp only[iR]at h;split at h
  ·rename_i i J;obtain⟨F,f⟩:=im J;have e:(Region.ready .any ops b).contains i=true:=by simpa using F
   split at h
   ·rename_i o A;unfold tN at h;obtain⟨ρ',H,W,h3⟩:=nb hf h;have q:∀c a w (v:Value),Q (.panic c) (Act.put a o.dst v) w->Q (.panic c) a w:=fun c a w v hq=>absurd hq (z c _ w);have X:∀x v,Env.eval ρ' x=some v->a.eval x=v:=fun x v h=>H.eval h;rcases h3 with⟨t,g⟩|⟨t,g⟩
    ·have s:(kq C.P C.T o.op (Env.eval ρ')).holds (fun v=>put n o.dst (iR C n ops K k (b.setIfInBounds i true) L) ρ' v w.heap)->
       dT C.P ops Q (k+1) L b a w:=fun d=>by
      obtain⟨v,hv,V⟩:=nM I.toOk X d;obtain⟨m,D,B,E⟩:=iQ V H;exact jU (N:=[]) (T:=fun _=>True) A G f e (fun c a w=>q c a w v) (fun p d=>by cases d) (fun _ _=>trivial) (.inl ⟨t,fun w _=>hv w⟩) (fun p d=>by cases d) hL
       (M _ L m _ w D (hx.trans (W.trans B)) hl hL E)
     split at g
     ·split at g
      ·rename_i r u;obtain⟨y,Z,V⟩:=g;obtain⟨m,D,B,E⟩:=iQ V H;have R:∀p∈[(⟨i,r,y⟩:ca)],p.ok w:=fun p d=>by rw[qz]at d;subst d;exact Z
       refine jU (N:=[⟨i,r,y⟩]) (T:=fun w=>r.holds w.heap y) A G f e (fun c a w=>q c a w _) (fun p d=>by rw[qz]at d;subst d;rfl)
        (fun w h=>h ⟨i,r,y⟩ (qz.2 rfl)) (.inl ⟨t,fun w t=>kG I.toOk X u t⟩) R hL ?_
       refine M _ (⟨i,r,y⟩::L) m _ w D (hx.trans (W.trans B)) hl (fun p d=>?_) E;rcases zA.1 d with rfl|d
       ·exact Z
       ·exact hL p d
      ·exact g.elim
     ·exact s g
    ·obtain⟨m,D,B,E⟩:=iQ g H;exact jU (N:=[]) (T:=fun _=>True) A G f e (fun c a w=>q c a w undef) (fun p d=>by cases d) (fun _ _=>trivial) (.inr ⟨t,rfl⟩) (fun p d=>by cases d) hL
      (M _ L m _ w D (hx.trans (W.trans B)) hl hL E)
   ·exact h.elim
  ·split at h
   ·rename_i g;exact⟨fun _=>U _ _ _ hf hx hl h,fun i J=>by rw[g]at J;cases J⟩
   ·rename_i i r g;refine⟨fun h0=>absurd (g▸h0) (by simp),fun j Y=>?_⟩;rw[g]at Y;obtain⟨o,A,O⟩:=pr h j Y;have l:∀p∈keep ops j L,p.ok w:=fun p d=>hL p (go p d);exact nR I A hf O fun a' w' ρ' x1 x2 x3 S=>⟨oN l S.1,M _ (keep ops j L) ρ' a' w' x1 (hx.trans x2) (hl.trans x3) (oN l S.1) S.2⟩
end
def sched(ops:Array Oper):Nat->Array Bool->Option (List (Nat×Bool))
 |0,listed=>bif (Region.ready .any ops listed).isEmpty then some []else none
 |k+1,listed=>match fl ops listed (Region.ready .any ops listed)with
  |some i=>(sched ops k (listed.setIfInBounds i true)).map ((i,true)::·)
  |none=>match Region.ready .any ops listed with
   |[]=>some []
   |[i]=>(sched ops k (listed.setIfInBounds i true)).map ((i,false)::·)
   |_::_::_=>none
def gU(C:Ctx)(n:Nat)(ops:Array Oper)(K:Env->Heap->Prop):List (Nat×Bool)->List ca->Env->Heap->Prop
 |[],_,ρ,h=>K ρ h
 |(i,true)::r,L,ρ,h=>match ops[i]? with
  |some o=>tN C n ops i o L (gU C n ops K r) ρ h
  |none=>False
 |(i,false)::r,L,ρ,h=>match ops[i]? with
  |some o=>mF C n ops o (fun ρ h=>(flat (keep ops i L)).ok h/\gU C n ops K r (keep ops i L) ρ h) ρ h
  |none=>False
theorem pv{C:Ctx}{n:Nat}{ops:Array Oper}{K:Env->Heap->Prop}:∀(k:Nat) (a:Array Bool) (l:List (Nat×Bool)),sched ops k a=some l->
  iR C n ops K k a=gU C n ops K l
 |0,a,l,hs=>by
  simp only[sched]at hs;cases hb:(Region.ready .any ops a).isEmpty with
  |false=>rw[hb]at hs;cases hs
  |true=>
   rw[hb]at hs;cases hs;funext L ρ h;simp only[iR,hb,gU,cond_true]
 |k+1,a,l,hs=>by
  have d:=fun i=>pv (C:=C) (n:=n) (ops:=ops) (K:=K) k (a.setIfInBounds i true);funext L ρ h;unfold sched at hs;unfold iR;cases hi:fl ops a (Region.ready .any ops a)with
  |some i=>
   rw[hi]at hs;obtain⟨b,c,rfl⟩:=zR.1 hs;simp only[gU,d i b c]
  |none=>
   rw[hi]at hs;generalize e:Region.ready .any ops a=rd at hs
   match rd,hs with
   |[],hs=>cases hs;simp only[gU]
   |[i],hs=>
    obtain⟨b,c,rfl⟩:=zR.1 hs;simp only[rz,gU,d i b c]
def oO(C:Ctx)(n:Nat)(ops:Array Oper)(a:Bool)(K:Env->Heap->Prop)(ρ:Env)(h:Heap):Prop:=
 match a with
 |false=>vB C n ops K ops.toList ρ h
 |true=>bif Region.noSelect ops then(match sched ops ops.size (we ops.size false)with
  |some l=>gU C n ops K l [] ρ h
  |none=>iR C n ops K ops.size (we ops.size false) [] ρ h)else False
theorem rA{C:Ctx}(f:C.Ok){n:Nat}{id:Nat}{ops:Array Oper}{b:Bool}{Q:Exit->Env->Heap->Prop}{ρ:Env}{a:Act}{w:World}(i:Fits n a ρ)
  (h:oO C n ops b (Q .normal) ρ w.heap):(Code.region id ops b).wp C.P (fun e a' w'=>(∀c,e≠.panic c)/\Out n Q ρ a w e a' w') a w:=by
 cases b with
 |false=>
  refine wp_region ?_;have:=pq f (Q:=fun e a' w'=>(∀c,e≠.panic c)/\Out n Q ρ a w e a' w') (K:=Q .normal) (ρ0:=ρ) (a0:=a) (w0:=w) (fun a' w' ρ' g x2 x3 d=>⟨fun c e=>(by cases e),ρ',g,x2,x3,d⟩)
   ops.toList 0 (fun j=>by simp) ρ a w i (Ext.refl _ _) (bm.refl _) h
  rw[List.range_eq_range'];simpa using this
 |true=>
  simp only[oO]at h;cases hb:Region.noSelect ops with
  |false=>rw[hb]at h;exact h.elim
  |true=>
   rw[hb]at h;have h:iR C n ops (Q .normal) ops.size (we ops.size false) [] ρ w.heap:=by
    simp only[cond_true]at h;split at h
    ·rename_i l o;rw[pv _ _ _ o];exact h
    ·exact h
   refine wp_region_any f.mixed (nS _ [] _ _ _ ?_);exact pu f hb (Q:=fun e a' w'=>(∀c,e≠.panic c)/\Out n Q ρ a w e a' w') (ρ0:=ρ) (a0:=a) (w0:=w) (fun a' w' ρ' g x2 x3 d=>⟨fun c e=>(by cases e),ρ',g,x2,x3,d⟩)
    (fun c a w k=>k.1 c rfl) _ _ [] ρ a {w with drawn:=w.drawn+1} i (Ext.refl _ _) ⟨rfl,rfl,rfl,Nat.le_succ _⟩ (fun p m=>by cases m) h
def aP{σ:Type}(rest:σ->Heap->Prop)(B:(σ->Heap->Prop)->Prop):Prop:=∃R:σ->Heap->Prop,(∀s h,R s h->rest s h)/\B R
def aM{σ:Type}(B:σ->(σ->Heap->Prop)->Heap->Prop)(s:σ)(h:Heap):Prop:=
 ∃(τ:Type) (V:τ->σ) (I:τ->Heap->Prop) (μ:τ->Nat) (t0:τ),s=V t0/\I t0 h/\∀t h,I t h->B (V t) (fun c b=>∃a,c=V a/\I a b/\μ a<μ t) h
theorem uy{P:Program}{c:Code}{Q:Exit->Act->World->Prop}{a:Act}{w:World}{σ:Type}(R:σ->Act->World->Prop)(μ:σ->World->Nat)(t:σ)(A:R t a w)
  (h:∀s a w,R s a w->c.wp P (Exit.then (fun a' w'=>∃m,R m a' w'/\μ m w'<μ s w) Q) a w):(Code.loop c).wp P Q a w:=by
 intro b k cs;have q:∀n s a w,μ s w=n->R s a w->
   ∃e a' w',Q e a' w'/\Arrives P (lone (b.at a (.code c::.inLoop c::k)) cs w) b k cs e a' w':=by
  intro n
  induction n using Nat.strongRecOn with
  |_ n ih=>
   intro s a w y u;obtain⟨e,j,i,f,d⟩:=h s a w u b (.inLoop c::k) cs;cases e with
   |normal=>
    obtain⟨m,r,p⟩:=f;obtain⟨v,B,z,o,g⟩:=ih (μ m i) (y▸p) m j i rfl r;exact⟨v,B,z,o,.of_steps (Steps.trans d (.one step_inLoop)) g⟩
   |exit id=>exact⟨_,j,i,f,.pass (x:=.inLoop c) rfl (fun _ _=>.inl (by simp)) d⟩
   |goto l=>exact⟨_,j,i,f,.pass (x:=.inLoop c) rfl (fun _ _=>.inl (by simp)) d⟩
   |ret=>exact⟨_,j,i,f,.pass (x:=.inLoop c) rfl (fun _ _=>.inl (by simp)) d⟩
   |panic ch=>exact⟨_,j,i,f,.pass (x:=.inLoop c) rfl (fun _ _=>.inl (by simp)) d⟩
   |outgrown=>exact⟨_,j,i,f,.pass (x:=.inLoop c) rfl (fun _ _=>.inl (by simp)) d⟩
 obtain⟨e,a',w',f,d⟩:=q _ t a w rfl A;exact⟨e,a',w',f,.of_steps (.one step_loop) d⟩
inductive ak where
 |n
 |two (a b:ak)
 |inn (a:ak)
 |loop (σ:bu) (κ:aZ) (a:ak)
 |join (σ:bu) (κ:aZ) (a:ak)
 |scope (l:Nat) (σ:bu) (κ:aZ) (pre rest:List ak) (fwd:List (Nat×List ak))
 |fwd (a:ak) (fwd:List (Nat×List ak))
def ak.fst:ak->ak
 | .two a _=>a
 |_=>.n
def ak.snd:ak->ak
 | .two _ b=>b
 |_=>.n
def ak.sub:ak->ak
 | .inn a=>a
 |_=>.n
abbrev QT:=Exit->Env->Heap->Prop
def nT(σ:bu)(κ:aZ)(ρ:Env)(K:σ.den->Heap->Prop)(Q:QT):QT
 | .normal,ρ',h=>bif within σ κ ρ' (ρ'.length-ρ.length)then(match σ.read ρ' with|some s=>K s h|none=>False)else False
 |e,ρ',h=>Q e ρ' h
def mG(next:Env->Heap->Prop)(Q:QT):QT
 | .normal,ρ,h=>next ρ h
 |e,ρ,h=>Q e ρ h
def uz(id:Nat)(Q:QT):QT
 | .exit i,ρ,h=>bif q7 i id then Q .normal ρ h else Q (.exit i) ρ h
 |e,ρ,h=>Q e ρ h
abbrev Rec:=Code->ak->QT->Env->Heap->Prop
def jJ(rec:Rec):List Code->List ak->QT->Env->Heap->Prop
 |[],_,Q,ρ,h=>Q .normal ρ h
 |c::cs,[],Q,ρ,h=>rec c .n (mG (jJ rec cs [] Q) Q) ρ h
 |c::cs,x::xs,Q,ρ,h=>rec c x (mG (jJ rec cs xs Q) Q) ρ h
def chain:Code->Nat->Option (List Code×List Code)
 | .seq a b,l=>match chain a l with
  |some (p,r)=>some (p,r++[b])
  |none=>match chain b l with
   |some (p,r)=>some (a::p,r)
   |none=>none
 | .label l',l=>bif q7 l' l then some ([],[])else none
 |_,_=>none
def wf(a:List (Nat×List ak))(l:Nat):Option (List ak):=
 match a with
 |[]=>none
 |p::r=>bif q7 p.1 l then some p.2 else wf r l
def mH(rec:Rec)(c:Code)(a:List (Nat×List ak))(Q:QT):Nat->QT
 |0=>fun _ _ _=>False
 |g+1=>fun e ρ h=>match e with
  | .goto l=>match wf a l with
   |some xs=>match chain c l with
    |some (_,r)=>jJ rec r xs (mH rec c a Q g) ρ h
    |none=>False
   |none=>Q (.goto l) ρ h
  |e=>Q e ρ h
def tO(l:Nat)(σ:bu)(κ:aZ)(ρ:Env)(K:σ.den->Heap->Prop)(Q:QT):QT
 | .goto l',ρ',h=>bif q7 l' l then(bif within σ κ ρ' (ρ'.length-ρ.length)then(match σ.read ρ' with|some s=>K s h|none=>False)else False)else Q (.goto l') ρ' h
 |e,ρ',h=>Q e ρ' h
def rB(c:Code)(Q:QT):QT
 | .goto l,ρ,h=>match findLabel c l with
  |none=>Q (.goto l) ρ h
  |some _=>False
 |e,ρ,h=>Q e ρ h
def rC(C:Ctx)(n:Nat)(rec:Rec)(c:Code)(d:ak)(Q:QT)(ρ:Env)(h:Heap):Prop:=
 match d with
 | .join σ κ a=>aP (fun s h=>Q .normal (σ.bK s (κ.over ρ)) h) (fun K=>rec c a (nT σ κ ρ K Q) ρ h)
 |d=>match c with
  | .skip=>Q .normal ρ h
  | .label _=>Q .normal ρ h
  | .region _ ops draw=>oO C n ops draw (Q .normal) ρ h
  | .seq a b=>rec a d.fst (mG (rec b d.snd Q) Q) ρ h
  | .cond x a b=>match ρ.eval x with
   |some (.bool t)=>Br t (rec a d.fst Q ρ h) (rec b d.snd Q ρ h)
   |_=>False
  | .block id c=>rec c d.sub (uz id Q) ρ h
  | .exit id=>Q (.exit id) ρ h
  | .goto l=>Q (.goto l) ρ h
  | .ret=>Q .ret ρ h
  | .loop c=>match d with
   | .loop σ κ a=>match σ.read ρ with
    |some s0=>aM (fun s K h=>rec c a (nT σ κ (σ.bK s (κ.over ρ)) K Q) (σ.bK s (κ.over ρ)) h) s0 h
    |none=>False
   |_=>False
  | .scope c=>match d with
   | .scope l σ κ pre rest fwd=>match chain c l with
    |some (p,r)=>jJ rec p pre (mG (fun ρ' e=>match σ.read ρ' with
     |some s0=>aM (fun s K h=>jJ rec r rest (mH rec c fwd (tO l σ κ (σ.bK s (κ.over ρ')) K (rB c Q)) 4) (σ.bK s (κ.over ρ')) h) s0 e
     |none=>False) (rB c Q)) ρ h
    |none=>False
   | .fwd a fwd=>rec c a (mH rec c fwd (rB c Q) 4) ρ h
   |_=>False
  |_=>False
def vc(C:Ctx)(n:Nat):Nat->Rec
 |0=>fun _ _ _ _ _=>False
 |f+1=>rC C n (vc C n f)
def mI(C:Ctx)(n:Nat)(rec:Rec):Prop:=∀(c:Code) (b:ak) (Q:QT) (ρ:Env) (a:Act) (w:World),Fits n a ρ->rec c b Q ρ w.heap->c.wp C.P (Out n Q ρ a w) a w
section
variable {C:Ctx} {n:Nat} {Q:QT} {ρ ρ':Env} {a a':Act} {w w':World}
theorem Out.base{e:Exit}{c:Act}{b:World}(k:Ext ρ ρ' a a')(f:bm w w')(h:Out n Q ρ' a' w' e c b):Out n Q ρ a w e c b:=by
 obtain⟨d,i,g,j,l⟩:=h;exact⟨d,i,k.trans g,f.trans j,l⟩
theorem Out.mono{f:QT}{e:Exit}{c:Act}{b:World}(l:∀ρ h,Q e ρ h->f e ρ h)(h:Out n Q ρ a w e c b):Out n f ρ a w e c b:=by
 obtain⟨d,i,g,j,k⟩:=h;exact⟨d,i,g,j,l _ _ k⟩
theorem Out.then{next:Env->Heap->Prop}{N:Act->World->Prop}{g:Exit->Act->World->Prop}{e:Exit}{c:Act}{b:World}(h:Out n (mG next Q) ρ a w e c b)
  (l:∀ρ',Fits n c ρ'->Ext ρ ρ' a c->bm w b->next ρ' b.heap->N c b) (m:Out n Q ρ a w e c b->e≠.normal->g e c b):Exit.then N g e c b:=by
 obtain⟨d,i,f,j,k⟩:=h;cases e<;>first|exact l d i f j k|exact m ⟨d,i,f,j,k⟩ (by simp)
def eS(P:Program):List Code->(Exit->Act->World->Prop)->Act->World->Prop
 |[],Q,a,w=>Q .normal a w
 |c::cs,Q,a,w=>c.wp P (Exit.then (eS P cs Q) Q) a w
theorem di{P:Program}{Q d:Exit->Act->World->Prop}(b:∀e a w,Q e a w->d e a w):∀(l:List Code) (a:Act) (w:World),eS P l Q a w->eS P l d a w
 |[],_,_,h=>b _ _ _ h
 |c::cs,a,w,h=>wp_mono h fun e a w h=>by
  cases e<;>first|exact di b cs a w h|exact b _ _ _ h
theorem fE{rec:Rec}(d:mI C n rec):∀(l:List Code) (i:List ak) (Q:QT) (ρ:Env) (a:Act) (w:World),Fits n a ρ->jJ rec l i Q ρ w.heap->eS C.P l (Out n Q ρ a w) a w
 |[],_,Q,ρ,a,w,hf,h=>⟨ρ,hf,Ext.refl _ _,bm.refl _,h⟩
 |c::cs,[],Q,ρ,a,w,hf,h=>by
  refine wp_mono (d c .n _ ρ a w hf h) fun e a' w' b=>b.then (fun ρ' g x2 x3 f=>?_) (fun b _=>b);exact di (fun e a w h=>h.base x2 x3) cs a' w' (fE d cs [] Q ρ' a' w' g f)
 |c::cs,x::i,Q,ρ,a,w,hf,h=>by
  refine wp_mono (d c x _ ρ a w hf h) fun e a' w' b=>b.then (fun ρ' g x2 x3 f=>?_) (fun b _=>b);exact di (fun e a w h=>h.base x2 x3) cs a' w' (fE d cs i Q ρ' a' w' g f)
end
theorem jV{P:Program}{b:Code}{Q:Exit->Act->World->Prop}:∀(l:List Code) (a:Act) (w:World),eS P (l++[b]) Q a w->eS P l (Exit.then (b.wp P Q) Q) a w
 |[],a,w,h=>by
  refine wp_mono h fun e a w h=>?_;cases e<;>exact h
 |c::cs,a,w,h=>wp_mono h fun e a w h=>by
  cases e<;>first|exact jV cs a w h|exact h
theorem gL:∀{c:Code} {l:Nat} {p r:List Code},chain c l=some (p,r)->∃k,findLabel c l=some k/\
  (∀{P:Program} {Q:Exit->Act->World->Prop} {a:Act} {w:World},eS P r Q a w->k.wp P Q a w)/\
  (∀{P:Program} {Q:Exit->Act->World->Prop} {a:Act} {w:World},eS P p (Exit.then (eS P r Q) Q) a w->c.wp P Q a w)
 | .seq x y,l,p,r,h=>by
  simp only[chain]at h;split at h
  ·rename_i q n d;cases h;obtain⟨k,i,m,j⟩:=gL d;refine⟨.seq k y,by simp[findLabel,i],fun{P Q a w} h=>wp_seq (m (jV n a w h)),fun{P Q a w} h=>wp_seq (j ?_)⟩;refine di (fun e a w g=>?_) p a w h;cases e<;>first|exact jV n a w g|exact g
  ·rename_i d;split at h
   ·rename_i q n o;cases h;obtain⟨k,i,m,j⟩:=gL o;have s:findLabel x l=none:=by
     clear i m j o
     induction x with
     |seq a b iha ihb=>
      simp only[chain]at d;split at d
      ·cases d
      ·rename_i t;split at d
       ·cases d
       ·rename_i f;simp[findLabel,iha t,ihb f]
     |label l'=>
      simp only[chain]at d;cases f:q7 l' l with
      |true=>rw[f]at d;cases d
      |false=>
       have:¬l'=l:=fun e=>by subst e;simp at f
       simp[findLabel,this]
     |_=>rfl
    refine⟨k,by simp[findLabel,s,i],m,fun{P Q a w} h=>wp_seq (wp_mono h fun e a w g=>?_)⟩;cases e<;>first|exact j g|exact g
   ·cases h
 | .label l',l,p,r,h=>by
  simp only[chain]at h;cases f:q7 l' l with
  |false=>rw[f]at h;cases h
  |true=>
   rw[f]at h;cases h;have:=qD f;subst this;exact⟨.skip,by simp[findLabel],fun h=>wp_skip h,fun h=>wp_label h⟩
 | .skip,_,_,_,h=>by cases h
 | .region ..,_,_,_,h=>by cases h
 | .cond ..,_,_,_,h=>by cases h
 | .block ..,_,_,_,h=>by cases h
 | .loop _,_,_,_,h=>by cases h
 | .rangeFunc ..,_,_,_,h=>by cases h
 | .exit _,_,_,_,h=>by cases h
 | .scope _,_,_,_,h=>by cases h
 | .goto _,_,_,_,h=>by cases h
 | .ret,_,_,_,h=>by cases h
 | .refuse _,_,_,_,h=>by cases h
section
variable {P:Program} {c:Code} {Q:Exit->Act->World->Prop} {b:Frame} {k:List Item} {cs:List Frame}
def Reach(P:Program)(c:Code)(Q:Exit->Act->World->Prop)(b:Frame)(k:List Item)(d:List Frame)(a:Act)(w:World)(r:Code):Prop:=
 ∃e a' w',Q e a' w'/\Arrives P (lone (b.at a (.code r::.inScope c::k)) d w) b k d e a' w'
def Good(P:Program)(c:Code)(Q:Exit->Act->World->Prop)(b:Frame)(k:List Item)(d:List Frame):Exit->Act->World->Prop
 | .goto l,a,w=>match findLabel c l with
  |some r=>Reach P c Q b k d a w r
  |none=>Q (.goto l) a w
 |e,a,w=>Q e a w
theorem rD{m:Machine}{e:Exit}{a:Act}{w:World}(f:Good P c Q b k cs e a w)(d:Arrives P m b (.inScope c::k) cs e a w):
  ∃e a' w',Q e a' w'/\Arrives P m b k cs e a' w':=by
 cases e with
 |normal=>exact⟨.normal,a,w,f,Steps.trans d (.one step_inScope)⟩
 |exit id=>exact⟨.exit id,a,w,f,fun j i=>d j (by simp[exitTo,i])⟩
 |goto l=>
  simp only[Good]at f;cases hf:findLabel c l with
  |none=>
   rw[hf]at f;exact⟨.goto l,a,w,f,fun j i=>d j (by simp[gotoIn,hf,i])⟩
  |some r=>
   rw[hf]at f;obtain⟨o,n,p,h,g⟩:=f;exact⟨o,n,p,h,.of_steps (d _ (by simp[gotoIn,hf])) g⟩
 |ret=>exact⟨_,a,w,f,d⟩
 |panic ch=>exact⟨_,a,w,f,d⟩
 |outgrown=>exact⟨_,a,w,f,d⟩
theorem rE{r:Code}{a:Act}{w:World}(h:r.wp P (Good P c Q b k cs) a w):Reach P c Q b k cs a w r:=by
 obtain⟨e,a',w',f,d⟩:=h b (.inScope c::k) cs;exact rD f d
theorem lk{a:Act}{w:World}(h:∀b k cs,c.wp P (Good P c Q b k cs) a w):(Code.scope c).wp P Q a w:=by
 intro b k cs;obtain⟨e,m,l,j,d⟩:=h b k cs b (.inScope c::k) cs;obtain⟨f,a',w',i,g⟩:=rD j d;exact⟨f,a',w',i,.of_steps (.one step_scope) g⟩
end
section
variable {C:Ctx} {n:Nat} {rec:Rec}
theorem kJ(u:mI C n rec){c:Code}{m:List (Nat×List ak)}{s:QT}{t:Exit->Act->World->Prop}{b:Frame}{k:List Item}{q:List Frame}{ρ:Env}{a0:Act}{w0:World}
  (j:∀e f d i,Fits n d f->Ext ρ f a0 d->bm w0 i->s e f i.heap->Good C.P c t b k q e d i):
  ∀(g:Nat) (e:Exit) (f:Env) (d:Act) (i:World),Fits n d f->Ext ρ f a0 d->bm w0 i->mH rec c m s g e f i.heap->Good C.P c t b k q e d i
 |0,_,_,_,_,_,_,_,h=>h.elim
 |g+1,e,f,d,i,hf,hx,hl,h=>by
  cases e with
  |goto l=>
   simp only[mH]at h;split at h
   ·split at h
    ·rename_i p r o;obtain⟨F,B,E,_⟩:=gL o;simp only[Good,B];refine rE (E ?_);refine di (fun e a w x=>?_) _ _ _ (fE u _ _ _ f d i hf h);obtain⟨v,z,y,A,D⟩:=x;exact kJ u j g e v a w z (hx.trans y) (hl.trans A) D
    ·exact h.elim
   ·exact j _ _ _ _ hf hx hl h
  |normal=>exact j _ _ _ _ hf hx hl h
  |exit id=>exact j _ _ _ _ hf hx hl h
  |ret=>exact j _ _ _ _ hf hx hl h
  |panic ch=>exact j _ _ _ _ hf hx hl h
  |outgrown=>exact j _ _ _ _ hf hx hl h
theorem fq{c:Code}{Q:QT}{b:Frame}{k:List Item}{m:List Frame}{ρ:Env}{a0:Act}{w0:World}{e:Exit}{a:Env}{j:Act}{i:World}
  (d:Fits n j a) (f:Ext ρ a a0 j) (g:bm w0 i) (h:rB c Q e a i.heap):Good C.P c (Out n Q ρ a0 w0) b k m e j i:=by
 cases e with
 |goto l=>
  simp only[rB]at h;simp only[Good];split at h
  ·rename_i o;simp only[o];exact⟨a,d,f,g,h⟩
  ·exact h.elim
 |normal=>exact⟨a,d,f,g,h⟩
 |exit id=>exact⟨a,d,f,g,h⟩
 |ret=>exact⟨a,d,f,g,h⟩
 |panic ch=>exact⟨a,d,f,g,h⟩
 |outgrown=>exact⟨a,d,f,g,h⟩
theorem px{a:Act}{σ:bu}{κ:aZ}{ρ:Env}{s:σ.den}(b:Fits n a ρ)(c:σ.read ρ=some s):Fits n a (σ.bK s (κ.over ρ))/\Ext ρ (σ.bK s (κ.over ρ)) a a:=
 b.gm b (fun _ _ _=>rfl) c
theorem sG(D:mI C n rec){c:Code}{l:Nat}{σ:bu}{κ:aZ}{pre rest:List ak}{F:List (Nat×List ak)}{p r:List Code}(hc:chain c l=some (p,r)){Q:QT}{ρ:Env}{a:Act}{w:World}(hf:Fits n a ρ)
  (h:jJ rec p pre (mG (fun ρ' Z=>match σ.read ρ' with
     |some R=>aM (fun s K h=>jJ rec r rest (mH rec c F (tO l σ κ (σ.bK s (κ.over ρ')) K (rB c Q)) 4) (σ.bK s (κ.over ρ')) h) R Z
     |none=>False) (rB c Q)) ρ w.heap):(Code.scope c).wp C.P (Out n Q ρ a w) a w:=by
 refine lk fun b k cs=>?_;obtain⟨kk,h1,h2,h3⟩:=gL hc;refine h3 (di (fun e a' w' x=>?_) _ _ _ (fE D _ _ _ ρ a w hf h));refine x.then (fun ρ' O x2 x3 L=>?_) (fun x _=>?_)
 ·split at L
  ·rename_i R M;obtain⟨τ,V,I,μ,t0,X,hI,i⟩:=L;subst X;have g:=px (κ:=κ) O M;have y:∀(m:Nat) (t:τ) (v:Act) (o:World),μ t=m->I t o.heap->Fits n v (σ.bK (V t) (κ.over ρ'))->Ext ρ' (σ.bK (V t) (κ.over ρ')) a' v->bm w' o->
     eS C.P r (Good C.P c (Out n Q ρ a w) b k cs) v o:=by
    intro m
    induction m using Nat.strongRecOn with
    |_ m ih=>
     intro t v o hm H G f d;refine di (fun e a2 w2 x=>?_) _ _ _ (fE D _ _ _ _ v o G (i t o.heap H));obtain⟨ρ2,z,B,A,J⟩:=x;refine kJ D (ρ:=σ.bK (V t) (κ.over ρ')) (a0:=v) (w0:=o) (fun e N a3 W u j z3 z4=>?_) 4 e ρ2 a2 w2 z B A J;cases e with
     |goto l'=>
      simp only[tO]at z4;cases hb:q7 l' l with
      |false=>
       rw[hb]at z4;exact fq u (x2.trans (f.trans j)) (x3.trans (d.trans z3)) z4
      |true=>
       rw[hb]at z4;have:=qD hb;subst this;simp only[Good,h1];cases hw:within σ κ N (N.length-(σ.bK (V t) (κ.over ρ')).length)with
       |false=>rw[hw]at z4;exact z4.elim
       |true=>
        rw[hw]at z4;simp only[cond_true]at z4;split at z4
        ·rename_i s' E;have q:∀t,σ.has t=false->(κ.over []).bC t=false->a3.tmps[t]?=a'.tmps[t]?:=fun t S T=>by
          rw[j.within hw t S T,f.gm t S T]
         obtain⟨u1,u2⟩:=O.gm (κ:=κ) u q E;obtain⟨t',U,i1,Y⟩:=z4;subst U;exact rE (h2 (ih _ (by rw[<-hm];exact Y) t' a3 W rfl i1 u1 u2 (d.trans z3)))
        ·exact z4.elim
     |normal=>exact fq u (x2.trans (f.trans j)) (x3.trans (d.trans z3)) z4
     |exit id=>exact fq u (x2.trans (f.trans j)) (x3.trans (d.trans z3)) z4
     |ret=>exact fq u (x2.trans (f.trans j)) (x3.trans (d.trans z3)) z4
     |panic ch=>exact fq u (x2.trans (f.trans j)) (x3.trans (d.trans z3)) z4
     |outgrown=>exact fq u (x2.trans (f.trans j)) (x3.trans (d.trans z3)) z4
   exact y _ t0 a' w' rfl hI g.1 g.2 (bm.refl _)
  ·exact L.elim
 ·obtain⟨ρ1,z,B,A,J⟩:=x;exact fq z B A J
theorem xf(hC:C.Ok)(o:mI C n rec):mI C n (rC C n rec):=by
 intro c S Q ρ a w g h;have u:∀{σ:bu} {κ:aZ} {K:σ.den->Heap->Prop} {e:Exit} {a':Act} {w':World},Out n (nT σ κ ρ K Q) ρ a w e a' w'->(∀s h,K s h->Q .normal (σ.bK s (κ.over ρ)) h)->Out n Q ρ a w e a' w':=by
  intro σ κ K e a' w' j X;obtain⟨ρ',f,x2,x3,d⟩:=j;cases e with
  |normal=>
   simp only[nT]at d;cases hw:within σ κ ρ' (ρ'.length-ρ.length)with
   |false=>rw[hw]at d;exact d.elim
   |true=>
    rw[hw]at d;simp only[cond_true]at d;split at d
    ·rename_i s T;obtain⟨G,E⟩:=g.gm (κ:=κ) f (x2.within hw) T;exact⟨_,G,E,x3,X _ _ d⟩
    ·exact d.elim
  |exit id=>exact⟨ρ',f,x2,x3,d⟩
  |goto l=>exact⟨ρ',f,x2,x3,d⟩
  |ret=>exact⟨ρ',f,x2,x3,d⟩
  |panic ch=>exact⟨ρ',f,x2,x3,d⟩
  |outgrown=>exact⟨ρ',f,x2,x3,d⟩
 unfold rC at h;split at h
 ·rename_i σ κ x;obtain⟨K,Z,U⟩:=h;exact wp_mono (o c x _ ρ a w g U) fun e a' w' j=>u j Z
 ·split at h
  ·exact wp_skip ⟨ρ,g,Ext.refl _ _,bm.refl _,h⟩
  ·exact wp_label ⟨ρ,g,Ext.refl _ _,bm.refl _,h⟩
  ·exact wp_mono (rA hC g h) fun e a' w' j=>j.2
  ·rename_i x y;refine wp_seq (wp_mono (o x _ _ ρ a w g h) fun e a' w' j=>j.then (fun ρ' f x2 x3 d=>?_) (fun j _=>j));exact wp_mono (o y _ _ ρ' a' w' f d) fun e ad R j=>j.base x2 x3
  ·rename_i x y z;split at h
   ·rename_i t ht;refine wp_cond_split (g.eval ht) (fun e=>?_) (fun e=>?_)
    ·subst e;exact o y _ _ ρ a w g h
    ·subst e;exact o z _ _ ρ a w g h
   ·exact h.elim
  ·rename_i id x;refine wp_block (wp_mono (o x _ _ ρ a w g h) fun e a' w' j=>?_);obtain⟨ρ',f,x2,x3,d⟩:=j;cases e with
   |exit i=>
    simp only[Exit.inBlock];simp only[uz]at d;cases hb:q7 i id with
    |true=>
     rw[hb]at d;rw[if_pos (qD hb)];exact⟨ρ',f,x2,x3,d⟩
    |false=>
     rw[hb]at d;rw[if_neg (fun e=>by subst e;simp at hb)];exact⟨ρ',f,x2,x3,d⟩
   |normal=>exact⟨ρ',f,x2,x3,d⟩
   |goto l=>exact⟨ρ',f,x2,x3,d⟩
   |ret=>exact⟨ρ',f,x2,x3,d⟩
   |panic ch=>exact⟨ρ',f,x2,x3,d⟩
   |outgrown=>exact⟨ρ',f,x2,x3,d⟩
  ·exact wp_exit ⟨ρ,g,Ext.refl _ _,bm.refl _,h⟩
  ·exact wp_goto ⟨ρ,g,Ext.refl _ _,bm.refl _,h⟩
  ·exact wp_ret ⟨ρ,g,Ext.refl _ _,bm.refl _,h⟩
  ·rename_i x;split at h
   ·rename_i σ κ y _;split at h
    ·rename_i s0 H;obtain⟨τ,V,I,μ,t0,e0,O,q⟩:=h;subst e0;have m:=px (κ:=κ) g H;refine uy (σ:=τ) (fun t B D=>Fits n B (σ.bK (V t) (κ.over ρ))/\Ext ρ (σ.bK (V t) (κ.over ρ)) a B/\bm w D/\I t D.heap) (fun t _=>μ t) t0 ⟨m.1,m.2,bm.refl _,O⟩ ?_;rintro t B D ⟨J,v,z3,z4⟩;refine wp_mono (o x y _ _ B D J (q t _ z4)) fun e a2 w2 j=>?_;obtain⟨ρ',f,x2,x3,d⟩:=j;cases e with
     |normal=>
      simp only[nT]at d;cases hw:within σ κ ρ' (ρ'.length-(σ.bK (V t) (κ.over ρ)).length)with
      |false=>rw[hw]at d;exact d.elim
      |true=>
       rw[hw]at d;simp only[cond_true]at d;split at d
       ·rename_i s' F;have A:∀t,σ.has t=false->(κ.over []).bC t=false->a2.tmps[t]?=a.tmps[t]?:=fun t M L=>by
         rw[x2.within hw t M L,v.gm t M L]
        obtain⟨G,E⟩:=g.gm (κ:=κ) f A F;obtain⟨W,P,N,i2⟩:=d;subst P;exact⟨W,⟨G,E,z3.trans x3,N⟩,i2⟩
       ·exact d.elim
     |exit id=>exact⟨ρ',f,v.trans x2,z3.trans x3,d⟩
     |goto l=>exact⟨ρ',f,v.trans x2,z3.trans x3,d⟩
     |ret=>exact⟨ρ',f,v.trans x2,z3.trans x3,d⟩
     |panic ch=>exact⟨ρ',f,v.trans x2,z3.trans x3,d⟩
     |outgrown=>exact⟨ρ',f,v.trans x2,z3.trans x3,d⟩
    ·exact h.elim
   ·exact h.elim
  ·rename_i x;split at h
   ·split at h
    ·rename_i p r Y;exact sG o Y g h
    ·exact h.elim
   ·refine lk fun b k cs=>wp_mono (o x _ _ ρ a w g h) fun e a' w' j=>?_;obtain⟨ρ',f,x2,x3,d⟩:=j;exact kJ o (ρ:=ρ) (a0:=a) (w0:=w) (fun e ρ3 a3 w3 J v z3 z4=>fq J v z3 z4) 4 e ρ' a' w' f x2 x3 d
   ·exact h.elim
  ·exact h.elim
theorem rF(a:C.Ok):∀f,mI C n (vc C n f)
 |0=>fun _ _ _ _ _ _ _ h=>h.elim
 |f+1=>xf a (rF a f)
end
def lV(C:Ctx)(ρ:Env):List ResultVar->(List Value->Prop)->Heap->Prop
 |[],K,_=>K []
 | .tmp t::r,K,h=>match ρ.get t with
  |some v=>lV C ρ r (fun vs=>K (v::vs)) h
  |none=>False
 | .cell a t::r,K,h=>match iP C.T (.load t (.tmp a)) ρ.eval with
  |some q=>∃y:q.ty.den,q.holds h y/\lV C ρ r (fun vs=>K (q.ty.enc y::vs)) h
  |none=>False
def lW:List Value->Value
 |[v]=>v
 |vs=>.tuple vs.toArray
def yh(C:Ctx)(rs:List ResultVar)(R:Value->Heap->Prop):QT
 | .normal,ρ,h=>lV C ρ rs (fun vs=>R (lW vs) h) h
 | .ret,ρ,h=>lV C ρ rs (fun vs=>R (lW vs) h) h
 |_,_,_=>False
def lX:Nat->List Value->Env
 |_,[]=>[]
 |n,v::r=>.val n v::lX (n+1) r
def xx(C:Ctx)(d:Func)(a:Nat)(b:ak)(args:List Value)(R:Value->Heap->Prop)(h:Heap):Prop:=
 match d.body with
 |some c=>vc C d.ntmps a c b (yh C d.results.toList R) (lX 0 args) h
 |none=>False
theorem nU:∀{args:List Value} {n t:Nat} {v:Value},(lX n args).get t=some v->n<=t/\args[t-n]?=some v
 |[],_,_,_,h=>by cases h
 |u::r,n,t,v,h=>by
  simp only[lX,Env.get]at h;cases hb:q7 n t with
  |true=>
   rw[hb]at h;have:=qD hb;subst this;simpa using h
  |false=>
   rw[hb]at h;obtain⟨c,a⟩:=nU (args:=r) h;refine⟨by omega,?_⟩;obtain⟨k,b⟩:∃k,t-n=k+1:=⟨t-(n+1),by omega⟩
   rw[b,qe];have:t-(n+1)=k:=by omega
   rw[<-this];exact a
theorem vC{C:kp}(g:C.Ok){d:Operand->Option Value}{e:Operand->Value}(f:∀x v,d x=some v->e x=v){t:TypeId}{x:Operand}{q:jI}
  (i:iP C.T (.load t x) d=some q) {y:q.ty.den} {w:World} (h:q.holds w.heap y):(wD t (e x)).run C.P w=.ok (q.ty.enc y) w:=by
 have c:(do pure (Next.value (<-wD t (e x))):Sem Next).run C.P w=.ok (.value (q.ty.enc y)) w:=kG g f (o:=⟨none,.load t x,0, "",#[],none⟩) i h;rw[Sem.run_bind]at c;cases hr:(wD t (e x)).run C.P w with
 |halt a b=>rw[hr]at c;cases c
 |ok v w'=>
  rw[hr]at c;simp only[Result.andThen_ok]at c;cases c;rfl
theorem lY{C:Ctx}(j:C.Ok){n:Nat}{a:Act}{ρ:Env}(d:Fits n a ρ):∀{rs:List ResultVar} {K:List Value->Prop} {w:World},lV C ρ rs K w.heap->
  ∃vs,(rs.mapM (fun| .tmp t=>pure (a.tmps.getD t undef)| .cell x t=>(do loadVar t (<-asAddr (a.tmps.getD x undef)):Sem Value)):Sem (List Value)).run C.P w=.ok vs w/\K vs
 |[],K,w,h=>⟨[],rfl,h⟩
 | .tmp t::r,K,w,h=>by
  simp only[lV]at h;split at h
  ·rename_i v o;obtain⟨vs,g,l⟩:=lY j d h;refine⟨v::vs,?_,l⟩;have k:a.tmps.getD t undef=v:=by simp[Array.getD_eq_getD_getElem?,d.get t v o]
   rw[List.mapM_cons,Sem.run_bind,Sem.run_pure,Result.andThen_ok,Sem.run_bind,g,k];rfl
  ·exact h.elim
 | .cell x t::r,K,w,h=>by
  simp only[lV]at h;split at h
  ·rename_i q f;obtain⟨y,s,h⟩:=h;obtain⟨vs,g,l⟩:=lY j d h;refine⟨q.ty.enc y::vs,?_,l⟩;have m:=vC j.toOk (e:=a.eval) (fun x v h=>d.eval h) f s;have p:∃c,a.eval (.tmp x)=.pointer (some c):=by
    unfold iP at f;simp only at f;split at f
    ·rename_i c b;exact⟨c,d.eval b⟩
    ·cases f
   obtain⟨c,b⟩:=p;have k:a.tmps.getD x undef=.pointer (some c):=b;rw[b]at m;rw[List.mapM_cons,Sem.run_bind];simp only[k];have i:(do loadVar t (<-asAddr (.pointer (some c))):Sem Value).run C.P w=.ok (q.ty.enc y) w:=m;rw[i,Result.andThen_ok,Sem.run_bind,g];rfl
  ·exact h.elim
theorem xg{C:Ctx}(n:C.Ok){f:FuncId}{d:Func}(p:C.P.funcs[f]?=some d){a:Nat}{g:ak}{args:List Value}(z:args.length<=d.ntmps){R:Value->Heap->Prop}{h:Heap}
  (j:xx C d a g args R h):ac C.P f args.toArray h R:=by
 rintro w rfl;unfold xx at j;split at j
 ·rename_i c u;refine calls_of_wp p u ?_;have b:Fits d.ntmps {tmps:=args.toArray++we (d.ntmps-args.toArray.size) undef,defers:=[]} (lX 0 args):=by
   refine⟨by simp;omega,rfl,fun t v y=>?_⟩;obtain⟨_,i⟩:=nU y;rw[Nat.sub_zero]at i;have k:t<args.length:=(qn.1 i).1;simp only[Array.getElem?_append,zq,k,if_true,q6];exact i
  refine wp_mono (rF n a c g _ _ _ w b j) fun e a' w' q=>?_;obtain⟨ρ',o,x2,x3,l⟩:=q;have fin:lV C ρ' d.results.toList (fun vs=>R (lW vs) w'.heap) w'.heap->a'.defers=[]/\∃v,(results d a'.tmps).run C.P w'=.ok v w'/\(∃m,Ending.returned v=.returned m/\bm w w'/\R m w'.heap):=fun x=>by
   obtain⟨vs,s,i⟩:=lY n o x;refine⟨o.defers,lW vs,?_,lW vs,rfl,x3,i⟩;unfold results;rw[z6,map_eq_pure_bind,bind_assoc,Sem.run_bind];refine(congrArg (fun r=>Result.andThen r _) s).trans ?_;simp only[Result.andThen_ok,pure_bind,Sem.run_pure];cases vs with
   |nil=>rfl
   |cons v r=>cases r<;>rfl
  cases e<;>first|exact fin l|exact l.elim
 ·exact j.elim
theorem av{C:Ctx}(i:C.Ok){f:FuncId}{b:Func}(d:C.P.funcs[f]?=some b)(a:ak){args:List Value}{R:Value->Heap->Prop}{h:Heap}{Q:Prop}(g:Q)
  (c:wH args.length b.ntmps=true:=by kernel_rfl) (e:xx C b 300 a args R h=Q:=by kernel_rfl):ac C.P f args.toArray h R:=xg i d (zk c) (cast e.symm g)
def ar(P:Program)(s:Sem Value)(r:Rt)(h:Heap)(K:r.den->Heap->Prop):Prop:=ab P s h fun v a=>∃x:r.den,v=r.enc x/\K x a
def aJ(P:Program)(s:Sem Value)(h:Heap)(K:Addr->Heap->Prop):Prop:=ab P s h fun v b=>∃a:Addr,v=.pointer (some a)/\K a b
def ag(P:Program)(f:FuncId)(args:Array Value)(r:Rt)(h:Heap)(K:r.den->Heap->Prop):Prop:=ac P f args h fun v a=>∃x:r.den,v=r.enc x/\K x a
def nA(C:Ctx)(g:FuncId)(args:List Value)(r:Rt)(h:Heap)(K:r.den->Heap->Prop):Prop:=
 match C.fns[g]? with
 |some true=>ag C.P g args.toArray r h K
 |_=>False
theorem lZ{C:Ctx}{g:FuncId}{args:List Value}{r:Rt}{h:Heap}{K:r.den->Heap->Prop}(a:C.fns[g]?=some true)(b:ag C.P g args.toArray r h K):nA C g args r h K:=by
 unfold nA;rw[a];exact b
end Go.Vc
abbrev Go.Vc.ak.tn(a:Go.Vc.ak):Go.Vc.ak:=.two .n a
