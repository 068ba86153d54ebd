/- Lemmas for the proof of the law; no condition. -/
import Derived.Calls
import Derived.Orders
import Derived.Scope
import Derived.KernelRfl
import Derived.Laws.Sem
import Derived.OrdersHeld
set_option linter.unusedVariables false
set_option linter.unusedSimpArgs false
open Nat renaming beq -> wv, ble -> xE, blt -> xt, eq_of_beq_eq_true -> zy, le_of_ble_eq_true -> zK, le_refl -> qk
open Bool renaming and_eq_true -> qC, false_eq_true -> zg, or_eq_false_iff -> yL, or_eq_true -> yB, or_false -> vj
open List renaming cons_append -> zI, getElem?_map -> qP, length_cons -> zc, mem_append_right -> yn, mem_cons -> qQ, mem_cons_of_mem -> qt, mem_singleton -> qA
open BitVec renaming ofInt -> qH
open Go.IntKind renaming i64 -> xV
open Go.Instr renaming alloc -> y8, box -> xn, build -> xy, buildSlice -> zJ, fill -> wC, loadAt -> xF, makeSlice -> zF, mapUpdate -> xA, slice -> xO, sliceAt -> ye, sliceBound -> vB, sliceBounds -> we, storeAt -> qL
open Option renaming map_eq_some_iff -> y9, map_some -> zp, some -> wm
open Array renaming ext' -> vt, getElem?_toList -> vm, mapM_eq_mapM_toList -> vG, replicate -> vK, toList_map -> xm
open Go.Builtin renaming append_ -> zb, clear_ -> vV, copy_ -> yU, len_ -> xL
namespace Go.Qw
abbrev Heap:=Array Obj
def cellOf(h:Heap)(a:Addr):Option Value:=
 match h[a.block]? with
 |some (.cells c _ _)=>if a.spot.isSome then none else c[a.off]?
 |_=>none
def QO(h:Heap)(a:Addr):Bool:=
 match h[a.block]? with
 |some (.cells _ _ (lo,hi))=>lo<=a.off&&a.off<hi
 |_=>false
def QP(h:Heap)(a:Addr)(v:Value):Heap:=
 h.modify a.block λ
  | .cells c elem frozen=>.cells (if a.spot.isSome then c else c.setIfInBounds a.off v) elem frozen
  |o=>o
def shapeOf(h:Heap)(r:Nat):Option (TypeId×Nat):=match h[r]? with|some (.cells c elem _)=>some (elem,c.size)|_=>none
theorem WE(w:World)(r:Nat):w.shape? r=shapeOf w.heap r:=rfl
theorem Ih(w:World)(a:Addr):w.cell? a=cellOf w.heap a:=rfl
theorem ZT(w:World)(a:Addr):w.frozen? a=QO w.heap a:=rfl
theorem ZU(w:World)(a:Addr)(v:Value):(w.setCell a v).heap=QP w.heap a v:=rfl
structure dn (w w':World):Prop where
 os:w'.os=w.os
 tape:w'.tape=w.tape
 output:w'.output=w.output
 drawn:w.drawn<=w'.drawn
theorem dn.refl(w:World):dn w w:=⟨rfl,rfl,rfl,qk _⟩
theorem dn.trans{a b c:World}(h:dn a b)(k:dn b c):dn a c:=⟨k.os.trans h.os,k.tape.trans h.tape,k.output.trans h.output,Nat.le_trans h.drawn k.drawn⟩
def an(P:Program)(f:FuncId)(args:Array Value)(h:Heap)(R:Value->Heap->Prop):Prop:=
 ∀w,w.heap=h->Calls P f args w λe w'=>∃v,e=.returned v/\dn w w'/\R v w'.heap
theorem an.mono{P:Program}{f:FuncId}{args:Array Value}{h:Heap}{R a:Value->Heap->Prop}(b:an P f args h R)
  (d:∀v h',R v h'->a v h'):an P f args h a:=λw c=>
 (b w c).mono λ_ _ ⟨v,e,g,r⟩=>⟨v,e,g,d _ _ r⟩
theorem an.I0{P:Program}{f:FuncId}{args:Array Value}{h:Heap}{R:Value->Heap->Prop}{t:Heap}{c:Value}(e:an P f args h λv h'=>v=c/\h'=t) (k:R c t):an P f args h R:=e.mono (by rintro _ _ ⟨rfl,rfl⟩;exact k)
theorem an.I1{P:Program}{f:FuncId}{args:Array Value}{h:Heap}{R:Value->Heap->Prop}{c:Value}{Q:Heap->Prop}(e:an P f args h λv h'=>v=c/\Q h') (k:∀t,Q t->R c t):an P f args h R:=e.mono (by rintro _ t ⟨rfl,q⟩;exact k t q)
theorem an.I2{P:Program}{f:FuncId}{args:Array Value}{h:Heap}{R:Value->Heap->Prop}{α:Type}{g:α->Value}{Q:α->Heap->Prop}(e:an P f args h λv h'=>∃x,v=g x/\Q x h') (k:∀x t,Q x t->R (g x) t):an P f args h R:=e.mono (by rintro _ t ⟨x,rfl,q⟩;exact k x t q)
def av{α:Type}(P:Program)(s:Sem α)(h:Heap)(K:α->Heap->Prop):Prop:=
 ∀w,w.heap=h->∃v w',s.run P w=.ok v w'/\dn w w'/\K v w'.heap
variable {α β:Type} {P:Program} {h:Heap}
theorem av.pure'{K:α->Heap->Prop}{a:α}(b:K a h):av P (Pure.pure a) h K:=λw c=>⟨a,w,rfl,dn.refl w,by grind⟩
theorem av.bind{s:Sem α}{f:α->Sem β}{K:β->Heap->Prop}(e:av P s h λv h'=>av P (f v) h' K):av P (s>>=f) h K:=by intro w g;obtain⟨v,w',l,i,k⟩:=e w g;obtain⟨j,d,a,c,b⟩:=k w' rfl;exact⟨j,d,by rw[Sem.run_bind,l];exact a,i.trans c,b⟩
theorem av.mono{s:Sem α}{K d:α->Heap->Prop}(e:av P s h K)(g:∀v h',K v h'->d v h'):av P s h d:=λw f=>
 let⟨v,w',a,b,c⟩:=e w f;⟨v,w',a,b,g _ _ c⟩
theorem av.WF{K:Program->Heap->Prop}(a:K P h):av P program h K:=λw b=>⟨P,w,rfl,dn.refl w,by grind⟩
theorem av.aaV{a:Addr}{v v0:Value}{m:Mode}{K:Unit->Heap->Prop}(d:v.oneCell'=true)(c:cellOf h a=some v0)(e:QO h a=false)(f:K () (QP h a v)):
  av P (store a v m) h K:=λw b=>
 ⟨(),w.setCell a v,by rw[run_store _ _ _ _ _ d,Ih,b,c];simp[ZT,b,e],⟨rfl,rfl,rfl,qk _⟩,by rw[ZU,b];exact f⟩
theorem av.nX{o:Obj}{K:Nat->Heap->Prop}(a:K h.size (h.push o)):av P (newObj o) h K:=λw b=>
 ⟨w.heap.size,_,run_newObj P w o,⟨rfl,rfl,rfl,qk _⟩,by grind⟩
theorem av.AM{n:Nat}{K:Unit->Heap->Prop}(a:K () h):av P (askRoom n) h K:=λw b=>⟨(),w,run_askRoom P w n,dn.refl w,by grind⟩
theorem av.DS{q:Question}{K:Nat->Heap->Prop}(a:(q.forced=true->K 0 h)/\(q.forced=false->∀n,K (q.cut n) h)):av P (choose q) h K:=by
 intro w b;cases hq:q.forced with
 |true=>exact⟨0,w,by rw[run_choose,hq];rfl,dn.refl w,by grind⟩
 |false=>exact⟨q.cut (w.tape w.drawn q),{w with drawn:=w.drawn+1},by rw[run_choose,hq];rfl,⟨rfl,rfl,rfl,Nat.le_succ _⟩,by grind⟩
theorem av.aaW{r:Nat}{K:Option (TypeId×Nat)->Heap->Prop}(a:K (shapeOf h r) h):av P (shape r) h K:=λw b=>
 ⟨_,w,run_shape P w r,dn.refl w,by rw[WE,b];exact a⟩
def Ai(P:Program)(s:Sem Next)(h:Heap)(K:Value->Heap->Prop):Prop:=
 av P s h λa h'=>match a with
  | .value v=>K v h'
  | .skip=>K undef h'
  | .enter f args=>an P f args h' K
  |_=>False
theorem ade{P:Program}{o:Oper}{a:Act}{w:World}{K:Value->Heap->Prop}{Q:Exit->Act->World->Prop}
  (j:Ai P (execOp a.eval o) w.heap K) {next:Act->World->Prop}
  (d:∀v w',dn w w'->K v w'.heap->next (a.put o.dst v) w'):o.wp P a w next Q:=by
 obtain⟨i,w',g,h,c⟩:=j w rfl;unfold Oper.wp;rw[g];cases i<;>simp only at c<;>simp only[Oper.upon]
 case value v=>grind
 case skip=>grind
 case enter f args=>
  refine(c w' rfl).mono ?_;rintro e k ⟨v,rfl,b,r⟩;exact d _ _ (h.trans b) r
structure Sl where
 ptr:Option Addr
 len:Nat
 cap:Nat
 deriving Inhabited
inductive Sc where
 |int (k:IntKind)|bool|str|ptr|slc|flt (k:FloatKind)|cpx (k:FloatKind)|mp|fn|any|adr
@[reducible] def Sc.den:Sc->Type
 | .int _=>Int
 | .bool=>Bool
 | .str=>ByteArray
 | .ptr=>Option Addr
 | .slc=>Sl
 | .flt _=>Nat
 | .cpx _=>Nat×Nat
 | .mp=>Option Nat
 | .fn=>FuncId×Array Value×Array Value
 | .any=>Value
 | .adr=>Addr
@[reducible] def Sc.enc:(s:Sc)->s.den->Value
 | .int k,n=>.int k n
 | .bool,x=>.bool x
 | .str,x=>.string x
 | .ptr,a=>.pointer a
 | .slc,x=>.slice x.ptr x.len x.cap
 | .flt k,n=>.float k n
 | .cpx k,x=>.complex k x.1 x.2
 | .mp,r=>.map r
 | .fn,x=>.func (.func x.1) x.2.1 x.2.2
 | .any,v=>v
 | .adr,a=>.pointer (some a)
def Aj:IntKind->IntKind->Bool
 | .i8,.i8| .i16,.i16| .i32,.i32| .i64,.i64| .u8,.u8| .u16,.u16| .u32,.u32| .u64,.u64=>true
 |_,_=>false
theorem ED:∀{a b:IntKind},Aj a b=true->a=b:=by intro a b;cases a<;>cases b<;>simp[Aj]
def Ci:FloatKind->FloatKind->Bool
 | .f32,.f32| .f64,.f64=>true
 |_,_=>false
theorem Cj:∀{a b:FloatKind},Ci a b=true->a=b:=by intro a b;cases a<;>cases b<;>simp[Ci]
def Sc.dec:(s:Sc)->Value->Option s.den
 | .int k,.int k' n=>bif Aj k k' then some n else none
 | .bool,.bool x=>some x
 | .str,.string x=>some x
 | .ptr,.pointer a=>some a
 | .slc,.slice a l c=>some ⟨a,l,c⟩
 | .flt k,.float k' n=>bif Ci k k' then some n else none
 | .cpx k,.complex k' a b=>bif Ci k k' then some (a,b)else none
 | .mp,.map r=>some r
 | .fn,.func (.func g) f c=>some (g,f,c)
 | .any,v=>some v
 | .adr,.pointer (some a)=>some a
 |_,_=>none
theorem Sc.pu{s:Sc}{v:Value}{x:s.den}(h:s.dec v=some x):v=s.enc x:=by
 cases s<;>cases v<;>simp only[Sc.dec]at h<;>try(first|(cases h;done)|(cases h;rfl))
 case int.int k k' n=>
  cases hk:Aj k k'<;>simp[hk]at h;have:=ED hk;grind
 case flt.float k k' n=>
  cases hk:Ci k k'<;>simp[hk]at h;have:=Cj hk;grind
 case cpx.complex k k' a b=>
  cases hk:Ci k k'<;>simp[hk]at h;have:=Cj hk;grind
 case fn.func g f c=>
  grind
 grind
@[reducible] def uX:List Sc->Type
 |[]=>Unit
 |[s]=>s.den
 |s::t::r=>s.den×uX (t::r)
@[reducible] def nM:(l:List Sc)->uX l->List Value
 |[],_=>[]
 |[s],x=>[s.enc x]
 |s::t::r,x=>s.enc x.1::nM (t::r) x.2
def QQ:(l:List Sc)->List Value->Option (uX l)
 |[],[]=>some ()
 |[s],[v]=>s.dec v
 |s::t::r,v::vs=>match s.dec v with
  |some x=>match QQ (t::r) vs with
   |some y=>some (x,y)
   |none=>none
  |none=>none
 |_,_=>none
theorem TL:∀{l:List Sc} {vs:List Value} {x:uX l},QQ l vs=some x->vs=nM l x:=by
 intro l vs
 fun_induction QQ l vs with
 |case1=>intro x _;rfl
 |case2 s v=>intro x h;simp only[nM];rw[Sc.pu h]
 |case3 s t r v vs x hx y hy ih=>intro z h;cases h;simp only[nM];rw[Sc.pu hx,ih hy]
 |case4=>intro x h;cases h
 |case5=>intro x h;cases h
 |case6=>intro x h;cases h
inductive Ty where
 |sc (s:Sc)
 |agg (l:List Sc)
 |arr (s:Sc)
@[reducible] def Ty.den:Ty->Type
 | .sc s=>s.den
 | .agg l=>uX l
 | .arr s=>List s.den
@[reducible] def Ty.enc:(t:Ty)->t.den->Value
 | .sc s,x=>s.enc x
 | .agg l,x=>.agg (nM l x).toArray
 | .arr s,x=>.agg (x.map s.enc).toArray
def Ty.dec:(t:Ty)->Value->Option t.den
 | .sc s,v=>s.dec v
 | .agg l,.agg ⟨cs⟩=>QQ l cs
 |_,_=>none
theorem Ty.pu{t:Ty}{v:Value}{x:t.den}(h:t.dec v=some x):v=t.enc x:=by
 unfold Ty.dec at h;split at h
 .exact Sc.pu h
 .have:=TL h;subst this;rfl
 .cases h
@[reducible] def KW:List Ty->Type
 |[]=>Unit
 |[s]=>s.den
 |s::t::r=>s.den×KW (t::r)
@[reducible] def QR:(l:List Ty)->KW l->List Value
 |[],_=>[]
 |[s],x=>[s.enc x]
 |s::t::r,x=>s.enc x.1::QR (t::r) x.2
inductive Rt where
 |one (t:Ty)
 |many (l:List Ty)
@[reducible] def Rt.den:Rt->Type
 | .one t=>t.den
 | .many l=>KW l
@[reducible] def Rt.enc:(r:Rt)->r.den->Value
 | .one t,x=>t.enc x
 | .many l,x=>.tuple (QR l x).toArray
inductive pv where
 |val (t:Nat) (x:Value)
 |kil (lo hi:Nat)
abbrev Env:=List pv
def pv.fe:pv->Nat->Bool
 | .val s _,t=>wv s t
 | .kil lo hi,t=>xE lo t&&xt t hi
def Env.get:Env->Nat->Option Value
 |[],_=>none
 | .val s x::r,t=>bif wv s t then some x else Env.get r t
 | .kil lo hi::r,t=>bif xE lo t&&xt t hi then none else Env.get r t
def Env.fe:Env->Nat->Bool
 |[],_=>false
 |e::r,t=>e.fe t||Env.fe r t
theorem Env.WG(e:pv)(r:Env)(t:Nat)(h:e.fe t=false):Env.get (e::r) t=Env.get r t:=by
 cases e<;>simp only[pv.fe]at h<;>simp[Env.get,h]
theorem Env.get_append{δ ρ:Env}{t:Nat}(h:δ.fe t=false):Env.get (δ++ρ) t=Env.get ρ t:=by
 induction δ with
 |nil=>rfl
 |cons e r ih=>
  simp only[Env.fe,yL]at h;rw[zI,Env.WG _ _ _ h.1,ih h.2]
theorem Env.uY{δ ρ:Env}{t:Nat}:Env.fe (δ++ρ) t=(δ.fe t||ρ.fe t):=by
 induction δ with
 |nil=>simp[Env.fe]
 |cons e r ih=>simp[Env.fe,ih,Bool.or_assoc]
structure Fits (n:Nat) (a:Act) (ρ:Env):Prop where
 size:a.tmps.size=n
 defers:a.defers=[]
 get:∀t x,ρ.get t=some x->a.tmps[t]?=some x
def Ext(ρ b:Env)(a c:Act):Prop:=∃δ:Env,b=δ++ρ/\∀t,δ.fe t=false->c.tmps[t]?=a.tmps[t]?
theorem Ext.refl(ρ:Env)(a:Act):Ext ρ ρ a a:=⟨[],rfl,λ_ _=>rfl⟩
theorem Ext.trans{ρ e c:Env}{a f b:Act}(h:Ext ρ e a f)(k:Ext e c f b):Ext ρ c a b:=by obtain⟨δ,rfl,h⟩:=h;obtain⟨g,rfl,k⟩:=k;refine⟨g++δ,by simp,λt d=>?_⟩;rw[Env.uY,yL]at d;rw[k t d.1,h t d.2]
def Env.eval(ρ:Env):Operand->Option Value
 | .tmp t=>ρ.get t
 | .const v=>some v
 | .global g=>some (.pointer (some ⟨g,0,none⟩))
 | .func f=>some (.func (.func f) #[] #[])
theorem Fits.eval{n:Nat}{a:Act}{ρ:Env}(h:Fits n a ρ){x:Operand}{v:Value}(b:ρ.eval x=some v):a.eval x=v:=by
 cases x<;>simp only[Env.eval]at b<;>simp only[Act.eval]
 case tmp t=>have:=h.get t v b;simp[Array.getD_eq_getD_getElem?,this]
 all_goals (injection b)
theorem Fits.put{n:Nat}{a:Act}{ρ:Env}(h:Fits n a ρ){d:Nat}(f:xt d n=true)(v:Value):Fits n (a.put (some d) v) (.val d v::ρ):=by
 have c:d<n:=zK f;refine⟨by simp[Act.put,h.size],h.defers,λt x b=>?_⟩;simp only[Env.get]at b;simp only[Act.put,Array.getElem?_setIfInBounds];cases hb:wv d t with
 |true=>
  rw[hb]at b;have:d=t:=zy hb;subst this;simp at b;simp[h.size,c,b]
 |false=>
  rw[hb]at b;have:d≠t:=λe=>by subst e;simp at hb
  simp only[this,if_false];exact h.get t x b
theorem Ext.put{ρ:Env}{a:Act}{d:Nat}(v u:Value):Ext ρ (.val d u::ρ) a (a.put (some d) v):=by
 refine⟨[.val d u],rfl,λt b=>?_⟩;simp only[Env.fe,pv.fe,vj]at b;have:d≠t:=λe=>by subst e;simp at b
 simp[Act.put,this]
abbrev dF:=List (Nat×Ty)
@[reducible] def dF.den:dF->Type
 |[]=>Unit
 |[s]=>s.2.den
 |s::t::r=>s.2.den×dF.den (t::r)
def dF.vals:(σ:dF)->σ.den->Env->Env
 |[],_,ρ=>ρ
 |[s],x,ρ=>.val s.1 (s.2.enc x)::ρ
 |s::t::r,x,ρ=>.val s.1 (s.2.enc x.1)::dF.vals (t::r) x.2 ρ
def dF.read:(σ:dF)->Env->Option σ.den
 |[],_=>some ()
 |[s],ρ=>match ρ.get s.1 with
  |some v=>s.2.dec v
  |none=>none
 |s::t::r,ρ=>match ρ.get s.1 with
  |some v=>match s.2.dec v with
   |some x=>match dF.read (t::r) ρ with
    |some y=>some (x,y)
    |none=>none
   |none=>none
  |none=>none
def dF.has:dF->Nat->Bool
 |[],_=>false
 |s::r,t=>wv s.1 t||dF.has r t
abbrev dp:=List (Nat×Nat)
def dp.over:dp->Env->Env
 |[],ρ=>ρ
 |(lo,hi)::r,ρ=>.kil lo hi::dp.over r ρ
def dp.has:dp->Nat->Nat->Bool
 |[],_,_=>false
 |(lo,hi)::r,a,b=>(xE lo a&&xE b hi)||dp.has r a b
def within(σ:dF)(κ:dp):Env->Nat->Bool
 |_,0=>true
 |[],_+1=>true
 | .val t _::r,n+1=>(dF.has σ t||dp.has κ t (t+1))&&within σ κ r n
 | .kil lo hi::r,n+1=>dp.has κ lo hi&&within σ κ r n
theorem dp.WH{κ:dp}{a b:Nat}(h:κ.has a b=true){t:Nat}(f:a<=t)(e:t<b)(ρ:Env):∃δ:Env,κ.over ρ=δ++ρ/\δ.fe t=true:=by
 induction κ with
 |nil=>simp[dp.has]at h
 |cons p r ih=>
  obtain⟨c,d⟩:=p;simp only[dp.has,yB,qC]at h;obtain⟨δ,j⟩:∃δ:Env,dp.over r ρ=δ++ρ:=by
   clear ih h
   induction r with
   |nil=>exact⟨[],rfl⟩
   |cons q r ih=>obtain⟨δ,h⟩:=ih;exact⟨.kil q.1 q.2::δ,by show pv.kil q.1 q.2::dp.over r ρ=_;rw[h];rfl⟩
  rcases h with h|h
  .have k:=zK h.1;have l:=zK h.2;refine⟨.kil c d::δ,by simp[dp.over,j],?_⟩;have i:xE c t=true:=Nat.ble_eq_true_of_le (by omega);have x2:xt t d=true:=by unfold xt;exact Nat.ble_eq_true_of_le (by omega)
   simp[Env.fe,pv.fe,i,x2]
  .obtain⟨g,f,e⟩:=ih h;exact⟨.kil c d::g,by simp[dp.over,f],by simp[Env.fe,e]⟩
theorem dp.Li(κ:dp)(ρ:Env):κ.over ρ=κ.over []++ρ:=by
 induction κ with
 |nil=>rfl
 |cons p r ih=>obtain⟨b,a⟩:=p;simp[dp.over,ih]
theorem dF.Fe:∀(σ:dF) (x:σ.den) (ρ:Env),σ.vals x ρ=σ.vals x []++ρ
 |[],_,ρ=>rfl
 |[s],x,ρ=>rfl
 |s::t::r,x,ρ=>by simp only[dF.vals];rw[dF.Fe (t::r) x.2 ρ];rfl
theorem dF.uv:∀(σ:dF) (x:σ.den) (t:Nat),(σ.vals x []).fe t=σ.has t
 |[],_,_=>rfl
 |[s],x,t=>by simp[dF.vals,Env.fe,pv.fe,dF.has]
 |s::u::r,x,t=>by
  have:=dF.uv (u::r) x.2 t;simp only[dF.vals,Env.fe,pv.fe,this];rfl
theorem dF.Lj:∀(σ:dF) (x:σ.den) (e:Env) (t:Nat),σ.has t=true->((σ.vals x [])++e).get t=(σ.vals x []).get t
 |[],_,_,_,h=>by cases h
 |[s],x,e,t,h=>by
  simp only[dF.has,vj]at h;simp[dF.vals,Env.get,h]
 |s::u::r,x,e,t,h=>by
  simp only[dF.vals,zI,Env.get];cases hb:wv s.1 t with
  |true=>rfl
  |false=>
   have h':dF.has (u::r) t=true:=by have a:(wv s.1 t||dF.has (u::r) t)=true:=h;rw[hb]at a;exact a
   simpa using dF.Lj (u::r) x.2 e t h'
theorem dp.Jh{κ:dp}{a b t:Nat}(h:κ.has a b=true)(d:a<=t)(c:t<b):(κ.over []).fe t=true:=by obtain⟨δ,e,f⟩:=dp.WH h d c [];rw[e];simpa using f
theorem px{σ:dF}{κ:dp}:∀{δ ρ:Env},within σ κ (δ++ρ) δ.length=true->∀t,σ.has t=false->(κ.over []).fe t=false->δ.fe t=false
 |[],_,_,_,_,_=>rfl
 | .val s x::r,ρ,h,t,h1,h2=>by
  simp only[zI,zc,within,qC,yB]at h;simp only[Env.fe,pv.fe,yL];refine⟨?_,px h.2 t h1 h2⟩;cases hb:wv s t with
  |false=>rfl
  |true=>
   have:s=t:=zy hb;subst this;rcases h.1 with h|h
   .rw[h]at h1;cases h1
   .rw[dp.Jh h (qk _) (Nat.lt_succ_self _)]at h2;cases h2
 | .kil lo hi::r,ρ,h,t,h1,h2=>by
  simp only[zI,zc,within,qC]at h;simp only[Env.fe,pv.fe,yL];refine⟨?_,px h.2 t h1 h2⟩;cases hb:(xE lo t&&xt t hi)with
  |false=>rfl
  |true=>
   simp only[qC]at hb;have a:=zK hb.1;have b:t<hi:=zK hb.2;rw[dp.Jh h.1 a b]at h2;cases h2
theorem dF.Lk:∀{σ:dF} {ρ:Env} {x:σ.den} {t:Nat} {v:Value},σ.read ρ=some x->(σ.vals x []).get t=some v->ρ.get t=some v∨False
 |[],_,_,_,_,_,h=>by simp[dF.vals,Env.get]at h
 |[s],ρ,x,t,v,h,hv=>by
  simp only[dF.read]at h;split at h
  .rename_i u c;simp only[dF.vals,Env.get]at hv;cases hb:wv s.1 t with
   |true=>
    rw[hb]at hv;have:=zy hb;simp at hv;subst hv;rw[<-Ty.pu h,<-this];exact .inl c
   |false=>rw[hb]at hv;simp at hv
  .cases h
 |s::u::r,ρ,x,t,v,h,hv=>by
  simp only[dF.read]at h;split at h
  .rename_i z b;split at h
   .rename_i y a;split at h
    .rename_i w d;cases h;simp only[dF.vals,Env.get]at hv;cases hb:wv s.1 t with
     |true=>
      rw[hb]at hv;have:=zy hb;simp at hv;subst hv;rw[<-Ty.pu a,<-this];exact .inl b
     |false=>
      rw[hb]at hv;exact dF.Lk (σ:=u::r) d hv
    .cases h
   .cases h
  .cases h
theorem Fits.py{n:Nat}{a d:Act}{σ:dF}{κ:dp}{ρ g:Env}{x:σ.den}(l:Fits n a ρ)(h:Fits n d g)
  (b:∀t,σ.has t=false->(κ.over []).fe t=false->d.tmps[t]?=a.tmps[t]?) (j:σ.read g=some x):
  Fits n d (σ.vals x (κ.over ρ))/\Ext ρ (σ.vals x (κ.over ρ)) a d:=by
 rw[dF.Fe,dp.Li];refine⟨⟨h.size,h.defers,λt v c=>?_⟩,⟨σ.vals x []++κ.over [],by simp,λt f=>?_⟩⟩
 .cases h1:σ.has t with
  |true=>
   have:∀(e:Env),((σ.vals x [])++e).get t=(σ.vals x []).get t:=λe=>dF.Lj σ x e t h1;rw[this]at c;rcases dF.Lk j c with h2|h2
   .exact h.get t v h2
   .exact h2.elim
  |false=>
   rw[Env.get_append (by rw[dF.uv];exact h1)]at c;cases h2:(κ.over []).fe t with
   |true=>
    have:∀(e:Env),((κ.over [])++e).get t=none:=by
     intro e;clear b c
     induction κ with
     |nil=>simp[dp.over,Env.fe]at h2
     |cons p r ih=>
      obtain⟨i,k⟩:=p;simp only[dp.over,Env.fe,pv.fe]at h2;simp only[dp.over,zI,Env.get];cases hb:(xE i t&&xt t k)with
      |true=>rfl
      |false=>rw[hb]at h2;simp at h2;simpa using ih h2
    rw[this]at c;cases c
   |false=>
    rw[Env.get_append h2]at c;rw[b t h1 h2];exact l.get t v c
 .rw[Env.uY,yL,dF.uv]at f;exact b t f.1 f.2
theorem Ext.within{a d:Act}{σ:dF}{κ:dp}{ρ c:Env}(g:Ext ρ c a d)(e:within σ κ c (c.length-ρ.length)=true):
  ∀t,σ.has t=false->(κ.over []).fe t=false->d.tmps[t]?=a.tmps[t]?:=by
 obtain⟨δ,rfl,i⟩:=g;have b:(δ++ρ).length-ρ.length=δ.length:=by simp
 rw[b]at e;exactλt h f=>i t (px e t h f)
theorem Ext.py{a b:Act}{σ:dF}{κ:dp}{ρ:Env}{x:σ.den}(e:Ext ρ (σ.vals x (κ.over ρ)) a b):
  ∀t,σ.has t=false->(κ.over []).fe t=false->b.tmps[t]?=a.tmps[t]?:=by
 obtain⟨δ,c,g⟩:=e;rw[dF.Fe,dp.Li,<-List.append_assoc]at c;have:=List.append_cancel_right c;subst this;exactλt f d=>g t (by rw[Env.uY,dF.uv,f,d];rfl)
inductive ng where
 |int (k:IntKind)|bool|str|flt|cpx|mp|fn|other
 |slice (e:TypeId)|array (n:Nat) (e:TypeId)|struct (fs:List (Nat×TypeId))|ptr (e:TypeId)
def ja:Option TypeDesc->ng
 |some (.int k)=>.int k
 |some .bool=>.bool
 |some .string=>.str
 |some (.float _)=>.flt
 |some (.complex _)=>.cpx
 |some (.map ..)=>.mp
 |some (.func ..)=>.fn
 |some (.slice e)=>.slice e
 |some (.array n e)=>.array n e
 |some (.struct fs)=>.struct (fs.toList.map λf=>(f.offset,f.type))
 |some (.pointer e)=>.ptr e
 |_=>.other
structure TI where
 co:ng
 ty:Ty
 size:Nat
 bytes:Nat
 zero:List Value
abbrev km:=List TI
def km.seen(P:Program)(t:TypeId):ng×Option (Nat×Nat×Option (List Value)):=
 (ja (P.underlying t),(P.info? t).map λi=>(i.size,i.bytes,i.zero.map (·.cells.toList)))
def km.told(i:TI):ng×Option (Nat×Nat×Option (List Value)):=(i.co,some (i.size,i.bytes,some i.zero))
def km.get:km->Nat->Option TI
 |[],_=>none
 |i::_,0=>some i
 |_::r,t+1=>km.get r t
structure Ak where
 P:Program
 T:km
structure Ak.Ok (C:Ak):Prop where
 Ql:(List.range C.T.length).map (km.seen C.P)=C.T.map km.told
 mixed:C.P.follows .mixedOrders=true
theorem km.get_eq:∀(T:km) (t:Nat),T.get t=T[t]?
 |[],_=>rfl
 |_::_,0=>rfl
 |_::r,t+1=>by simp[km.get,km.get_eq r t]
theorem Ak.Ok.at{C:Ak}(h:C.Ok){t:Nat}{i:TI}(a:C.T.get t=some i):km.seen C.P t=km.told i:=by
 rw[km.get_eq]at a;have:=congrArg (·[t]?) h.Ql
 grind
def Br(b:Bool)(A B:Prop):Prop:=match b with
 |true=>A
 |false=>B
inductive PV:Type 1 where
 |no
 |val (v:Value)
 |cond (c:Prop) (v:Value)
 |ex (X:Type) (c:X->Prop) (v:X->Value)
 |br (b:Bool) (x y:Value)
def PV.holds(p:PV)(K:Value->Prop):Prop:=match p with
 | .no=>False
 | .val v=>K v
 | .cond c v=>c/\K v
 | .ex _ c v=>∃x,c x/\K (v x)
 | .br b x y=>Br b (K x) (K y)
def rv(P:Program)(s:Sem Next)(v:Value):Prop:=∀w,s.run P w=.ok (.value v) w
def aL{α:Type}(P:Program)(s:Sem α)(v:α):Prop:=∀w,s.run P w=.ok v w
def ko(P:Program)(op:BinOp)(t:TypeId)(x y:Operand)(a b r:Value):Prop:=aL P (do eqGuard op t x y a b;binOp op t a b) r
def YK:Operand->Bool
 | .tmp _=>true
 |_=>false
def WI(P:Program)(t:TypeId)(x y:Operand)(d:Option ng)(op:BinOp):Value->Value->PV
 | .int k a,.int k' b=>
  match op with
  | .shl=>.cond (0<=b) (.int k (k.wrap (a*2^min b.toNat k.bits)))
  | .shr=>.cond (0<=b) (.int k (a.fdiv (2^min b.toNat k.bits)))
  |_=>bif Aj k k' then
   match op with
   | .add=>.val (.int k (k.wrap (a+b)))
   | .sub=>.val (.int k (k.wrap (a-b)))
   | .mul=>.val (.int k (k.wrap (a*b)))
   | .quo=>.cond (b≠0) (.int k (k.wrap (a.tdiv b)))
   | .rem=>.cond (b≠0) (.int k (a.tmod b))
   | .and=>.val (.int k (k.wrap (qH k.bits a&&&qH k.bits b).toNat))
   | .or=>.val (.int k (k.wrap (qH k.bits a|||qH k.bits b).toNat))
   | .xor=>.val (.int k (k.wrap (qH k.bits a^^^qH k.bits b).toNat))
   | .andNot=>.val (.int k (k.wrap (qH k.bits a&&&~~~qH k.bits b).toNat))
   | .eql=>.val (.bool (a==b))
   | .neq=>.val (.bool (a !=b))
   | .lss=>.val (.bool (decide (a<b)))
   | .leq=>.val (.bool (decide (a<=b)))
   | .gtr=>.val (.bool (decide (a>b)))
   | .geq=>.val (.bool (decide (a>=b)))
   |_=>.no
  else .no
 | .float k a,.float k' b=>bif Ci k k' then
   match op with
   | .add=>.ex Nat (λr=>k.format.add a b=some r) (λr=>.float k r)
   | .sub=>.ex Nat (λr=>k.format.sub a b=some r) (λr=>.float k r)
   | .mul=>.ex Nat (λr=>k.format.mul a b=some r) (λr=>.float k r)
   | .quo=>.ex Nat (λr=>k.format.div a b=some r) (λr=>.float k r)
   | .eql=>.val (.bool (k.format.order a b==some .eq))
   | .neq=>.val (.bool (k.format.order a b !=some .eq))
   | .lss=>.val (.bool (k.format.order a b==some .lt))
   | .gtr=>.val (.bool (k.format.order a b==some .gt))
   |_=>.no
  else .no
 | .string a,.string b=>
  match op with
  | .eql=>.val (.bool (a.toList==b.toList))
  | .neq=>.val (.bool (!(a.toList==b.toList)))
  | .lss=>.val (.bool (Op.bytesLess a.toList b.toList))
  | .leq=>.val (.bool (Op.bytesLess a.toList b.toList||a.toList==b.toList))
  | .gtr=>.val (.bool (!(Op.bytesLess a.toList b.toList||a.toList==b.toList)))
  | .geq=>.val (.bool (!(Op.bytesLess a.toList b.toList)))
  | .add=>.cond (((a.size+b.size:Nat):Int)<=xV.max) (.string (a++b))
  |_=>.no
 | .bool a,.bool b=>
  match d with
  |some .bool=>match op with
   | .eql=>.val (.bool (a==b))
   | .neq=>.val (.bool (!(a==b)))
   |_=>.no
  |_=>.no
 | .pointer a,.pointer b=>bif YK y then .ex Bool (λr=>ko P op t x y (.pointer a) (.pointer b) (.bool r)) (λr=>.bool r)else
  match b with
  |none=>match d with
   |some (.ptr _)=>match op with
    | .eql=>.val (.bool a.isNone)
    | .neq=>.val (.bool (!a.isNone))
    |_=>.no
   |_=>.no
  |some _=>.no
 | .slice a _ _,.slice none _ _=>
  match d with
  |some (.slice _)=>match op with
   | .eql=>.val (.bool a.isNone)
   | .neq=>.val (.bool (!a.isNone))
   |_=>.no
  |_=>.no
 | .agg a,.agg b=>.ex Bool (λr=>ko P op t x y (.agg a) (.agg b) (.bool r)) (λr=>.bool r)
 | .complex k a b,.complex k' c e=>
  match op with
  | .eql| .neq=>.ex Bool (λr=>ko P op t x y (.complex k a b) (.complex k' c e) (.bool r)) (λr=>.bool r)
  |_=>.ex (Nat×Nat) (λr=>ko P op t x y (.complex k a b) (.complex k' c e) (.complex k r.1 r.2)) (λr=>.complex k r.1 r.2)
 |_,_=>.no
def WJ(P:Program)(t:TypeId)(x y:Operand)(d:Option ng)(op:BinOp)(a:Value):Value->PV
 | .nilIface=>.ex Bool (λr=>ko P op t x y a .nilIface (.bool r)) (λr=>.bool r)
 |b=>WI P t x y d op a b
def unV(op:UnOp):Value->PV
 | .bool b=>match op with
  | .not=>.val (.bool !b)
  |_=>.no
 | .int k n=>match op with
  | .neg=>.val (.int k (k.wrap (0-n)))
  | .xor=>.val (.int k (k.wrap (qH k.bits (if k.signed then-1 else k.max)^^^qH k.bits n).toNat))
  |_=>.no
 |_=>.no
def pq(ev:Operand->Option Value):List Operand->Option (List Value)
 |[]=>some []
 |x::r=>match ev x with
  |some v=>match pq ev r with
   |some vs=>some (v::vs)
   |none=>none
  |none=>none
def Ck(ev:Operand->Option Value):List (Nat×Operand)->Option (List (Nat×Value))
 |[]=>some []
 |(n,x)::r=>match ev x with
  |some v=>match Ck ev r with
   |some vs=>some ((n,v)::vs)
   |none=>none
  |none=>none
def placesOf(T:km):List (Nat×TypeId)->Option (List (Nat×Nat))
 |[]=>some []
 |(off,t)::r=>match T.get t with
  |some j=>match placesOf T r with
   |some ps=>some ((off,j.size)::ps)
   |none=>none
  |none=>none
def Gc(ev:Operand->Option Value):Option Operand->Option (Option Int)
 |none=>some none
 |some x=>match ev x with
  |some (.int _ n)=>some (some n)
  |_=>none
def aaX(d:Option ng):Value->PV
 | .slice _ n _=>match d with
  |some (.slice _)=>.val (.int .i64 n)
  |_=>.no
 | .string s=>match d with
  |some .str=>.val (.int .i64 s.size)
  |_=>.no
 |_=>.no
def aaY(d:Option ng):Value->PV
 | .slice _ _ n=>match d with
  |some (.slice _)=>.val (.int .i64 n)
  |_=>.no
 |_=>.no
def YL(d:Option ng):Value->PV
 | .int _ n=>match d with
  |some (.int k)=>.val (.int k (k.wrap n))
  |_=>.no
 |_=>.no
def Am(P:Program)(T:km)(op:Op)(ev:Operand->Option Value):PV:=
 match op with
 | .move x| .assign x=>match ev x with
  |some v=>.val v
  |none=>.no
 | .pick c a b=>match ev c,ev a,ev b with
  |some (.bool t),some x,some y=>.br t x y
  |_,_,_=>.no
 | .nilCheck x=>match ev x with
  |some (.pointer p)=>.ex Addr (λa=>p=some a) (λa=>.pointer (some a))
  |_=>.no
 | .fieldAddr s x f=>match ev x with
  |some (.pointer (some a))=>match T.get s with
   |some i=>match i.co with
    | .struct fs=>match fs[f]? with
     |some (off,t)=>match T.get t with
      |some j=>bif wv j.size 0 then .no else .val (.pointer (some (a.add off)))
      |none=>.no
     |none=>.no
    |_=>.no
   |none=>.no
  |_=>.no
 | .indexAddr t x ix=>match ev ix with
  |some (.int _ n)=>match ev x with
   |some (.slice p len _)=>match T.get t with
    |some i=>match i.co with
     | .slice e=>match T.get e with
      |some j=>.ex Addr (λa=>p=some a/\0<=n/\n<(len:Int)) (λa=>.pointer (some (a.add (n.toNat*j.size))))
      |none=>.no
     |_=>.no
    |none=>.no
   |some (.pointer (some a))=>match T.get t with
    |some i=>match i.co with
     | .array m e=>match T.get e with
      |some j=>.cond (0<=n/\n<(m:Int)) (.pointer (some (a.add (n.toNat*j.size))))
      |none=>.no
     |_=>.no
    |none=>.no
   |_=>.no
  |_=>.no
 | .index t x ix=>match ev ix with
  |some (.int _ n)=>match ev x with
   |some (.string s)=>match T.get t with
    |some i=>match i.co with
     | .str=>.ex UInt8 (λb=>0<=n/\s.data[n.toNat]?=some b) (λb=>.int .u8 b.toNat)
     |_=>.no
    |none=>.no
   |some (.agg cs)=>match T.get t with
    |some i=>match i.co with
     | .array m e=>match T.get e with
      |some j=>match j.ty with
       | .sc s=>match j.co with
        | .struct _=>.no
        | .array _ _=>.no
        | .other=>.no
        |_=>bif wv j.size 1 then .ex s.den (λy=>0<=n/\n<(m:Int)/\cs[n.toNat]?=some (s.enc y)) (λy=>s.enc y)else .no
       |_=>.no
      |none=>.no
     |_=>.no
    |none=>.no
   |_=>.no
  |_=>.no
 | .field s x f=>match ev x with
  |some (.agg ⟨cs⟩)=>match T.get s with
   |some i=>match i.co with
    | .struct fs=>match fs[f]? with
     |some (off,t)=>match T.get t with
      |some j=>match j.co with
       | .struct _=>.val (.agg ((cs.drop off).take j.size).toArray)
       | .array _ _=>.val (.agg ((cs.drop off).take j.size).toArray)
       | .other=>.no
       |_=>match cs[off]? with
        |some v=>.val v
        |none=>.no
      |none=>.no
     |none=>.no
    |_=>.no
   |none=>.no
  |_=>.no
 | .slice t x lo hi mx=>match mx with
  |some _=>.no
  |none=>match Gc ev lo,Gc ev hi with
   |some l,some r=>match ev x with
    |some (.slice p len cap)=>match T.get t with
     |some i=>match i.co with
      | .slice e=>match T.get e with
       |some j=>match l,r with
        |none,none=>.val (.slice p len cap)
        |none,some r=>.cond (0<=r/\r<=(cap:Int)) (.slice p r.toNat cap)
        |some l,none=>.cond (0<=l/\l<=(len:Int)) (.slice (if cap=l.toNat then p else p.map (·.add (l.toNat*j.size))) (len-l.toNat) (cap-l.toNat))
        |some l,some r=>.cond (0<=l/\l<=r/\r<=(cap:Int)) (.slice (if cap=l.toNat then p else p.map (·.add (l.toNat*j.size))) (r.toNat-l.toNat) (cap-l.toNat))
       |none=>.no
      |_=>.no
     |none=>.no
    |some (.string s)=>match T.get t with
     |some i=>match i.co with
      | .str=>match l,r with
       |none,none=>.val (.string (s.extract 0 s.size))
       |none,some r=>.cond (0<=r/\r<=(s.size:Int)) (.string (s.extract 0 r.toNat))
       |some l,none=>.cond (0<=l/\l<=(s.size:Int)) (.string (s.extract l.toNat s.size))
       |some l,some r=>.cond (0<=l/\l<=r/\r<=(s.size:Int)) (.string (s.extract l.toNat r.toNat))
      |_=>.no
     |none=>.no
    |some (.pointer (some a))=>match T.get t with
     |some i=>match i.co with
      | .array n e=>match T.get e with
       |some j=>match l,r with
        |none,none=>.val (.slice (some a) n n)
        |none,some r=>.cond (0<=r/\r<=(n:Int)) (.slice (some a) r.toNat n)
        |some l,none=>.cond (0<=l/\l<=(n:Int)) (.slice (some (if n=l.toNat then a else a.add (l.toNat*j.size))) (n-l.toNat) (n-l.toNat))
        |some l,some r=>.cond (0<=l/\l<=r/\r<=(n:Int)) (.slice (some (if n=l.toNat then a else a.add (l.toNat*j.size))) (r.toNat-l.toNat) (n-l.toNat))
       |none=>.no
      |_=>.no
     |none=>.no
    |_=>.no
   |_,_=>.no
 | .extract x n=>match ev x with
  |some (.tuple ⟨vs⟩)=>match vs[n]? with
   |some v=>.val v
   |none=>.no
  |_=>.no
 | .binOp op t x y _=>match ev x,ev y with
  |some a,some b=>WJ P t x y ((T.get t).map (·.co)) op a b
  |_,_=>.no
 | .unOp op _ x=>match ev x with
  |some v=>unV op v
  |none=>.no
 | .convert src dst x=>match ev x,(T.get src).map TI.co with
  |some v,some (ng.int _)=>YL ((T.get dst).map (·.co)) v
  |_,_=>.no
 | .build t parts=>match Ck ev parts.toList with
  |some vs=>match T.get t with
   |some i=>bif xt 24 i.size then .ex Value (λv=>aL P (xy t vs.toArray) v) (λv=>v)else match i.co with
    | .struct fs=>match placesOf T fs with
     |some ps=>match wC (λn=>ps[n]?) i.zero.toArray vs with
      |some cells=>.val (.agg cells)
      |none=>.no
     |none=>.no
    | .array _ e=>match T.get e with
     |some j=>match wC (λn=>some (n*j.size,j.size)) i.zero.toArray vs with
      |some cells=>.val (.agg cells)
      |none=>.no
     |none=>.no
    |_=>.no
   |none=>.no
  |none=>.no
 | .makeFunc fn first captured=>match pq ev first.toList,pq ev captured.toList with
  |some a,some b=>.val (.func fn a.toArray b.toArray)
  |_,_=>.no
 | .call c=>match c.callee with
  | .builtin b=>match b with
   | .len=>match c.argTypes.toList,c.args.toList with
    |t::_,[x]=>match ev x with
     |some v=>aaX ((T.get t).map (·.co)) v
     |none=>.no
    |_,_=>.no
   | .cap=>match c.argTypes.toList,c.args.toList with
    |t::_,[x]=>match ev x with
     |some v=>aaY ((T.get t).map (·.co)) v
     |none=>.no
    |_,_=>.no
   | .min=>match pq ev c.args.toList with
    |some [.int k a,.int _ b]=>.val (.int k (if b<a then b else a))
    |_=>.no
   | .max=>match pq ev c.args.toList with
    |some [.int k a,.int _ b]=>.val (.int k (if b>a then b else a))
    |_=>.no
   | .real=>match pq ev c.args.toList with
    |some [.complex k a _]=>.val (.float k a)
    |_=>.no
   | .imag=>match pq ev c.args.toList with
    |some [.complex k _ b]=>.val (.float k b)
    |_=>.no
   |_=>.no
  |_=>.no
 |_=>.no
theorem aL.next{P:Program}{s:Sem Value}{v:Value}(h:aL P s v):rv P (do pure (.value (<-s))) v:=λw=>by
 rw[Sem.run_bind,h w];rfl
theorem aL.pure{α:Type}{P:Program}{v:α}:aL P (pure v) v:=λ_=>rfl
theorem aL.bind{α β:Type}{P:Program}{s:Sem α}{f:α->Sem β}{v:α}{u:β}(h:aL P s v)(k:aL P (f v) u):aL P (s>>=f) u:=λw=>by
 rw[Sem.run_bind,h w];exact k w
theorem DT{d:Option TypeDesc}{k:IntKind}(h:ja d=.int k):d=some (.int k):=by unfold ja at h;grind
theorem WK{d:Option TypeDesc}(h:ja d=.bool):d=some .bool:=by unfold ja at h;grind
theorem sP{d:Option TypeDesc}(h:ja d=.str):d=some .string:=by unfold ja at h;grind
theorem iv{d:Option TypeDesc}{e:TypeId}(h:ja d=.slice e):d=some (.slice e):=by unfold ja at h;grind
theorem rx{d:Option TypeDesc}{n:Nat}{e:TypeId}(h:ja d=.array n e):d=some (.array n e):=by unfold ja at h;grind
theorem ZV{d:Option TypeDesc}{e:TypeId}(h:ja d=.ptr e):d=some (.pointer e):=by unfold ja at h;grind
theorem oD{d:Option TypeDesc}{b:List (Nat×TypeId)}(h:ja d=.struct b):∃a,d=some (.struct a)/\b=a.toList.map λf=>(f.offset,f.type):=by unfold ja at h;grind
variable {t:TypeId} {i:TI}
section
variable {C:Ak}
theorem Ak.Ok.co(h:C.Ok)(a:C.T.get t=some i):ja (C.P.underlying t)=i.co:=congrArg Prod.fst (h.at a)
theorem Ak.Ok.info(h:C.Ok)(a:C.T.get t=some i):∃f,C.P.info? t=some f/\f.size=i.size/\f.bytes=i.bytes/\∃z,f.zero=some z/\z.cells.toList=i.zero:=by
 have:=congrArg Prod.snd (h.at a);simp only[km.seen,km.told]at this;cases hf:C.P.info? t with
 |none=>grind
 |some f=>
  cases hz:f.zero with
  |none=>grind
  |some z=>grind
theorem aK{P:Program}{t:TypeId}{d:TypeDesc}(h:P.underlying t=some d):aL P (underlying t) d:=λw=>by
 simp[underlying,h]
theorem cC{P:Program}{t:TypeId}{d:TypeInfo}(h:P.info? t=some d):aL P (typeInfo t) d:=λw=>by
 simp[typeInfo,h]
theorem eF(h:C.Ok)(b:C.T.get t=some i):aL C.P (sizeOf t) i.size:=by obtain⟨f,c,a,_⟩:=h.info b;rw[<-a];exact(cC c).bind .pure
theorem pY(h:C.Ok)(c:C.T.get t=some i):∃z,aL C.P (zeroValue t) z/\z.cells.toList=i.zero:=by obtain⟨f,d,_,_,z,b,a⟩:=h.info c;refine⟨z,(cC d).bind ?_,a⟩;rw[b];exact .pure
theorem kZ(h:C.Ok)(g:C.T.get t=some i):(∀b,i.co=.struct b->aL C.P (isAgg t) true)/\(∀n e,i.co=.array n e->aL C.P (isAgg t) true)/\
  ((∀b,i.co≠.struct b)->(∀n e,i.co≠.array n e)->i.co≠.other->aL C.P (isAgg t) false):=by
 have a:=h.co g;refine⟨λb c=>?_,λn e c=>?_,λl j h3=>?_⟩
 .rw[c]at a;obtain⟨k,f,_⟩:=oD a;exact(aK f).bind .pure
 .rw[c]at a;exact(aK (rx a)).bind .pure
 .cases hu:C.P.underlying t with
  |none=>rw[hu]at a;exact absurd a.symm h3
  |some d=>
   refine(aK hu).bind ?_;cases d<;>first|exact .pure|(simp only[ja]at a;grind)
end
theorem AN{ev:Operand->Option Value}{e:Operand->Value}(a:∀x v,ev x=some v->e x=v):∀{l:List Operand} {vs:List Value},pq ev l=some vs->l.map e=vs:=by
 intro l
 induction l with
 |nil=>intro vs h;cases h;rfl
 |cons x r ih=>
  intro vs h;simp only[pq]at h
  grind
theorem EE{ev:Operand->Option Value}{e:Operand->Value}(a:∀x v,ev x=some v->e x=v):∀{l:List (Nat×Operand)} {vs:List (Nat×Value)},Ck ev l=some vs->l.map (λp=>(p.1,e p.2))=vs:=by
 intro l
 induction l with
 |nil=>intro vs h;cases h;rfl
 |cons x r ih=>
  intro vs h;simp only[Ck]at h
  grind
theorem Ff(t:TypeId)(x y:Value):Op.equal t x y=Op.equalIn (9999+1) t x y:=rfl
theorem ZW{t:TypeId}(c:P.underlying t=some .bool)(d:Nat)(a b:Bool):aL P (Op.equalIn (d+1) t (.bool a) (.bool b)) (a==b):=λw=>by
 simp[Op.equalIn,underlying,c]
theorem aaZ{t e:TypeId}(b:P.underlying t=some (.pointer e))(d:Nat)(a:Option Addr):aL P (Op.equalIn (d+1) t (.pointer a) (.pointer none)) a.isNone:=λw=>by
 cases a<;>simp[Op.equalIn,underlying,b]
theorem WL{t e:TypeId}(f:P.underlying t=some (.slice e))(d:Nat)(a:Option Addr)(l c b g:Nat):aL P (Op.equalIn (d+1) t (.slice a l c) (.slice none b g)) a.isNone:=λw=>by
 cases a<;>simp[Op.equalIn,underlying,f]
theorem QS{t:TypeId}{d:Option ng}{op:BinOp}{a b:Value}{x y:Operand}{K:Value->Prop}(o:∀q,d=some q->ja (P.underlying t)=q)
  (h:(WI P t x y d op a b).holds K):∃v,aL P (do eqGuard op t x y a b;binOp op t a b) v/\K v:=by
 have j:∀{a b:Value},¬(a=.nilIface/\b=.nilIface)->(∀u v,¬(a=.agg u/\b=.agg v))->aL P (eqGuard op t x y a b) ():=by
  intro a b f i w;simp only[eqGuard];cases op<;>simp only[Bool.not_true,Bool.not_false,zg,if_true,if_false]<;>
   first
    |rfl
    |(split<;>first|exact absurd ⟨rfl,rfl⟩ f|exact absurd ⟨rfl,rfl⟩ (i _ _)|rfl)
 unfold WI at h;split at h
 .rename_i k a m b;have g:=j (a:=.int k a) (b:=.int m b) (by simp) (by simp);cases op<;>simp only at h
  case shl=>exact⟨_,g.bind λw=>by simp only[binOp,Op.shift];rw[if_neg (by have:=h.1;omega)];rfl,h.2⟩
  case shr=>exact⟨_,g.bind λw=>by simp only[binOp,Op.shift];rw[if_neg (by have:=h.1;omega)];rfl,h.2⟩
  all_goals
   cases hk:Aj k m with
   |false=>rw[hk]at h;simp[PV.holds]at h
   |true=>
    rw[hk]at h;simp only[cond_true,PV.holds]at h;have e:=ED hk;subst e
    first
     |exact⟨_,g.bind λw=>by simp[binOp,Op.intArith,Op.intBits,Op.intCmp],h⟩
     |exact⟨_,g.bind λw=>by simp[binOp,Op.intDiv,h.1],h.2⟩
     |exact h.elim
 .rename_i k a m b;have g:=j (a:=.float k a) (b:=.float m b) (by simp) (by simp);cases hk:Ci k m with
  |false=>rw[hk]at h;simp[PV.holds]at h
  |true=>
   rw[hk]at h;have e:=Cj hk;subst e;cases op<;>simp only[cond_true,PV.holds]at h<;>
    first
     |(obtain⟨r,f,i⟩:=h;exact⟨_,g.bind λw=>by simp[binOp,Op.floatArith,f],i⟩)
     |exact⟨_,g.bind λw=>by simp[binOp,Op.floatCmp],h⟩
     |exact h.elim
 .rename_i a b;have g:=j (a:=.string a) (b:=.string b) (by simp) (by simp);cases op<;>simp only[PV.holds]at h<;>
   first
    |exact⟨_,g.bind λw=>by simp[binOp,Op.stringOp],h⟩
    |exact⟨_,g.bind λw=>by simp only[binOp,Op.stringOp];rw[if_neg (by have:=h.1;omega)];rfl,h.2⟩
    |exact h.elim
 .rename_i a b;have g:=j (a:=.bool a) (b:=.bool b) (by simp) (by simp);split at h
  .have n:=WK (o _ rfl);cases op<;>simp only[PV.holds]at h<;>
    first
     |exact⟨_,g.bind (by simp only[binOp,Ff];exact(ZW n _ a b).bind .pure),h⟩
     |exact h.elim
  .exact h.elim
 .rename_i a b;cases hy:YK y with
  |true=>
   rw[hy]at h;obtain⟨r,f,i⟩:=h;exact⟨_,f,i⟩
  |false=>
   rw[hy]at h;cases b with
   |some _=>exact h.elim
   |none=>
    have g:=j (a:=.pointer a) (b:=.pointer none) (by simp) (by simp);simp only[cond_false]at h;split at h
    .rename_i e;have n:=ZV (o _ rfl);cases op<;>simp only[PV.holds]at h<;>
      first
       |exact⟨_,g.bind (by simp only[binOp,Ff];exact(aaZ n _ a).bind .pure),h⟩
       |exact h.elim
    .exact h.elim
 .rename_i a l c p s;have g:=j (a:=.slice a l c) (b:=.slice none p s) (by simp) (by simp);split at h
  .rename_i e;have n:=iv (o _ rfl);cases op<;>simp only[PV.holds]at h<;>
    first
     |exact⟨_,g.bind (by simp only[binOp,Ff];exact(WL n _ a l c p s).bind .pure),h⟩
     |exact h.elim
  .exact h.elim
 .obtain⟨r,f,i⟩:=h;exact⟨_,f,i⟩
 .split at h
  .obtain⟨r,f,i⟩:=h;exact⟨_,f,i⟩
  .obtain⟨r,f,i⟩:=h;exact⟨_,f,i⟩
  .obtain⟨r,f,i⟩:=h;exact⟨_,f,i⟩
 .exact h.elim
theorem QU{t:TypeId}{d:Option ng}{op:BinOp}{a b:Value}{x y:Operand}{K:Value->Prop}(e:∀q,d=some q->ja (P.underlying t)=q)
  (h:(WJ P t x y d op a b).holds K):∃v,aL P (do eqGuard op t x y a b;binOp op t a b) v/\K v:=by
 unfold WJ at h;split at h
 .obtain⟨r,f,c⟩:=h;exact⟨_,f,c⟩
 .exact QS e h
theorem Ll(a:List Value)(off n:Nat):((a.drop off).take n).toArray=(a.toArray).extract off (off+n):=by simp
variable {e:Operand->Value}
section
variable {C:Ak} {ev:Operand->Option Value}
theorem sZ(a:C.Ok):∀{b:List Field} {ps:List (Nat×Nat)},placesOf C.T (b.map λf=>(f.offset,f.type))=some ps->
  aL C.P (b.mapM λf=>(do pure (f.offset,<-sizeOf f.type))) ps
 |[],ps,h=>by cases h;exact .pure
 |f::r,ps,h=>by
  simp only[List.map_cons,placesOf]at h;split at h
  .rename_i j d;split at h
   .rename_i e c;cases h;rw[List.mapM_cons];exact aL.bind ((eF a d).bind .pure) ((sZ a c).bind .pure)
   grind
  grind
theorem EF(b:C.Ok){t:TypeId}{j:TI}(f:C.T.get t=some j)(g:∀h,j.co≠.struct h)(c:∀n e,j.co≠.array n e)(h3:j.co≠.other)
  {a:Array Value} {off:Nat} {v:Value} (d:a[off]?=some v):aL C.P (part t a off) v:=by
 refine((kZ b f).2.2 g c h3).bind ?_;rw[d];exact .pure
theorem Lm(a:C.Ok){t:TypeId}{j:TI}(b:C.T.get t=some j)(h:(∃c,j.co=.struct c)∨∃n e,j.co=.array n e)
  {d:Array Value} {off:Nat}:aL C.P (part t d off) (.agg (d.extract off (off+j.size))):=by
 have f:aL C.P (isAgg t) true:=by
  rcases h with⟨c,h⟩|⟨n,e,h⟩
  .exact(kZ a b).1 c h
  .exact(kZ a b).2.1 n e h
 exact f.bind ((eF a b).bind .pure)
theorem Ge(J:C.Ok)(G:∀x v,ev x=some v->e x=v){o:Oper}{K:Value->Prop}(h:(Am C.P C.T o.op ev).holds K):
  ∃v,rv C.P (execOp e o) v/\K v:=by
 have M:∀t q,(C.T.get t).map (·.co)=some q->ja (C.P.underlying t)=q:=λt q h=>by
  cases F:C.T.get t with
  |none=>rw[F]at h;cases h
  |some i=>rw[F]at h;cases h;exact J.co F
 cases hop:o.op<;>rw[hop]at h<;>simp only[Am]at h<;>simp only[execOp,hop]
 case move x=>
  split at h
  .rename_i v A;rw[G _ _ A];exact⟨v,λ_=>rfl,h⟩
  .exact h.elim
 case assign x=>
  split at h
  .rename_i v A;rw[G _ _ A];exact⟨v,λ_=>rfl,h⟩
  .exact h.elim
 case pick c a b=>
  split at h
  .rename_i t x y N h2 h3;rw[G _ _ N,G _ _ h2,G _ _ h3];cases t
   .exact⟨y,λ_=>rfl,h⟩
   .exact⟨x,λ_=>rfl,h⟩
  .exact h.elim
 case nilCheck x=>
  split at h
  .rename_i p hp;obtain⟨a,rfl,B⟩:=h;rw[G _ _ hp];exact⟨_,λ_=>rfl,B⟩
  .exact h.elim
 case fieldAddr s x f=>
  split at h
  .rename_i a ha;rw[G _ _ ha];split at h
   .rename_i i F;split at h
    .rename_i fs Y;split at h
     .rename_i off t ad;split at h
      .rename_i j R;cases hz:wv j.size 0 with
       |true=>rw[hz]at h;exact h.elim
       |false=>
        rw[hz]at h;have E:=J.co F;rw[Y]at E;obtain⟨gs,hg,rfl⟩:=oD E;simp only[qP,y9]at ad;obtain⟨g,ay,ao⟩:=ad;cases ao;refine⟨_,aL.next ((aK hg).bind ?_),h⟩;have ab:gs[f]?=some g:=by simpa using ay
        simp only[ab];refine aL.bind (v:=a) .pure (aL.bind (v:=a.add g.offset) ?_ .pure);unfold fieldPlace;refine(eF J R).bind ?_;have:j.size≠0:=λe=>by rw[e]at hz;cases hz
        rw[if_neg this];exact .pure
      .exact h.elim
     .exact h.elim
    .exact h.elim
   .exact h.elim
  .exact h.elim
 case indexAddr t x ix=>
  split at h
  .rename_i k n hn;rw[G _ _ hn];split at h
   .rename_i p len cap U;rw[G _ _ U];split at h
    .rename_i i F;split at h
     .rename_i el D;split at h
      .rename_i j R;obtain⟨a,⟨rfl,h0,N⟩,B⟩:=h;have E:=J.co F;rw[D]at E;have H:=iv E;refine⟨_,aL.next ?_,B⟩;unfold Instr.indexAt;refine aL.bind (v:=(k,n)) .pure ?_;refine(aK H).bind ?_;refine aL.bind (v:=(some a,len,el)) .pure ?_;intro w;have:=eF J R w;simp only[Sem.run_bind,aK H w,Result.andThen_ok];cases hl:decide (len<=1)<;>simp[h0,N,this]
      .exact h.elim
     .exact h.elim
    .exact h.elim
   .rename_i a U;rw[G _ _ U];split at h
    .rename_i i F;split at h
     .rename_i m el D;split at h
      .rename_i j R;obtain⟨⟨h0,N⟩,B⟩:=h;have E:=J.co F;rw[D]at E;have H:=rx E;refine⟨_,aL.next ?_,B⟩;unfold Instr.indexAt;refine aL.bind (v:=(k,n)) .pure ?_;refine(aK H).bind ?_;refine aL.bind (v:=(some a,m,el)) .pure ?_;intro w;have:=eF J R w;simp only[Sem.run_bind,aK H w,Result.andThen_ok];cases hl:decide (m<=1)<;>simp[h0,N,this]
      .exact h.elim
     .exact h.elim
    .exact h.elim
   .exact h.elim
  .exact h.elim
 case index t x ix=>
  split at h
  .rename_i k n hn;rw[G _ _ hn];split at h
   .rename_i s U;rw[G _ _ U];split at h
    .rename_i i F;split at h
     .rename_i D;obtain⟨b,⟨h0,N⟩,B⟩:=h;have E:=J.co F;rw[D]at E;have H:=sP E;refine⟨_,aL.next ?_,B⟩;unfold Instr.index;refine aL.bind (v:=(k,n)) .pure ?_;refine(aK H).bind ?_;have hb:s[n.toNat]?=some b:=by rw[Array.getElem?_eq_some_iff]at N;obtain⟨bl,hg⟩:=N;have a5:n.toNat<s.size:=bl;rw[getElem?_pos s n.toNat a5];exact congrArg some hg
      simp only[h0,if_true,hb];exact .pure
     .exact h.elim
    .exact h.elim
   .rename_i cs U;rw[G _ _ U];split at h
    .rename_i i F;split at h
     .rename_i m el D;split at h
      .rename_i j R;split at h
       .rename_i s hs;have E:=J.co F;rw[D]at E;have H:=rx E;have ah:(∃y,(0<=n/\n<(m:Int)/\cs[n.toNat]?=some (s.enc y))/\K (s.enc y))->(∀fs,j.co≠.struct fs)->(∀n e,j.co≠.array n e)->j.co≠.other->j.size=1->
          ∃v,rv C.P (do pure (.value (<-Instr.index t (.agg cs) (.int k n)))) v/\K v:=by
         rintro⟨y,⟨h0,N,h2⟩,B⟩ d1 d2 d3 a7;refine⟨_,aL.next ?_,B⟩;unfold Instr.index;refine aL.bind (v:=(k,n)) .pure ?_;refine(aK H).bind ?_;simp only[h0,N,and_self,if_true];refine(eF J R).bind ?_;rw[a7,Nat.mul_one];exact EF J R d1 d2 d3 h2
        split at h
        .exact h.elim
        .exact h.elim
        .exact h.elim
        .rename_i d1 d2 d3;cases hz:wv j.size 1 with
         |false=>rw[hz]at h;exact h.elim
         |true=>
          rw[hz]at h;exact ah h d1 d2 d3 (zy hz)
       .exact h.elim
      .exact h.elim
     .exact h.elim
    .exact h.elim
   .exact h.elim
  .exact h.elim
 case field s x f=>
  split at h
  .rename_i cs U;rw[G _ _ U];split at h
   .rename_i i F;split at h
    .rename_i fs Y;split at h
     .rename_i off t ad;split at h
      .rename_i j R;have E:=J.co F;rw[Y]at E;obtain⟨gs,hg,rfl⟩:=oD E;simp only[qP,y9]at ad;obtain⟨g,ay,ao⟩:=ad;cases ao;have ab:gs[f]?=some g:=by simpa using ay
       have ah:∀v,aL C.P (part g.type ⟨cs⟩ g.offset) v->K v->∃v,rv C.P (do pure (.value (<-Instr.field s (.agg ⟨cs⟩) f))) v/\K v:=by intro v A B;refine⟨v,aL.next ((aK hg).bind ?_),B⟩;simp only[ab];exact aL.bind (v:=(⟨cs⟩:Array Value)) .pure A
       split at h
       .rename_i br ax;refine ah _ (Lm J R (.inl ⟨_,ax⟩)) ?_;rw[<-Ll];exact h
       .rename_i n' e' ax;refine ah _ (Lm J R (.inr ⟨_,_,ax⟩)) ?_;rw[<-Ll];exact h
       .exact h.elim
       .rename_i d1 d2 d3;split at h
        .rename_i v A;exact ah v (EF J R d1 d2 d3 (by simpa using A)) h
        .exact h.elim
      .exact h.elim
     .exact h.elim
    .exact h.elim
   .exact h.elim
  .exact h.elim
 case slice t x W hi0 mx=>
  split at h
  .exact h.elim
  .split at h
   .rename_i l r hl hr;have a0:(W=none/\l=none)∨∃y k m,W=some y/\e y=.int k m/\l=some m:=by
     cases W with
     |none=>cases hl;exact .inl ⟨rfl,rfl⟩
     |some y=>
      simp only[Gc]at hl;split at hl
      .rename_i k m hm;cases hl;exact .inr ⟨y,k,m,rfl,G _ _ hm,rfl⟩
      .cases hl
    have ap:(hi0=none/\r=none)∨∃y k m,hi0=some y/\e y=.int k m/\r=some m:=by
     cases hi0 with
     |none=>cases hr;exact .inl ⟨rfl,rfl⟩
     |some y=>
      simp only[Gc]at hr;split at hr
      .rename_i k m hm;cases hr;exact .inr ⟨y,k,m,rfl,G _ _ hm,rfl⟩
      .cases hr
    have I:∀(bb:Bool) (len cap:Nat) (W F:Option Value) (a b:Nat),(W=none->a=0)->(∀v,W=some v->∃k m,v=.int k m/\0<=m/\a=m.toNat/\m<=(b:Int))->
      (F=none->b=len)->(∀v,F=some v->∃k m,v=.int k m/\0<=m/\b=m.toNat/\m<=(cap:Int))->
      aL C.P (we bb len cap W F none) (a,b,cap):=by
     intro bb len cap W F a b N h2 h3 h4 w;cases F with
     |none=>
      have e1:=h3 rfl;subst e1;cases W with
      |none=>rw[N rfl];simp[we]
      |some v=>
       obtain⟨k,m,rfl,x1,rfl,x2⟩:=h2 v rfl;simp[we,vB,asIntOf,x1,x2]
     |some u=>
      obtain⟨k',V,rfl,y1,rfl,y2⟩:=h4 u rfl;cases W with
      |none=>rw[N rfl];simp[we,vB,asIntOf,y1,y2]
      |some v=>
       obtain⟨k,m,rfl,x1,rfl,x2⟩:=h2 v rfl;have x3:¬max V 0<m:=by omega
       simp[we,vB,asIntOf,x1,y1,y2,x3]
    split at h
    .rename_i p len cap U;rw[G _ _ U];split at h
     .rename_i i F;split at h
      .rename_i el D;split at h
       .rename_i j R;have E:=J.co F;rw[D]at E;have H:=iv E;have fin:∀(a b:Nat) (v:Value),aL C.P (we true len cap (W.map e) (hi0.map e) none) (a,b,cap)->
          v=.slice (if cap=a then p else p.map (·.add (a*j.size))) (b-a) (cap-a)->K v->
          ∃v,rv C.P (do pure (.value (<-ye t (.slice p len cap) (W.map e) (hi0.map e) (Option.map e none)))) v/\K v:=by
         intro a b v hb A B;refine⟨v,aL.next ?_,B⟩;unfold ye;refine(aK H).bind ?_;simp only[xO,Option.map_none];refine(aK H).bind ?_;refine hb.bind ?_;subst A;exact(eF J R).bind .pure
        have al:(if cap=0 then p else p.map (·.add (0*j.size)))=p:=by
         cases p<;>simp[Addr.add]
        rcases a0 with⟨rfl,rfl⟩|⟨y,k,m,rfl,hy,rfl⟩<;>rcases ap with⟨rfl,rfl⟩|⟨y',k',V,rfl,hy',rfl⟩
        .exact fin 0 len _ (I _ _ _ _ _ _ _ (λ_=>rfl) (by simp) (λ_=>rfl) (by simp)) (by rw[al];rfl) h
        .obtain⟨⟨S,Z⟩,B⟩:=h;exact fin 0 V.toNat _ (I _ _ _ _ _ _ _ (λ_=>rfl) (by simp) (by simp) λv A=>by cases A;exact⟨k',V,hy',S,rfl,Z⟩) (by rw[al];rfl) B
        .obtain⟨⟨S,Z⟩,B⟩:=h;exact fin m.toNat len _ (I _ _ _ _ _ _ _ (by simp) (λv A=>by cases A;exact⟨k,m,hy,S,rfl,Z⟩) (λ_=>rfl) (by simp)) rfl B
        .obtain⟨⟨S,Z,a3⟩,B⟩:=h;exact fin m.toNat V.toNat _ (I _ _ _ _ _ _ _ (by simp) (λv A=>by cases A;exact⟨k,m,hy,S,rfl,by omega⟩) (by simp) λv A=>by cases A;exact⟨k',V,hy',by omega,rfl,a3⟩) rfl B
       .exact h.elim
      .exact h.elim
     .exact h.elim
    .rename_i s U;rw[G _ _ U];split at h
     .rename_i i F;split at h
      .rename_i D;have E:=J.co F;rw[D]at E;have H:=sP E;have fin:∀(a b:Nat) (v:Value),aL C.P (we false s.size s.size (W.map e) (hi0.map e) none) (a,b,s.size)->
         v=.string (s.extract a b)->K v->
         ∃v,rv C.P (do pure (.value (<-ye t (.string s) (W.map e) (hi0.map e) (Option.map e none)))) v/\K v:=by
        intro a b v hb A B;refine⟨v,aL.next ?_,B⟩;unfold ye;refine(aK H).bind ?_;simp only[xO,Option.map_none];refine(aK H).bind ?_;subst A;intro w;simp[hb w]
       rcases a0 with⟨rfl,rfl⟩|⟨y,k,m,rfl,hy,rfl⟩<;>rcases ap with⟨rfl,rfl⟩|⟨y',k',V,rfl,hy',rfl⟩
       .exact fin 0 s.size _ (I _ _ _ _ _ _ _ (λ_=>rfl) (by simp) (λ_=>rfl) (by simp)) rfl h
       .obtain⟨⟨S,Z⟩,B⟩:=h;exact fin 0 V.toNat _ (I _ _ _ _ _ _ _ (λ_=>rfl) (by simp) (by simp) λv A=>by cases A;exact⟨k',V,hy',S,rfl,Z⟩) rfl B
       .obtain⟨⟨S,Z⟩,B⟩:=h;exact fin m.toNat s.size _ (I _ _ _ _ _ _ _ (by simp) (λv A=>by cases A;exact⟨k,m,hy,S,rfl,Z⟩) (λ_=>rfl) (by simp)) rfl B
       .obtain⟨⟨S,Z,a3⟩,B⟩:=h;exact fin m.toNat V.toNat _ (I _ _ _ _ _ _ _ (by simp) (λv A=>by cases A;exact⟨k,m,hy,S,rfl,by omega⟩) (by simp) λv A=>by cases A;exact⟨k',V,hy',by omega,rfl,a3⟩) rfl B
      .exact h.elim
     .exact h.elim
    .rename_i a U;rw[G _ _ U];split at h
     .rename_i i F;split at h
      .rename_i n el D;split at h
       .rename_i j R;have E:=J.co F;rw[D]at E;have H:=rx E;have fin:∀(a' b:Nat) (v:Value),aL C.P (we false n n (W.map e) (hi0.map e) none) (a',b,n)->
          v=.slice (some (if n=a' then a else a.add (a'*j.size))) (b-a') (n-a')->K v->
          ∃v,rv C.P (do pure (.value (<-ye t (.pointer (some a)) (W.map e) (hi0.map e) (Option.map e none)))) v/\K v:=by
         intro a' b v hb A B;refine⟨v,aL.next ?_,B⟩;unfold ye;refine(aK H).bind ?_;simp only[Option.map_none];refine aL.bind (v:=a) .pure ?_;refine hb.bind ?_;subst A;exact(eF J R).bind .pure
        have al:(if n=0 then a else a.add (0*j.size))=a:=by simp[Addr.add]
        rcases a0 with⟨rfl,rfl⟩|⟨y,k,m,rfl,hy,rfl⟩<;>rcases ap with⟨rfl,rfl⟩|⟨y',k',V,rfl,hy',rfl⟩
        .exact fin 0 n _ (I _ _ _ _ _ _ _ (λ_=>rfl) (by simp) (λ_=>rfl) (by simp)) (by rw[al];rfl) h
        .obtain⟨⟨S,Z⟩,B⟩:=h;exact fin 0 V.toNat _ (I _ _ _ _ _ _ _ (λ_=>rfl) (by simp) (by simp) λv A=>by cases A;exact⟨k',V,hy',S,rfl,Z⟩) (by rw[al];rfl) B
        .obtain⟨⟨S,Z⟩,B⟩:=h;exact fin m.toNat n _ (I _ _ _ _ _ _ _ (by simp) (λv A=>by cases A;exact⟨k,m,hy,S,rfl,Z⟩) (λ_=>rfl) (by simp)) rfl B
        .obtain⟨⟨S,Z,a3⟩,B⟩:=h;exact fin m.toNat V.toNat _ (I _ _ _ _ _ _ _ (by simp) (λv A=>by cases A;exact⟨k,m,hy,S,rfl,by omega⟩) (by simp) λv A=>by cases A;exact⟨k',V,hy',by omega,rfl,a3⟩) rfl B
       .exact h.elim
      .exact h.elim
     .exact h.elim
    .exact h.elim
   .exact h.elim
 case extract x n=>
  split at h
  .rename_i vs U;rw[G _ _ U];split at h
   .rename_i v A;refine⟨v,aL.next ?_,h⟩;have:(⟨vs⟩:Array Value)[n]?=some v:=by simpa using A
    simp only[Instr.extract,this];exact .pure
   .exact h.elim
  .exact h.elim
 case binOp op t x y u=>
  split at h
  .rename_i a b ha hb;rw[G _ _ ha,G _ _ hb];obtain⟨v,A,B⟩:=QU (P:=C.P) (x:=x) (y:=y) (M t) h;exact⟨v,A.next,B⟩
  .exact h.elim
 case unOp op t x=>
  split at h
  .rename_i v A;rw[G _ _ A];unfold unV at h;split at h
   .split at h
    .exact⟨_,aL.next .pure,h⟩
    .exact h.elim
   .split at h
    .exact⟨_,aL.next .pure,h⟩
    .exact⟨_,aL.next .pure,h⟩
    .exact h.elim
   .exact h.elim
  .exact h.elim
 case convert s d x=>
  split at h
  .rename_i v ks A a9;rw[G _ _ A];have hs:=DT (M _ _ a9);unfold YL at h;split at h
   .split at h
    .rename_i n _ k B;have H:=DT (M _ _ B);refine⟨_,aL.next ?_,h⟩;unfold convert;refine(aK hs).bind ((aK H).bind ?_);exact .pure
    .exact h.elim
   .exact h.elim
  .exact h.elim
 case build t parts=>
  split at h
  .rename_i vs bk;have hp:(parts.map λ(i,x)=>(i,e x)).toList=vs:=by have:=EE G bk;simpa using this
   split at h
   .rename_i i F;obtain⟨z,hz,bq⟩:=pY J F;have am:i.zero.toArray=z.cells:=by rw[<-bq]
    cases hbig:xt 24 i.size with
    |true=>
     rw[hbig]at h;obtain⟨v,A,B⟩:=h;have a8:(parts.map λ(i,x)=>(i,e x))=vs.toArray:=by rw[<-hp]
     refine⟨v,aL.next ?_,B⟩;show aL C.P (xy t (parts.map λ(i,x)=>(i,e x))) v;rw[a8];exact A
    |false=>
    rw[hbig]at h;simp only[cond_false]at h;split at h
    .rename_i fs Y;have E:=J.co F;rw[Y]at E;obtain⟨gs,hg,rfl⟩:=oD E;split at h
     .rename_i ps bd;split at h
      .rename_i cells Q;refine⟨_,aL.next (hz.bind ((aK hg).bind ?_)),h⟩;have a6:aL C.P (gs.mapM λf=>(do pure (f.offset,<-sizeOf f.type):Sem (Nat×Nat))) ps.toArray:=by rw[vG];intro w;have:=sZ J bd w;rw[map_eq_pure_bind,Sem.run_bind,this];rfl
       refine a6.bind ?_;have a4:wC (λn=>ps.toArray[n]?) z.cells (parts.map λ(i,x)=>(i,e x)).toList=some cells:=by rw[hp,<-am];simpa using Q
       rw[a4];exact .pure
      .exact h.elim
     .exact h.elim
    .rename_i n el Y;have E:=J.co F;rw[Y]at E;have H:=rx E;split at h
     .rename_i j R;split at h
      .rename_i cells Q;refine⟨_,aL.next (hz.bind ((aK H).bind ((eF J R).bind ?_))),h⟩;have a4:wC (λi=>some (i*j.size,j.size)) z.cells (parts.map λ(i,x)=>(i,e x)).toList=some cells:=by rw[hp,<-am];exact Q
       rw[a4];exact .pure
      .exact h.elim
     .exact h.elim
    .exact h.elim
   .exact h.elim
  .exact h.elim
 case makeFunc fn first captured=>
  split at h
  .rename_i a b ha hb;have N:first.map e=a.toArray:=by apply vt;simpa using AN G ha
   have h2:captured.map e=b.toArray:=by apply vt;simpa using AN G hb
   refine⟨_,aL.next ?_,h⟩;rw[N,h2];exact .pure
  .exact h.elim
 case call c=>
  split at h
  .rename_i b hb;have L:∀{v:Value},aL C.P (builtin b c.argTypes o.type (c.args.map λ| .const _=>true|_=>false) (c.args.map e)) (.value v)->
     rv C.P (do let d<-resolve e c o.type;invoke d.target d.args) v:=by
    intro v A w;have:=A w;unfold resolve;rw[hb];exact this
   have O:∀{vs:List Value},pq ev c.args.toList=some vs->c.args.map e=vs.toArray:=λA=>by
    apply vt;simpa using AN G A
   have X:∀{s:Sem Value} {v:Value},aL C.P s v->aL C.P (do pure (Next.value (<-s))) (.value v):=λhs=>hs.bind .pure;split at h
   case h_1=>
    split at h
    .rename_i t ts x N h2;split at h
     .rename_i v A;have ha:c.args.map e=#[v]:=by apply vt;rw[xm,h2];simp[G _ _ A]
      have ht:c.argTypes[0]?=some t:=by rw[<-vm,N];rfl
      unfold aaX at h;split at h
      .rename_i p n cap;split at h
       .rename_i el D;have H:=iv (M _ _ D);refine⟨_,L ?_,h⟩;rw[ha];refine X ?_;intro w;simp[xL,ht,underlying,H,goInt]
       .exact h.elim
      .rename_i s;split at h
       .rename_i D;have H:=sP (M _ _ D);refine⟨_,L ?_,h⟩;rw[ha];refine X ?_;intro w;simp[xL,ht,underlying,H,goInt]
       .exact h.elim
      .exact h.elim
     .exact h.elim
    .exact h.elim
   case h_2=>
    split at h
    .rename_i t ts x N h2;split at h
     .rename_i v A;have ha:c.args.map e=#[v]:=by apply vt;rw[xm,h2];simp[G _ _ A]
      have ht:c.argTypes[0]?=some t:=by rw[<-vm,N];rfl
      unfold aaY at h;split at h
      .rename_i p n cap;split at h
       .rename_i el D;have H:=iv (M _ _ D);refine⟨_,L ?_,h⟩;rw[ha];refine X ?_;intro w;simp[Builtin.cap_,ht,underlying,H,goInt]
       .exact h.elim
      .exact h.elim
     .exact h.elim
    .exact h.elim
   case h_3=>
    split at h
    .rename_i k a k' b A;refine⟨_,L ?_,h⟩;rw[O A];refine X ?_;intro w;simp[Builtin.min_,Builtin.min2]
    .exact h.elim
   case h_4=>
    split at h
    .rename_i k a k' b A;refine⟨_,L ?_,h⟩;rw[O A];refine X ?_;intro w;simp[Builtin.max_,Builtin.max2]
    .exact h.elim
   case h_5=>
    split at h
    .rename_i k a b A;refine⟨_,L ?_,h⟩;rw[O A];exact X .pure
    .exact h.elim
   case h_6=>
    split at h
    .rename_i k a b A;refine⟨_,L ?_,h⟩;rw[O A];exact X .pure
    .exact h.elim
   all_goals exact h.elim
  .exact h.elim
 all_goals exact h.elim
end
def bA(h:Heap)(a:Addr):Nat->List Value->Prop
 |_,[]=>True
 |n,v::r=>cellOf h (a.add n)=some v/\bA h a (n+1) r
structure uw where
 a:Addr
 ty:Ty
 n:Nat
def uw.holds(r:uw)(h:Heap)(y:r.ty.den):Prop:=
 match r.ty,y with
 | .sc s,y=>cellOf h r.a=some (s.enc y)
 | .agg l,y=>bA h r.a 0 (nM l y)
 | .arr s,y=>y.length=r.n/\bA h r.a 0 (y.map s.enc)
def ta(T:km)(op:Op)(ev:Operand->Option Value):Option uw:=
 match op with
 | .load t x=>match ev x with
  |some (.pointer (some a))=>match T.get t with
   |some i=>match i.co with
    | .struct _=>match i.ty with
     | .agg l=>bif wv l.length i.size then some ⟨a,i.ty,i.size⟩else none
     |_=>none
    | .array _ _=>match i.ty with
     | .arr _=>some ⟨a,i.ty,i.size⟩
     |_=>none
    | .other=>none
    |_=>match i.ty with
     | .sc _=>some ⟨a,i.ty,1⟩
     |_=>none
   |none=>none
  |_=>none
 |_=>none
theorem EG:∀(l:List Sc) (x:uX l),(nM l x).length=l.length
 |[],_=>rfl
 |[_],_=>rfl
 |_::t::r,x=>by simp only[zc];rw[EG (t::r) x.2];rfl
theorem run_loadCells{P:Program}{w:World}{a:Addr}:∀(vs:List Value) (i:Nat) (b:Array Value),bA w.heap a i vs->
  (loadCellsFrom a i vs.length b).run P w=.ok (b++vs.toArray) w
 |[],i,b,_=>rfl
 |v::r,i,b,h=>by
  simp only[zc,loadCellsFrom,Sem.run_bind,run_load,Ih,h.1,Result.andThen_ok];rw[run_loadCells r (i+1) (b.push v) h.2];simp
theorem AO{C:Ak}(m:C.Ok){ev:Operand->Option Value}{e:Operand->Value}(A:∀x v,ev x=some v->e x=v){o:Oper}{r:uw}
  (b:ta C.T o.op ev=some r) {y:r.ty.den} {w:World} (d:r.holds w.heap y):(execOp e o).run C.P w=.ok (.value (r.ty.enc y)) w:=by
 unfold ta at b;split at b
 .rename_i t x u;simp only[execOp,u];split at b
  .rename_i a G;rw[A _ _ G];split at b
   .rename_i i p;have g:(∀v,(loadVar t a).run C.P w=.ok v w->(do let s<-xF t (.pointer (some a));pure (Next.value s):Sem Next).run C.P w=.ok (.value v) w):=by intro v F;have:xF t (.pointer (some a))=loadVar t a:=rfl;rw[this,Sem.run_bind,F];rfl
    split at b
    .rename_i H f;split at b
     .rename_i l h;cases hb:wv l.length i.size with
      |false=>rw[hb]at b;cases b
      |true=>
       rw[hb]at b;simp only[cond_true,wm.injEq]at b;subst b;have j:=zy hb;have c:∀(ty:Ty) (y:ty.den),ty=.agg l->uw.holds ⟨a,ty,i.size⟩ w.heap y->(loadVar t a).run C.P w=.ok (ty.enc y) w:=by rintro ty y rfl d;unfold loadVar;rw[Sem.run_bind,(kZ m p).1 H f w];simp only[Result.andThen_ok,if_true,Sem.run_bind,eF m p w];have k:=run_loadCells (P:=C.P) (w:=w) (a:=a) (nM l y) 0 #[] d;rw[EG,j]at k;unfold loadCells;rw[k];simp
       exact g _ (c i.ty y h d)
     .cases b
    .rename_i n E f;split at b
     .rename_i s h;cases b;have c:∀(ty:Ty) (y:ty.den),ty=.arr s->uw.holds ⟨a,ty,i.size⟩ w.heap y->(loadVar t a).run C.P w=.ok (ty.enc y) w:=by rintro ty y rfl ⟨h,d⟩;unfold loadVar;rw[Sem.run_bind,(kZ m p).2.1 n E f w];simp only[Result.andThen_ok,if_true,Sem.run_bind,eF m p w];have k:=run_loadCells (P:=C.P) (w:=w) (a:=a) (y.map s.enc) 0 #[] d;rw[List.length_map,h]at k;unfold loadCells;rw[k];simp
      exact g _ (c i.ty y h d)
     .cases b
    .cases b
    .rename_i D B z;split at b
     .rename_i s h;cases b;have c:∀(ty:Ty) (y:ty.den),ty=.sc s->uw.holds ⟨a,ty,1⟩ w.heap y->(loadVar t a).run C.P w=.ok (ty.enc y) w:=by rintro ty y rfl d;have q:cellOf w.heap a=some (s.enc y):=d;unfold loadVar;rw[Sem.run_bind,(kZ m p).2.2 D B z w];simp[Ih,q]
      exact g _ (c i.ty y h d)
     .cases b
   .cases b
  .cases b
 .cases b
def Typed(t:Ty)(K:Value->Heap->Prop)(v:Value)(h:Heap):Prop:=∃x:t.den,v=t.enc x/\K (t.enc x) h
def Cl(t:Rt)(K:Value->Heap->Prop)(v:Value)(h:Heap):Prop:=∃x:t.den,v=t.enc x/\K (t.enc x) h
def Cm(K:Value->Heap->Prop)(v:Value)(h:Heap):Prop:=∃a:Addr,v=.pointer (some a)/\K (.pointer (some a)) h
def QV(K:Value->Heap->Prop)(v:Value)(h:Heap):Prop:=∃(b:Bool) (r:List Value),v=.tuple ⟨.bool b::r⟩/\K (.tuple ⟨.bool b::r⟩) h
def aba(T:km)(t:TypeId)(tup:List (TypeId×List Ty)):Option Rt:=
 match tup.find? (λp=>wv p.1 t)with
 |some p=>some (.many p.2)
 |none=>match T.get t with
  |some i=>some (.one i.ty)
  |none=>none
structure Ctx extends Ak where
 tup:List (TypeId×List Ty)
 fns:List Bool
structure Ctx.Ok (C:Ctx):Prop extends Ak.Ok C.toAk where
 fns:(C.P.funcs.toList.map λf=>!(f.name== "runtime.NumGoroutine")&&f.body.isSome)=C.fns
def QW(C:Ctx)(g:FuncId)(args:List Value)(t:TypeId)(K:Value->Heap->Prop)(h:Heap):Prop:=
 match C.fns[g]? with
 |some true=>match aba C.T t C.tup with
  |some r=>an C.P g args.toArray h (Cl r K)
  |none=>False
 |_=>False
def Gg(C:Ctx)(o:Oper)(ev:Operand->Option Value)(K:Value->Heap->Prop)(h:Heap):Prop:=
 match o.op with
 | .store t a x=>match ev a,ev x with
  |some p,some v=>av C.P (qL t p v) h λ_ h'=>K undef h'
  |_,_=>False
 | .alloc t=>av C.P (y8 t true (.tuple #[])) h (Cm K)
 | .box t x=>match ev x with
  |some v=>av C.P (xn t v) h (Cm K)
  |none=>False
 | .makeSlice t l c=>match ev l,ev c with
  |some l,some c=>av C.P (zF t l c) h (Typed (.sc .slc) K)
  |_,_=>False
 | .buildSlice t n parts=>match Ck ev parts.toList with
  |some ps=>av C.P (zJ t n ps.toArray) h (Typed (.sc .slc) K)
  |none=>False
 | .makeMap t none=>av C.P (Instr.makeMap t none) h (Typed (.sc .mp) K)
 | .lookup t x ix ok=>match ev x,ev ix,aba C.T o.type C.tup with
  |some m,some k,some r=>av C.P (Instr.lookup t m k ok) h (Cl r K)
  |_,_,_=>False
 | .mapUpdate t m k x=>match ev m,ev k,ev x with
  |some m,some k,some v=>av C.P (xA t m k v) h λ_ h'=>K undef h'
  |_,_,_=>False
 | .insert t m k x=>match ev m,ev k,ev x with
  |some m,some k,some v=>av C.P (xA t m k v) h λ_ h'=>K undef h'
  |_,_,_=>False
 | .range t x=>match ev x with
  |some m=>av C.P (Instr.range t m) h (Cm K)
  |none=>False
 | .next it s=>match ev it with
  |some i=>av C.P (Instr.next i s o.type) h (QV K)
  |none=>False
 | .entry it=>match ev it with
  |some i=>av C.P (Instr.entry i) h (Cl (.many [.sc .str,.sc .slc]) K)
  |none=>False
 | .convert s d x=>match ev x,C.T.get o.type with
  |some v,some i=>av C.P (convert s d v) h (Typed i.ty K)
  |_,_=>False
 | .binOp op t x y _=>match ev x,ev y,C.T.get o.type with
  |some a,some b,some i=>av C.P (do eqGuard op t x y a b;binOp op t a b) h (Typed i.ty K)
  |some a,some b,none=>av C.P (do eqGuard op t x y a b;binOp op t a b) h (Typed (.sc .bool) K)
  |_,_,_=>False
 | .slice t x lo hi mx=>match optVal ev lo,optVal ev hi,optVal ev mx,ev x with
  |some l,some r,some m,some v=>av C.P (ye t v l r m) h (Typed (.sc .slc) K)
  |_,_,_,_=>False
 | .call c=>match c.callee with
  | .builtin .append=>match pq ev c.args.toList with
   |some vs=>av C.P (zb c.argTypes o.type vs.toArray) h (Typed (.sc .slc) K)
   |none=>False
  | .builtin .copy=>match pq ev c.args.toList with
   |some vs=>av C.P (yU c.argTypes o.type vs.toArray) h (Typed (.sc (.int .i64)) K)
   |none=>False
  | .builtin .clear=>match pq ev c.args.toList with
   |some vs=>av C.P (vV c.argTypes o.type vs.toArray) h K
   |none=>False
  | .builtin .len=>match pq ev c.args.toList with
   |some vs=>av C.P (xL c.argTypes o.type vs.toArray) h (Typed (.sc (.int .i64)) K)
   |none=>False
  | .builtin .unsafeString=>match pq ev c.args.toList with
   |some vs=>av C.P (Builtin.unsafeString_ c.argTypes o.type vs.toArray) h (Typed (.sc .str) K)
   |none=>False
  | .builtin .delete=>match pq ev c.args.toList with
   |some vs=>av C.P (Builtin.delete_ c.argTypes o.type vs.toArray) h K
   |none=>False
  | .value f=>match ev f,pq ev c.args.toList with
   |some (.func (.func g) ⟨first⟩ ⟨caps⟩),some vs=>QW C g (first++vs++caps) o.type K h
   |_,_=>False
  |_=>False
 |_=>False
where
 optVal (ev:Operand->Option Value):Option Operand->Option (Option Value)
  |none=>some none
  |some x=>match ev x with
   |some v=>some (some v)
   |none=>none
variable {K:Value->Heap->Prop}
theorem fg{s:Sem Value}(a:av P s h K):Ai P (do pure (.value (<-s))) h K:=
 av.bind (a.mono λ_ _ b=>av.pure' b)
theorem Fg{s:Sem Unit}(a:av P s h λ_ h'=>K undef h'):Ai P (do s;pure .skip) h K:=
 av.bind (a.mono λ_ _ b=>av.pure' b)
theorem Typed.out{t:Ty}{v:Value}{h:Heap}(x:Typed t K v h):K v h:=by obtain⟨y,rfl,a⟩:=x;exact a
theorem Cl.out{t:Rt}{v:Value}{h:Heap}(x:Cl t K v h):K v h:=by obtain⟨y,rfl,a⟩:=x;exact a
theorem QV.out{v:Value}{h:Heap}(x:QV K v h):K v h:=by obtain⟨b,r,rfl,a⟩:=x;exact a
theorem Cm.out{v:Value}{h:Heap}(x:Cm K v h):K v h:=by obtain⟨y,rfl,a⟩:=x;exact a
theorem Ob{C:Ctx}(e:C.Ok){g:FuncId}{args:List Value}{t:TypeId}{K:Value->Heap->Prop}{h:Heap}(b:QW C g args t K h):
  Ai C.P (callFunc g args.toArray) h K:=by
 unfold QW at b;split at b
 .rename_i d;split at b
  .have a:=congrArg (·[g]?) e.fns;simp only[qP,d]at a;cases hf:C.P.funcs.toList[g]? with
   |none=>grind
   |some fn=>
    rw[hf]at a;simp only[zp,wm.injEq,qC,Bool.not_eq_true']at a;have c:C.P.funcs[g]?=some fn:=by grind
    have f:fn.body.isNone=false:=by cases hbb:fn.body<;>simp[hbb]at a⊢
    refine av.bind (av.WF ?_);simp only[c,a.1,f];exact av.pure' (b.mono λv h' x=>x.out)
  grind
 grind
theorem QX{C:Ctx}(T:C.Ok){ev:Operand->Option Value}{e:Operand->Value}(A:∀x v,ev x=some v->e x=v){o:Oper}
  {K:Value->Heap->Prop} {h:Heap} (j:Gg C o ev K h):Ai C.P (execOp e o) h K:=by
 have H:∀{x:Option Operand} {r:Option Value},Gg.optVal ev x=some r->x.map e=r:=by
  intro x r I;cases x with
  |none=>cases I;rfl
  |some y=>
   simp only[Gg.optVal]at I;split at I
   .rename_i v B;cases I;rw[zp,A _ _ B]
   .cases I
 unfold Gg at j;split at j
 .rename_i t a x q;simp only[execOp,q];split at j
  .rename_i p v Z B;rw[A _ _ Z,A _ _ B];exact Fg j
  .exact j.elim
 .rename_i t q;simp only[execOp,q];exact fg (j.mono λ_ _ x=>x.out)
 .rename_i t x q;simp only[execOp,q];split at j
  .rename_i v B;rw[A _ _ B];exact fg (j.mono λ_ _ x=>x.out)
  .exact j.elim
 .rename_i t l c q;simp only[execOp,q];split at j
  .rename_i v u B Y;rw[A _ _ B,A _ _ Y];exact fg (j.mono λ_ _ x=>x.out)
  .exact j.elim
 .rename_i t n parts q;simp only[execOp,q];split at j
  .rename_i ps M;have:(parts.map λ(i,x)=>(i,e x))=ps.toArray:=by apply vt;have:=EE A M;simpa using this
   rw[this];exact fg (j.mono λ_ _ x=>x.out)
  .exact j.elim
 .rename_i t q;simp only[execOp,q];exact fg (j.mono λ_ _ x=>x.out)
 .rename_i t x ix ok q;simp only[execOp,q];split at j
  .rename_i m k r E F R;rw[A _ _ E,A _ _ F];exact fg (j.mono λ_ _ x=>x.out)
  .exact j.elim
 .rename_i t m k x q;simp only[execOp,q];split at j
  .rename_i W X v E F B;rw[A _ _ E,A _ _ F,A _ _ B];exact Fg j
  .exact j.elim
 .rename_i t m k x q;simp only[execOp,q];split at j
  .rename_i W X v E F B;rw[A _ _ E,A _ _ F,A _ _ B];exact Fg j
  .exact j.elim
 .rename_i t x q;simp only[execOp,q];split at j
  .rename_i m E;rw[A _ _ E];exact fg (j.mono λ_ _ x=>x.out)
  .exact j.elim
 .rename_i S s q;simp only[execOp,q];split at j
  .rename_i m E;rw[A _ _ E];exact fg (j.mono λ_ _ x=>x.out)
  .exact j.elim
 .rename_i S q;simp only[execOp,q];split at j
  .rename_i m E;rw[A _ _ E];exact fg (j.mono λ_ _ x=>x.out)
  .exact j.elim
 .rename_i s d x q;simp only[execOp,q];split at j
  .rename_i v i B O;rw[A _ _ B];exact fg (j.mono λ_ _ x=>x.out)
  .exact j.elim
 .rename_i op t x y u q;simp only[execOp,q];split at j
  .rename_i a b i Q N O;rw[A _ _ Q,A _ _ N];exact fg (j.mono λ_ _ x=>x.out)
  .rename_i a b Q N O;rw[A _ _ Q,A _ _ N];exact fg (j.mono λ_ _ x=>x.out)
  .exact j.elim
 .rename_i t x lo O mx q;simp only[execOp,q];split at j
  .rename_i l r m v U R E B;rw[H U,H R,H E,A _ _ B];exact fg (j.mono λ_ _ x=>x.out)
  .exact j.elim
 .rename_i c q;simp only[execOp,q];have w:∀{vs:List Value},pq ev c.args.toList=some vs->c.args.map e=vs.toArray:=λB=>by
   apply vt;simpa using AN A B
  split at j
  .rename_i D;split at j
   .rename_i vs z;unfold resolve;rw[D,w z];exact fg (j.mono λ_ _ x=>x.out)
   .exact j.elim
  .rename_i D;split at j
   .rename_i vs z;unfold resolve;rw[D,w z];exact fg (j.mono λ_ _ x=>x.out)
   .exact j.elim
  .rename_i D;split at j
   .rename_i vs z;unfold resolve;rw[D,w z];exact fg j
   .exact j.elim
  .rename_i D;split at j
   .rename_i vs z;unfold resolve;rw[D,w z];exact fg (j.mono λ_ _ x=>x.out)
   .exact j.elim
  .rename_i D;split at j
   .rename_i vs z;unfold resolve;rw[D,w z];exact fg (j.mono λ_ _ x=>x.out)
   .exact j.elim
  .rename_i D;split at j
   .rename_i vs z;unfold resolve;rw[D,w z];exact fg j
   .exact j.elim
  .rename_i f D;split at j
   .rename_i g first G vs V z
    unfold resolve;rw[D,w z];simp only[A _ _ V];have:=Ob T j;have J:(⟨first⟩:Array Value)++vs.toArray++(⟨G⟩:Array Value)=(first++vs++G).toArray:=by simp
    have L:Ai C.P (callFunc g ((⟨first⟩:Array Value)++vs.toArray++(⟨G⟩:Array Value))) h K:=by rw[J];exact this
    simp only[Deferred.ofValue];exact L
   .exact j.elim
  .exact j.elim
 .exact j.elim
def put(n:Nat)(a:Option Tmp)(K:Env->Heap->Prop)(ρ:Env)(v:Value)(h:Heap):Prop:=
 match a with
 |some d=>bif xt d n then K (.val d v::ρ) h else False
 |none=>K ρ h
theorem td{n:Nat}{b:Option Tmp}{K:Env->Heap->Prop}{ρ:Env}{v:Value}{h:Heap}(c:put n b K ρ v h){a:Act}(e:Fits n a ρ):
  ∃ρ',Fits n (a.put b v) ρ'/\Ext ρ ρ' a (a.put b v)/\K ρ' h:=by
 unfold put at c;cases b with
 |none=>exact⟨ρ,e,Ext.refl _ _,c⟩
 |some d=>
  simp only at c;cases hb:xt d n with
  |false=>rw[hb]at c;exact c.elim
  |true=>rw[hb]at c;exact⟨_,e.put hb v,Ext.put v v,c⟩
def WM(C:Ctx)(n:Nat)(o:Oper)(K:Env->Heap->Prop)(ρ:Env)(h:Heap):Prop:=
 match Am C.P C.T o.op ρ.eval with
 | .no=>match ta C.T o.op ρ.eval with
  |some r=>∃y:r.ty.den,r.holds h y/\put n o.dst K ρ (r.ty.enc y) h
  |none=>Gg C o ρ.eval (put n o.dst K ρ) h
 |p=>p.holds λv=>put n o.dst K ρ v h
def Gh(ops:Array Oper)(o:Oper)(ρ:Env)(a skip:Env->Prop):Prop:=
 match o.guard with
 |none=>a ρ
 |some (j,want)=>match(ops[j]?).bind (·.dst)with
  |some d=>match ρ.get d with
   |some (.bool b)=>Br b (bif want then a (.val d (.bool true)::ρ)else skip (.val d (.bool true)::ρ)) (bif want then skip (.val d (.bool false)::ρ)else a (.val d (.bool false)::ρ))
   |some (.tuple _)=>skip ρ
   |_=>False
  |none=>False
theorem Fits.known{n:Nat}{a:Act}{ρ:Env}(c:Fits n a ρ){d:Nat}{v:Value}(e:ρ.get d=some v):Fits n a (.val d v::ρ)/\Ext ρ (.val d v::ρ) a a:=by
 refine⟨⟨c.size,c.defers,λt x b=>?_⟩,⟨[.val d v],rfl,λ_ _=>rfl⟩⟩;simp only[Env.get]at b;cases hb:wv d t with
 |false=>rw[hb]at b;exact c.get t x b
 |true=>
  rw[hb]at b;have:=zy hb;subst this;rw[cond_true]at b;exact c.get _ x (e.trans b)
theorem EH{ops:Array Oper}{o:Oper}{ρ:Env}{f skip:Env->Prop}{n:Nat}{a:Act}(e:Fits n a ρ)(c:Gh ops o ρ f skip):
  ∃ρ',Fits n a ρ'/\Ext ρ ρ' a a/\((Region.wanted o (yielded ops a.tmps)=true/\f ρ')∨(Region.wanted o (yielded ops a.tmps)=false/\skip ρ')):=by
 unfold Gh at c;unfold Region.wanted;split at c
 .rename_i l;rw[l];exact⟨ρ,e,Ext.refl _ _,.inl ⟨rfl,c⟩⟩
 .rename_i j g l;rw[l];split at c
  .rename_i d p;split at c
   .rename_i b k;have m:yielded ops a.tmps j=some b:=by unfold yielded;rw[p];simp[e.get _ _ k]
    simp only[m];obtain⟨h,i⟩:=e.known k;cases b<;>cases g<;>simp only[Br,cond_true,cond_false]at c
    .exact⟨_,h,i,.inl ⟨rfl,c⟩⟩
    .exact⟨_,h,i,.inr ⟨rfl,c⟩⟩
    .exact⟨_,h,i,.inr ⟨rfl,c⟩⟩
    .exact⟨_,h,i,.inl ⟨rfl,c⟩⟩
   .rename_i vs k;have m:yielded ops a.tmps j=none:=by unfold yielded;rw[p];simp[e.get _ _ k]
    simp only[m];exact⟨ρ,e,Ext.refl _ _,.inr ⟨by simp,c⟩⟩
   .exact c.elim
  .exact c.elim
theorem TM{C:Ctx}(g:C.Ok){n:Nat}{o:Oper}{K:Env->Heap->Prop}{ρ:Env}{a:Act}{w:World}(j:Fits n a ρ)(d:WM C n o K ρ w.heap)
  {Q:Exit->Act->World->Prop} {next:Act->World->Prop}
  (k:∀a' w' ρ',Fits n a' ρ'->Ext ρ ρ' a a'->dn w w'->K ρ' w'.heap->next a' w'):o.wp C.P a w next Q:=by
 have i:∀x v,ρ.eval x=some v->a.eval x=v:=λx v h=>j.eval h;have b:∀v w',dn w w'->put n o.dst K ρ v w'.heap->next (a.put o.dst v) w':=λv w' m q=>by
  obtain⟨ρ',l,p,h3⟩:=td q j;exact k _ _ _ l p m h3
 have c:(Am C.P C.T o.op ρ.eval).holds (λv=>put n o.dst K ρ v w.heap)->o.wp C.P a w next Q:=λh=>by
  obtain⟨v,t,f⟩:=Ge g.toOk i h;unfold Oper.wp;rw[t w];exact b v w (dn.refl w) f
 unfold WM at d;split at d
 .split at d
  .rename_i r e;obtain⟨y,s,f⟩:=d;unfold Oper.wp;rw[AO g.toOk i e s];exact b _ w (dn.refl w) f
  .exact ade (QX g i d) b
 .exact c d
def DU(C:Ctx)(n:Nat)(ops:Array Oper)(o:Oper)(K:Env->Heap->Prop)(ρ:Env)(h:Heap):Prop:=
 Gh ops o ρ (λρ=>WM C n o K ρ h) (λρ=>put n o.dst K ρ undef h)
theorem Gi{C:Ctx}(h:C.Ok){n:Nat}{ops:Array Oper}{o:Oper}{i:Nat}(q:ops[i]?=some o){K:Env->Heap->Prop}{ρ:Env}{a:Act}{w:World}
  (j:Fits n a ρ) (l:DU C n ops o K ρ w.heap) {Q:Exit->Act->World->Prop} {next:Act->World->Prop}
  (c:∀a' w' ρ',Fits n a' ρ'->Ext ρ ρ' a a'->dn w w'->K ρ' w'.heap->next a' w'):wpOp C.P ops Q i next a w:=by
 obtain⟨ρ',d,e,h3⟩:=EH j l;unfold wpOp;simp only[q];rcases h3 with⟨hw,hr⟩|⟨hw,hr⟩
 .simp only[hw,if_true];exact .inl (TM h d hr λa' w' b p x2 x3 k=>c _ _ _ p (e.trans x2) x3 k)
 .simp only[hw,zg,if_false];obtain⟨b,m,g,f⟩:=td hr d;exact c _ _ _ m (e.trans g) (dn.refl w) f
def WN(C:Ctx)(n:Nat)(ops:Array Oper)(K:Env->Heap->Prop):List Oper->Env->Heap->Prop
 |[],ρ,h=>K ρ h
 |o::r,ρ,h=>DU C n ops o (WN C n ops K r) ρ h
def Out(n:Nat)(Q:Exit->Env->Heap->Prop)(ρ:Env)(a:Act)(w:World):Exit->Act->World->Prop:=λe a' w'=>
 ∃ρ',Fits n a' ρ'/\Ext ρ ρ' a a'/\dn w w'/\Q e ρ' w'.heap
theorem Ji{C:Ctx}(b:C.Ok){n:Nat}{ops:Array Oper}{K:Env->Heap->Prop}{Q:Exit->Act->World->Prop}{ρ0:Env}{a0:Act}{w0:World}
  (c:∀a w ρ,Fits n a ρ->Ext ρ0 ρ a0 a->dn w0 w->K ρ w.heap->Q .normal a w):
  ∀(r:List Oper) (i:Nat),(∀j,r[j]?=ops[i+j]?)->∀(ρ:Env) (a:Act) (w:World),Fits n a ρ->Ext ρ0 ρ a0 a->dn w0 w->WN C n ops K r ρ w.heap->
   wpOps C.P ops Q (List.range' i r.length) a w
 |[],i,_,ρ,a,w,hf,hx,hl,hs=>c a w ρ hf hx hl hs
 |o::r,i,hr,ρ,a,w,hf,hx,hl,hs=>by
  have g:ops[i]?=some o:=by simpa using(hr 0).symm
  rw[zc,List.range'_succ,wpOps_cons];refine Gi b g hf hs λa' w' ρ' e f h3 d=>?_;exact Ji b c r (i+1) (λj=>by have:=hr (j+1);simpa[Nat.add_assoc,Nat.add_comm 1 j]using this) ρ' a' w' e (hx.trans f) (hl.trans h3) d
abbrev bF:=List (Addr×Value)
def bF.ok:bF->Heap->Prop
 |[],_=>True
 |p::r,h=>cellOf h p.1=some p.2/\bF.ok r h
def nN(a:Addr):Nat->List Value->bF->bF
 |_,[],L=>L
 |n,v::r,L=>(a.add n,v)::nN a (n+1) r L
theorem nl{a:Addr}{h:Heap}:∀{vs:List Value} {n:Nat} {L:bF},(nN a n vs L).ok h↔bA h a n vs/\L.ok h
 |[],_,L=>by simp[nN,bA]
 |v::r,n,L=>by simp only[nN,bF.ok,bA,nl (vs:=r),and_assoc]
def uw.held(r:uw)(y:r.ty.den)(L:bF):bF:=
 match r.ty,y with
 | .sc s,y=>(r.a,s.enc y)::L
 | .agg l,y=>nN r.a 0 (nM l y) L
 | .arr s,y=>nN r.a 0 (y.map s.enc) L
theorem uw.ZX{r:uw}{y:r.ty.den}{L:bF}{c:Heap}(b:r.holds c y){m:Heap}:(r.held y L).ok m↔r.holds m y/\L.ok m:=by
 obtain⟨a,ty,n⟩:=r;cases ty with
 |sc s=>rfl
 |agg l=>exact nl
 |arr s=>exact nl.trans ⟨λx=>⟨⟨b.1,x.1⟩,x.2⟩,λx=>⟨x.1.2,x.2⟩⟩
structure gn where
 op:Nat
 r:uw
 y:r.ty.den
def flat:List gn->bF
 |[]=>[]
 |p::r=>p.r.held p.y (flat r)
def gn.ok(p:gn)(w:World):Prop:=p.r.holds w.heap p.y
def waits(ops:Array Oper)(j i:Nat):Bool:=match ops[j]? with
 |some o=>o.after.any λe=>Region.binds .any e&&wv e.on i
 |none=>false
def keep(ops:Array Oper)(j:Nat):List gn->List gn
 |[]=>[]
 |p::r=>bif waits ops j p.op then keep ops j r else p::keep ops j r
theorem pz{ops:Array Oper}{j:Nat}:∀{L:List gn},∀p∈keep ops j L,p∈L
 |[],p,h=>by cases h
 |q::r,p,h=>by
  unfold keep at h;cases hw:waits ops j q.op with
  |true=>rw[hw]at h;exact qt _ (pz p h)
  |false=>
   rw[hw]at h;rcases qQ.1 h with rfl|h
   .simp
   .exact qt _ (pz p h)
theorem AP{ops:Array Oper}{j:Nat}:∀{L:List gn} {p:gn},p∈L->waits ops j p.op=false->p∈keep ops j L
 |q::r,p,h,hw=>by
  unfold keep;rcases qQ.1 h with rfl|h
  .grind
  .cases hq:waits ops j q.op with
   |true=>exact AP h hw
   |false=>exact qt _ (AP h hw)
theorem Fh{ops:Array Oper}{j:Nat}{p:gn}:∀{M:List gn},p∈keep ops j M->waits ops j p.op=false
 |[],h=>by cases h
 |q::r,h=>by
  unfold keep at h;cases hq:waits ops j q.op with
  |true=>rw[hq]at h;exact Fh h
  |false=>
   rw[hq]at h;rcases qQ.1 h with rfl|h
   .exact hq
   .exact Fh h
theorem Cn{ops:Array Oper}{j:Nat}{L a:List gn}(c:∀p∈a,p∈L):∀p∈keep ops j a,p∈keep ops j L:=
 λp b=>AP (c p (pz p b)) (Fh b)
def lT(P:Program)(ops:Array Oper)(Q:Exit->Act->World->Prop):Nat->List gn->Array Bool->Act->World->Prop
 |0,_,listed,a,w=>Region.ready .any ops listed=[]/\Q .normal a w
 |fuel+1,L,listed,a,w=>
  (Region.ready .any ops listed=[]->Q .normal a w)/\
  ∀i∈Region.ready .any ops listed,wpOp P ops Q i (λa' w'=>(∀p∈keep ops i L,p.ok w')/\lT P ops Q fuel (keep ops i L) (listed.setIfInBounds i true) a' w') a w
theorem Gj{P:Program}{ops:Array Oper}{Q:Exit->Act->World->Prop}:∀(c:Nat) (L:List gn) (b:Array Bool) (a:Act) (w:World),lT P ops Q c L b a w->wpAny P .any ops Q c b a w
 |0,_,_,_,_,h=>h
 |c+1,_,_,_,_,h=>⟨h.1,λi d=>wpOp_mono (λa' w' h'=>Gj c _ _ a' w' h'.2) (h.2 i d)⟩
theorem AQ{P:Program}{ops:Array Oper}{Q:Exit->Act->World->Prop}:∀(c:Nat) {L d:List gn} (b:Array Bool) (a:Act) (w:World),(∀p∈d,p∈L)->lT P ops Q c L b a w->lT P ops Q c d b a w
 |0,_,_,_,_,_,_,h=>h
 |c+1,_,_,_,_,_,hs,h=>⟨h.1,λi f=>wpOp_mono (λa' w' h'=>⟨λp e=>h'.1 p (Cn hs p e),AQ c _ a' w' (Cn hs) h'.2⟩) (h.2 i f)⟩
theorem Ln{P:Program}{ops:Array Oper}{Q:Exit->Act->World->Prop}{i:Nat}{r:Oper}{v:Value}{T:World->Prop}{N:List gn}(X:ops[i]?=some r)(y:∀(j:Nat) (o:Oper) cs b,ops[j]?=some o->o.op≠.select cs b)
  (hQ:∀c a w,Q (.panic c) (a.put r.dst v) w->Q (.panic c) a w) (hN:∀p∈N,p.op=i) (hT:∀w,(∀p∈N,p.ok w)->T w):
  ∀(f:Nat) (L:List gn) (d:Array Bool) (a:Act) (w:World),
   (∀j u,ops[j]?=some u->j≠i->d.getD j true=false->(∀e∈u.after,Region.binds .any e=true->e.on≠i)->r.apart ops u=true)->
   i∈Region.ready .any ops d->YieldsIf P ops T r v a->(∀p∈N,p.ok w)->(∀p∈L,p.ok w)->
   lT P ops Q f (N++L) (d.setIfInBounds i true) (a.put r.dst v) w->lT P ops Q (f+1) L d a w:=by
 intro f;have D:∀(f:Nat) (L:List gn) (d:Array Bool) (a:Act) (w:World),YieldsIf P ops T r v a->(∀p∈N,p.ok w)->(∀p∈L,p.ok w)->
   lT P ops Q f (N++L) (d.setIfInBounds i true) (a.put r.dst v) w->
   wpOp P ops Q i (λa' w'=>(∀p∈keep ops i L,p.ok w')/\lT P ops Q f (keep ops i L) (d.setIfInBounds i true) a' w') a w:=λf L d a w K s M H=>
  K.wpOp X (hT w s) ⟨λp g=>M p (pz p g),AQ f _ _ _ (λp g=>yn _ (pz p g)) H⟩
 induction f with
 |zero=>
  intro L d a w _ G K s M H;refine⟨λh=>(by grind),λj O=>?_⟩;by_cases l:j=i
  .grind
  .have:=ready_mono O l;rw[H.1]at this;cases this
 |succ f ih=>
  intro L d a w n G K s M H;refine⟨λh=>(by rw[h]at G;cases G),λj O=>?_⟩;by_cases l:j=i
  .subst l;exact D (f+1) L d a w K s M H
  .have A:=H.2 j (ready_mono O l);obtain⟨B,u,q,J⟩:=mem_ready.1 O;have x:∀e∈u.after,Region.binds .any e=true->e.on≠i:=λe he F R=>by
    have A:=J e he F;have Z:=(mem_ready.1 G).1;rw[R]at A;rcases Nat.lt_or_ge i d.size with h'|h'
    .simp[h']at Z A;rw[Z]at A;cases A
    .simp[Array.getElem?_eq_none h']at A
   have Y:(u.after.any λe=>Region.binds .any e&&wv e.on i)=false:=by
    cases hc:u.after.any λe=>Region.binds .any e&&wv e.on i with
    |false=>rfl
    |true=>
     obtain⟨k,S,F⟩:=Array.any_eq_true.1 hc;simp only[qC]at F;exact absurd (zy F.2) (x _ (Array.getElem_mem S) F.1)
   have V:waits ops j i=false:=by unfold waits;rw[q];omega
   have z:∀p,p∈N->p∈keep ops j (N++L):=λp g=>AP (List.mem_append_left _ g) (by rw[hN p g];omega);have m:∀p,p∈keep ops j L->p∈keep ops j (N++L):=Cn λp g=>yn _ g;have h2:=wpOp_putIf q (n j u q l B x) (λcs b=>y i r cs b X) (λcs b=>y j u cs b q) hQ K A;have t:∀k ok,ops[k]?=some ok->k≠i->(d.setIfInBounds j true).getD k true=false->
     (∀e∈ok.after,Region.binds .any e=true->e.on≠i)->r.apart ops ok=true:=λk ok S W E U=>by
    refine n k ok S W ?_ U;by_cases I:j=k
    .subst I;omega
    .rw[getD_set_ne true I]at E;exact E
   refine wpOp_mono (λa' w' h3=>⟨λp g=>h3.2.1 p (m p g),ih (keep ops j L) (d.setIfInBounds j true) a' w' t (ready_mono G (Ne.symm l)) h3.1 (λp g=>h3.2.1 p (z p g)) (λp g=>h3.2.1 p (m p g)) ?_⟩) h2;rw[Array.setIfInBounds_comm _ _ l];refine AQ _ _ _ _ (λp g=>?_) h3.2.2;rcases List.mem_append.1 g with g|g
   .exact z p g
   .exact m p g
theorem uZ{P:Program}{ops:Array Oper}{Q:Exit->Act->World->Prop}{i:Nat}{e:Oper}{v:Value}{T:World->Prop}{N:List gn}{d:Nat}{L:List gn}{b:Array Bool}{a:Act}{w:World}(g:ops[i]?=some e)
  (n:Region.noSelect ops=true) (l:Region.free .any ops b i=true) (r:(Region.ready .any ops b).contains i=true)
  (q:∀c a w,Q (.panic c) (a.put e.dst v) w->Q (.panic c) a w) (m:∀p∈N,p.op=i) (k:∀w,(∀p∈N,p.ok w)->T w) (o:YieldsIf P ops T e v a) (f:∀p∈N,p.ok w) (j:∀p∈L,p.ok w)
  (h:lT P ops Q d (N++L) (b.setIfInBounds i true) (a.put e.dst v) w):lT P ops Q (d+1) L b a w:=
 Ln g (Region.noSelect_spec n) q m k d L b a w (Region.free_spec g l) (by grind) o f j h
theorem Ii:∀{L:List gn} {w0:World},(∀p∈L,p.ok w0)->∀{m:Heap},(flat L).ok m->∀p∈L,p.r.holds m p.y
 |[],_,_,_,_,p,a=>by cases a
 |q::r,w0,h0,m,h,p,a=>by
  have h:=(uw.ZX (h0 q List.mem_cons_self)).1 h;rcases qQ.1 a with rfl|a
  .exact h.1
  .exact Ii (λp a=>h0 p (qt _ a)) h.2 p a
def YM(T:km)(t:TypeId):Bool:=match T.get t with
 |some i=>match i.ty with
  | .sc .slc=>true
  |_=>false
 |none=>false
def YN(T:km):Op->Bool
 | .convert s d _=>!(YM T s||YM T d)
 | .move _| .assign _| .pick .. | .nilCheck _| .fieldAddr .. | .indexAddr .. | .index .. | .field .. | .extract .. | .binOp .. | .unOp .. | .build .. | .makeFunc .. | .load .. =>true
 | .slice _ _ _ _ none=>true
 | .call c=>match c.callee with
  | .builtin .len| .builtin .cap| .builtin .min| .builtin .max| .builtin .real| .builtin .imag=>true
  |_=>false
 |_=>false
def nO(T:km)(ops:Array Oper)(a:Array Bool):List Nat->Option Nat
 |[]=>none
 |i::r=>match ops[i]? with
  |some o=>bif YN T o.op&&Region.free .any ops a i then some i else nO T ops a r
  |none=>nO T ops a r
def QY(C:Ctx)(n:Nat)(ops:Array Oper)(i:Nat)(o:Oper)(L:List gn)(K:List gn->Env->Heap->Prop)(ρ:Env)(h:Heap):Prop:=
 Gh ops o ρ (λρ=>match Am C.P C.T o.op ρ.eval with
  | .no=>match ta C.T o.op ρ.eval with
   |some r=>∃y:r.ty.den,r.holds h y/\put n o.dst (K (⟨i,r,y⟩::L)) ρ (r.ty.enc y) h
   |none=>False
  |p=>p.holds λv=>put n o.dst (K L) ρ v h) (λρ=>put n o.dst (K L) ρ undef h)
def Lo(C:Ctx)(n:Nat)(ops:Array Oper)(K:Nat->Env->Heap->Prop)(ρ:Env)(h:Heap):List Nat->Prop
 |[]=>True
 |[i]=>match ops[i]? with
  |some o=>DU C n ops o (K i) ρ h
  |none=>False
 |i::j::r=>(match ops[i]? with
  |some o=>DU C n ops o (K i) ρ h
  |none=>False)/\Lo C n ops K ρ h (j::r)
def te(C:Ctx)(n:Nat)(ops:Array Oper)(K:Env->Heap->Prop):Nat->Array Bool->List gn->Env->Heap->Prop
 |0,listed,_,ρ,h=>bif (Region.ready .any ops listed).isEmpty then K ρ h else False
 |k+1,listed,L,ρ,h=>match nO C.T ops listed (Region.ready .any ops listed)with
  |some i=>match ops[i]? with
   |some o=>QY C n ops i o L (te C n ops K k (listed.setIfInBounds i true)) ρ h
   |none=>False
  |none=>match Region.ready .any ops listed with
   |[]=>K ρ h
   |i::r=>Lo C n ops (λi ρ h=>(flat (keep ops i L)).ok h/\te C n ops K k (listed.setIfInBounds i true) (keep ops i L) ρ h) ρ h (i::r)
theorem rU{T:km}{ops:Array Oper}{a:Array Bool}:∀{rs:List Nat} {i:Nat},nO T ops a rs=some i->i∈rs/\Region.free .any ops a i=true
 |[],_,h=>by cases h
 |j::r,i,h=>by
  simp only[nO]at h;split at h
  .rename_i o b;cases hb:(YN T o.op&&Region.free .any ops a j)with
   |true=>
    grind
   |false=>
    rw[hb]at h;have:=rU h
    grind
  .have:=rU h
   grind
theorem Jj{C:Ctx}{n:Nat}{ops:Array Oper}{K:Nat->Env->Heap->Prop}{ρ:Env}{h:Heap}:∀{l:List Nat},Lo C n ops K ρ h l->∀i∈l,∃o,ops[i]?=some o/\DU C n ops o (K i) ρ h
 |[],_,i,hi=>by cases hi
 |[j],ha,i,hi=>by
  simp only[Lo]at ha
  grind
 |j::k::r,ha,i,hi=>by
  obtain⟨b,a⟩:=ha;rcases qQ.1 hi with rfl|hi
  .grind
  .exact Jj a i hi
variable {n:Nat} {ops:Array Oper} {Q:Exit->Act->World->Prop} {ρ0:Env} {a0:Act} {w0:World}
section
variable {C:Ctx} {K:Env->Heap->Prop}
theorem Jk(I:C.Ok)(J:Region.noSelect ops=true)
  (W:∀a w ρ,Fits n a ρ->Ext ρ0 ρ a0 a->dn w0 w->K ρ w.heap->Q .normal a w) (D:∀c a w,¬Q (.panic c) a w):
  ∀(k:Nat) (b:Array Bool) (L:List gn) (ρ:Env) (a:Act) (w:World),Fits n a ρ->Ext ρ0 ρ a0 a->dn w0 w->(∀p∈L,p.ok w)->
   te C n ops K k b L ρ w.heap->lT C.P ops Q k L b a w
 |0,b,L,ρ,a,w,hf,hx,hl,hL,h=>by
  simp only[te]at h;cases hb:(Region.ready .any ops b).isEmpty with
  |false=>rw[hb]at h;exact h.elim
  |true=>rw[hb]at h;exact⟨by simpa using hb,W _ _ _ hf hx hl h⟩
 |k+1,b,L,ρ,a,w,hf,hx,hl,hL,h=>by
  have G:=Jk I J W D k;simp only[te]at h;split at h
  .rename_i i M;obtain⟨F,f⟩:=rU M;have d:(Region.ready .any ops b).contains i=true:=by simpa using F
   split at h
   .rename_i o E;unfold QY at h;obtain⟨ρ',H,U,h3⟩:=EH hf h;have q:∀c a w (v:Value),Q (.panic c) (Act.put a o.dst v) w->Q (.panic c) a w:=λc a w v hq=>absurd hq (D c _ w);have X:∀x v,Env.eval ρ' x=some v->a.eval x=v:=λx v h=>H.eval h;rcases h3 with⟨t,g⟩|⟨t,g⟩
    .have s:(Am C.P C.T o.op (Env.eval ρ')).holds (λv=>put n o.dst (te C n ops K k (b.setIfInBounds i true) L) ρ' v w.heap)->
       lT C.P ops Q (k+1) L b a w:=λe=>by
      obtain⟨v,hv,O⟩:=Ge I.toOk X e;obtain⟨l,B,z,u⟩:=td O H;exact uZ (N:=[]) (T:=λ_=>True) E J f d (λc a w=>q c a w v) (λp e=>by cases e) (λ_ _=>trivial) (.inl ⟨t,λw _=>hv w⟩) (λp e=>by cases e) hL
       (G _ L l _ w B (hx.trans (U.trans z)) hl hL u)
     split at g
     .split at g
      .rename_i r A;obtain⟨y,hy,O⟩:=g;obtain⟨l,B,z,u⟩:=td O H;have R:∀p∈[(⟨i,r,y⟩:gn)],p.ok w:=λp e=>by rw[qA]at e;subst e;exact hy
       refine uZ (N:=[⟨i,r,y⟩]) (T:=λw=>r.holds w.heap y) E J f d (λc a w=>q c a w _) (λp e=>by rw[qA]at e;subst e;rfl)
        (λw h=>h ⟨i,r,y⟩ (qA.2 rfl)) (.inl ⟨t,λw t=>AO I.toOk X A t⟩) R hL ?_
       refine G _ (⟨i,r,y⟩::L) l _ w B (hx.trans (U.trans z)) hl (λp e=>?_) u
       grind
      .exact g.elim
     .exact s g
    .obtain⟨l,B,z,u⟩:=td g H;exact uZ (N:=[]) (T:=λ_=>True) E J f d (λc a w=>q c a w undef) (λp e=>by cases e) (λ_ _=>trivial) (.inr ⟨t,rfl⟩) (λp e=>by cases e) hL
      (G _ L l _ w B (hx.trans (U.trans z)) hl hL u)
   .exact h.elim
  .split at h
   .rename_i g;exact⟨λ_=>W _ _ _ hf hx hl h,λi M=>by rw[g]at M;cases M⟩
   .rename_i i r g;refine⟨λZ=>absurd (g▸Z) (by simp),λj Y=>?_⟩;rw[g]at Y;obtain⟨o,E,V⟩:=Jj h j Y;have m:∀p∈keep ops j L,p.ok w:=λp e=>hL p (pz p e);exact Gi I E hf V λa' w' ρ' x1 x2 x3 S=>⟨Ii m S.1,G _ (keep ops j L) ρ' a' w' x1 (hx.trans x2) (hl.trans x3) (Ii m S.1) S.2⟩
end
def sched(T:km)(ops:Array Oper):Nat->Array Bool->Option (List (Nat×Bool))
 |0,listed=>bif (Region.ready .any ops listed).isEmpty then some []else none
 |k+1,listed=>match nO T ops listed (Region.ready .any ops listed)with
  |some i=>(sched T ops k (listed.setIfInBounds i true)).map ((i,true)::·)
  |none=>match Region.ready .any ops listed with
   |[]=>some []
   |[i]=>(sched T ops k (listed.setIfInBounds i true)).map ((i,false)::·)
   |_::_::_=>none
def ry(C:Ctx)(n:Nat)(ops:Array Oper)(K:Env->Heap->Prop):List (Nat×Bool)->List gn->Env->Heap->Prop
 |[],_,ρ,h=>K ρ h
 |(i,true)::r,L,ρ,h=>match ops[i]? with
  |some o=>QY C n ops i o L (ry C n ops K r) ρ h
  |none=>False
 |(i,false)::r,L,ρ,h=>match ops[i]? with
  |some o=>DU C n ops o (λρ h=>(flat (keep ops i L)).ok h/\ry C n ops K r (keep ops i L) ρ h) ρ h
  |none=>False
theorem Jl{C:Ctx}{n:Nat}{ops:Array Oper}{K:Env->Heap->Prop}:∀(k:Nat) (a:Array Bool) (l:List (Nat×Bool)),sched C.T ops k a=some l->
  te C n ops K k a=ry C n ops K l
 |0,a,l,hs=>by
  simp only[sched]at hs;cases hb:(Region.ready .any ops a).isEmpty with
  |false=>rw[hb]at hs;cases hs
  |true=>
   rw[hb]at hs;cases hs;funext L ρ h;simp only[te,hb,ry,cond_true]
 |k+1,a,l,hs=>by
  have d:=λi=>Jl (C:=C) (n:=n) (ops:=ops) (K:=K) k (a.setIfInBounds i true);funext L ρ h;unfold sched at hs;unfold te;cases hi:nO C.T ops a (Region.ready .any ops a)with
  |some i=>
   rw[hi]at hs;obtain⟨b,c,rfl⟩:=y9.1 hs;simp only[ry,d i b c]
  |none=>
   rw[hi]at hs;generalize e:Region.ready .any ops a=rd at hs
   match rd,hs with
   |[],hs=>cases hs;simp only[ry]
   |[i],hs=>
    obtain⟨b,c,rfl⟩:=y9.1 hs;simp only[Lo,ry,d i b c]
def Ij(C:Ctx)(n:Nat)(ops:Array Oper)(a:Bool)(K:Env->Heap->Prop)(ρ:Env)(h:Heap):Prop:=
 match a with
 |false=>WN C n ops K ops.toList ρ h
 |true=>bif Region.noSelect ops then(match sched C.T ops ops.size (vK ops.size false)with
  |some l=>ry C n ops K l [] ρ h
  |none=>te C n ops K ops.size (vK ops.size false) [] ρ h)else False
theorem Lp{C:Ctx}(d:C.Ok){n:Nat}{id:Nat}{ops:Array Oper}{b:Bool}{Q:Exit->Env->Heap->Prop}{ρ:Env}{a:Act}{w:World}(i:Fits n a ρ)
  (h:Ij C n ops b (Q .normal) ρ w.heap):(Code.region id ops b).wp C.P (λe a' w'=>(∀c,e≠.panic c)/\Out n Q ρ a w e a' w') a w:=by
 cases b with
 |false=>
  refine wp_region ?_;have:=Ji d (Q:=λe a' w'=>(∀c,e≠.panic c)/\Out n Q ρ a w e a' w') (K:=Q .normal) (ρ0:=ρ) (a0:=a) (w0:=w) (λa' w' ρ' g x2 x3 f=>⟨λc e=>(by cases e),ρ',g,x2,x3,f⟩)
   ops.toList 0 (λj=>by simp) ρ a w i (Ext.refl _ _) (dn.refl _) h
  rw[List.range_eq_range'];simpa using this
 |true=>
  simp only[Ij]at h;cases hb:Region.noSelect ops with
  |false=>rw[hb]at h;exact h.elim
  |true=>
   rw[hb]at h;have h:te C n ops (Q .normal) ops.size (vK ops.size false) [] ρ w.heap:=by
    simp only[cond_true]at h;split at h
    .rename_i l k;rw[Jl _ _ _ k];exact h
    .exact h
   refine wp_region_any d.mixed (Gj _ [] _ _ _ ?_);exact Jk d hb (Q:=λe a' w'=>(∀c,e≠.panic c)/\Out n Q ρ a w e a' w') (ρ0:=ρ) (a0:=a) (w0:=w) (λa' w' ρ' g x2 x3 f=>⟨λc e=>(by cases e),ρ',g,x2,x3,f⟩)
    (λc a w o=>o.1 c rfl) _ _ [] ρ a {w with drawn:=w.drawn+1} i (Ext.refl _ _) ⟨rfl,rfl,rfl,Nat.le_succ _⟩ (λp m=>by cases m) h
def DV{σ:Type}(rest:σ->Heap->Prop)(B:(σ->Heap->Prop)->Prop):Prop:=∃R:σ->Heap->Prop,(∀s h,R s h->rest s h)/\B R
def gU{σ:Type}(B:σ->(σ->Heap->Prop)->Heap->Prop)(s:σ)(h:Heap):Prop:=
 ∃(τ:Type) (V:τ->σ) (I:τ->Heap->Prop) (μ:τ->Nat) (t0:τ),s=V t0/\I t0 h/\∀t h,I t h->B (V t) (λb h'=>∃a,b=V a/\I a h'/\μ a<μ t) h
theorem TN{P:Program}{c:Code}{Q:Exit->Act->World->Prop}{a:Act}{w:World}{σ:Type}(R:σ->Act->World->Prop)(μ:σ->World->Nat)(t:σ)(B:R t a w)
  (i:∀s a w,R s a w->c.wp P (Exit.then (λa' w'=>∃m,R m a' w'/\μ m w'<μ s w) Q) a w):(Code.loop c).wp P Q a w:=by
 intro b k cs;have o:∀n s a w,μ s w=n->R s a w->
   ∃e a' w',Q e a' w'/\Arrives P (lone (b.at a (.code c::.inLoop c::k)) cs w) b k cs e a' w':=by
  intro n
  induction n using Nat.strongRecOn with
  |_ n ih=>
   intro s a w u v;obtain⟨e,j,h,f,d⟩:=i s a w v b (.inLoop c::k) cs;cases e with
   |normal=>
    obtain⟨m,q,p⟩:=f;obtain⟨z,y,A,r,g⟩:=ih (μ m h) (u▸p) m j h rfl q;exact⟨z,y,A,r,.of_steps (Steps.trans d (.one step_inLoop)) g⟩
   |exit id=>exact⟨_,j,h,f,.pass (x:=.inLoop c) rfl (λ_ _=>.inl (by simp)) d⟩
   |goto l=>exact⟨_,j,h,f,.pass (x:=.inLoop c) rfl (λ_ _=>.inl (by simp)) d⟩
   |ret=>exact⟨_,j,h,f,.pass (x:=.inLoop c) rfl (λ_ _=>.inl (by simp)) d⟩
   |panic ch=>exact⟨_,j,h,f,.pass (x:=.inLoop c) rfl (λ_ _=>.inl (by simp)) d⟩
   |outgrown=>exact⟨_,j,h,f,.pass (x:=.inLoop c) rfl (λ_ _=>.inl (by simp)) d⟩
 obtain⟨e,a',w',f,d⟩:=o _ t a w rfl B;exact⟨e,a',w',f,.of_steps (.one step_loop) d⟩
inductive cT where
 |n
 |two (a b:cT)
 |inn (a:cT)
 |loop (σ:dF) (κ:dp) (a:cT)
 |join (σ:dF) (κ:dp) (a:cT)
 |scope (l:Nat) (σ:dF) (κ:dp) (pre rest:List cT) (fwd:List (Nat×List cT))
 |fwd (a:cT) (fwd:List (Nat×List cT))
def cT.fst:cT->cT
 | .two a _=>a
 |_=>.n
def cT.snd:cT->cT
 | .two _ b=>b
 |_=>.n
def cT.sub:cT->cT
 | .inn a=>a
 |_=>.n
abbrev QT:=Exit->Env->Heap->Prop
def Gk(σ:dF)(κ:dp)(ρ:Env)(K:σ.den->Heap->Prop)(Q:QT):QT
 | .normal,ρ',h=>bif within σ κ ρ' (ρ'.length-ρ.length)then(match σ.read ρ' with|some s=>K s h|none=>False)else False
 |e,ρ',h=>Q e ρ' h
def DW(next:Env->Heap->Prop)(Q:QT):QT
 | .normal,ρ,h=>next ρ h
 |e,ρ,h=>Q e ρ h
def TO(id:Nat)(Q:QT):QT
 | .exit i,ρ,h=>bif wv i id then Q .normal ρ h else Q (.exit i) ρ h
 |e,ρ,h=>Q e ρ h
abbrev Rec:=Code->cT->QT->Env->Heap->Prop
def ux(rec:Rec):List Code->List cT->QT->Env->Heap->Prop
 |[],_,Q,ρ,h=>Q .normal ρ h
 |c::cs,[],Q,ρ,h=>rec c .n (DW (ux rec cs [] Q) Q) ρ h
 |c::cs,x::xs,Q,ρ,h=>rec c x (DW (ux rec cs xs Q) Q) ρ h
def chain:Code->Nat->Option (List Code×List Code)
 | .seq a b,l=>match chain a l with
  |some (p,r)=>some (p,r++[b])
  |none=>match chain b l with
   |some (p,r)=>some (a::p,r)
   |none=>none
 | .label l',l=>bif wv l' l then some ([],[])else none
 |_,_=>none
def YO(a:List (Nat×List cT))(l:Nat):Option (List cT):=
 match a with
 |[]=>none
 |p::r=>bif wv p.1 l then some p.2 else YO r l
def DX(rec:Rec)(c:Code)(a:List (Nat×List cT))(Q:QT):Nat->QT
 |0=>λ_ _ _=>False
 |g+1=>λe ρ h=>match e with
  | .goto l=>match YO a l with
   |some xs=>match chain c l with
    |some (_,r)=>ux rec r xs (DX rec c a Q g) ρ h
    |none=>False
   |none=>Q (.goto l) ρ h
  |e=>Q e ρ h
def QZ(l:Nat)(σ:dF)(κ:dp)(ρ:Env)(K:σ.den->Heap->Prop)(Q:QT):QT
 | .goto l',ρ',h=>bif wv l' l then(bif within σ κ ρ' (ρ'.length-ρ.length)then(match σ.read ρ' with|some s=>K s h|none=>False)else False)else Q (.goto l') ρ' h
 |e,ρ',h=>Q e ρ' h
def Lq(c:Code)(Q:QT):QT
 | .goto l,ρ,h=>match findLabel c l with
  |none=>Q (.goto l) ρ h
  |some _=>False
 |e,ρ,h=>Q e ρ h
def Lr(C:Ctx)(n:Nat)(rec:Rec)(c:Code)(d:cT)(Q:QT)(ρ:Env)(h:Heap):Prop:=
 match d with
 | .join σ κ a=>DV (λs h=>Q .normal (σ.vals s (κ.over ρ)) h) (λK=>rec c a (Gk σ κ ρ K Q) ρ h)
 |d=>match c with
  | .skip=>Q .normal ρ h
  | .label _=>Q .normal ρ h
  | .region _ ops draw=>Ij C n ops draw (Q .normal) ρ h
  | .seq a b=>rec a d.fst (DW (rec b d.snd Q) Q) ρ h
  | .cond x a b=>match ρ.eval x with
   |some (.bool t)=>Br t (rec a d.fst Q ρ h) (rec b d.snd Q ρ h)
   |_=>False
  | .block id c=>rec c d.sub (TO id Q) ρ h
  | .exit id=>Q (.exit id) ρ h
  | .goto l=>Q (.goto l) ρ h
  | .ret=>Q .ret ρ h
  | .loop c=>match d with
   | .loop σ κ a=>match σ.read ρ with
    |some s0=>gU (λs K h=>rec c a (Gk σ κ (σ.vals s (κ.over ρ)) K Q) (σ.vals s (κ.over ρ)) h) s0 h
    |none=>False
   |_=>False
  | .scope c=>match d with
   | .scope l σ κ pre rest fwd=>match chain c l with
    |some (p,r)=>ux rec p pre (DW (λρ' h'=>match σ.read ρ' with
     |some s0=>gU (λs K h=>ux rec r rest (DX rec c fwd (QZ l σ κ (σ.vals s (κ.over ρ')) K (Lq c Q)) 4) (σ.vals s (κ.over ρ')) h) s0 h'
     |none=>False) (Lq c Q)) ρ h
    |none=>False
   | .fwd a fwd=>rec c a (DX rec c fwd (Lq c Q) 4) ρ h
   |_=>False
  |_=>False
def vc(C:Ctx)(n:Nat):Nat->Rec
 |0=>λ_ _ _ _ _=>False
 |f+1=>Lr C n (vc C n f)
def DY(C:Ctx)(n:Nat)(rec:Rec):Prop:=∀(c:Code) (b:cT) (Q:QT) (ρ:Env) (a:Act) (w:World),Fits n a ρ->rec c b Q ρ w.heap->c.wp C.P (Out n Q ρ a w) a w
variable {ρ ρ':Env} {a a':Act} {w w':World}
section
variable {C:Ctx} {Q:QT}
theorem Out.base{e:Exit}{b:Act}{c:World}(g:Ext ρ ρ' a a')(j:dn w w')(h:Out n Q ρ' a' w' e b c):Out n Q ρ a w e b c:=by obtain⟨d,k,f,h3,i⟩:=h;exact⟨d,k,g.trans f,j.trans h3,i⟩
theorem Out.then{next:Env->Heap->Prop}{N:Act->World->Prop}{i:Exit->Act->World->Prop}{e:Exit}{b:Act}{c:World}(h:Out n (DW next Q) ρ a w e b c)
  (l:∀ρ',Fits n b ρ'->Ext ρ ρ' a b->dn w c->next ρ' c.heap->N b c) (k:Out n Q ρ a w e b c->e≠.normal->i e b c):Exit.then N i e b c:=by
 obtain⟨d,j,f,h3,g⟩:=h;cases e<;>first|exact l d j f h3 g|exact k ⟨d,j,f,h3,g⟩ (by simp)
def np(P:Program):List Code->(Exit->Act->World->Prop)->Act->World->Prop
 |[],Q,a,w=>Q .normal a w
 |c::cs,Q,a,w=>c.wp P (Exit.then (np P cs Q) Q) a w
theorem kJ{P:Program}{Q d:Exit->Act->World->Prop}(b:∀e a w,Q e a w->d e a w):∀(l:List Code) (a:Act) (w:World),np P l Q a w->np P l d a w
 |[],_,_,h=>b _ _ _ h
 |c::cs,a,w,h=>wp_mono h λe a w h=>by
  cases e<;>first|exact kJ b cs a w h|exact b _ _ _ h
theorem oE{rec:Rec}(d:DY C n rec):∀(l:List Code) (xs:List cT) (Q:QT) (ρ:Env) (a:Act) (w:World),Fits n a ρ->ux rec l xs Q ρ w.heap->np C.P l (Out n Q ρ a w) a w
 |[],_,Q,ρ,a,w,hf,h=>⟨ρ,hf,Ext.refl _ _,dn.refl _,h⟩
 |c::cs,[],Q,ρ,a,w,hf,h=>by
  refine wp_mono (d c .n _ ρ a w hf h) λe a' w' b=>b.then (λρ' g x2 x3 f=>?_) λb _=>b;exact kJ (λe a w h=>h.base x2 x3) cs a' w' (oE d cs [] Q ρ' a' w' g f)
 |c::cs,x::xs,Q,ρ,a,w,hf,h=>by
  refine wp_mono (d c x _ ρ a w hf h) λe a' w' b=>b.then (λρ' g x2 x3 f=>?_) λb _=>b;exact kJ (λe a w h=>h.base x2 x3) cs a' w' (oE d cs xs Q ρ' a' w' g f)
end
theorem vh{P:Program}{b:Code}{Q:Exit->Act->World->Prop}:∀(l:List Code) (a:Act) (w:World),np P (l++[b]) Q a w->np P l (Exit.then (b.wp P Q) Q) a w
 |[],a,w,h=>by
  refine wp_mono h λe a w h=>?_;cases e<;>exact h
 |c::cs,a,w,h=>wp_mono h λe a w h=>by
  cases e<;>first|exact vh cs a w h|exact h
theorem pZ:∀{c:Code} {l:Nat} {p r:List Code},chain c l=some (p,r)->∃k,findLabel c l=some k/\
  (∀{P:Program} {Q:Exit->Act->World->Prop} {a:Act} {w:World},np P r Q a w->k.wp P Q a w)/\
  (∀{P:Program} {Q:Exit->Act->World->Prop} {a:Act} {w:World},np P p (Exit.then (np P r Q) Q) a w->c.wp P Q a w)
 | .seq x y,l,p,r,h=>by
  simp only[chain]at h;split at h
  .rename_i o j d;cases h;obtain⟨k,i,m,h3⟩:=pZ d;refine⟨.seq k y,by simp[findLabel,i],λ{P Q a w} h=>wp_seq (m (vh j a w h)),λ{P Q a w} h=>wp_seq (h3 ?_)⟩;refine kJ (λe a w g=>?_) p a w h;cases e<;>first|exact vh j a w g|exact g
  .rename_i d;split at h
   .rename_i o j q;cases h;obtain⟨k,i,m,h3⟩:=pZ q;have n:findLabel x l=none:=by
     induction x with
     |seq a b iha ihb=>
      simp only[chain]at d;split at d
      .cases d
      .rename_i s;split at d
       .cases d
       .rename_i f;simp[findLabel,iha s,ihb f]
     |label l'=>
      simp only[chain]at d;cases f:wv l' l with
      |true=>grind
      |false=>
       have:¬l'=l:=λe=>by subst e;simp at f
       simp[findLabel,this]
     |_=>rfl
    refine⟨k,by simp[findLabel,n,i],m,λ{P Q a w} h=>wp_seq (wp_mono h λe a w g=>?_)⟩;cases e<;>first|exact h3 g|exact g
   grind
 | .label l',l,p,r,h=>by
  simp only[chain]at h;cases f:wv l' l with
  |false=>grind
  |true=>
   rw[f]at h;cases h;have:=zy f;subst this;exact⟨.skip,by simp[findLabel],λh=>wp_skip h,λh=>wp_label h⟩
 | .skip,_,_,_,h=>by cases h
 | .region ..,_,_,_,h=>by cases h
 | .cond ..,_,_,_,h=>by cases h
 | .block ..,_,_,_,h=>by cases h
 | .loop _,_,_,_,h=>by cases h
 | .rangeFunc ..,_,_,_,h=>by cases h
 | .exit _,_,_,_,h=>by cases h
 | .scope _,_,_,_,h=>by cases h
 | .goto _,_,_,_,h=>by cases h
 | .ret,_,_,_,h=>by cases h
 | .refuse _,_,_,_,h=>by cases h
variable {c:Code} {b:Frame} {k:List Item} {cs:List Frame}
def Reach(P:Program)(c:Code)(Q:Exit->Act->World->Prop)(b:Frame)(k:List Item)(d:List Frame)(a:Act)(w:World)(r:Code):Prop:=
 ∃e a' w',Q e a' w'/\Arrives P (lone (b.at a (.code r::.inScope c::k)) d w) b k d e a' w'
def Good(P:Program)(c:Code)(Q:Exit->Act->World->Prop)(b:Frame)(k:List Item)(d:List Frame):Exit->Act->World->Prop
 | .goto l,a,w=>match findLabel c l with
  |some r=>Reach P c Q b k d a w r
  |none=>Q (.goto l) a w
 |e,a,w=>Q e a w
theorem Lt{m:Machine}{e:Exit}{a:Act}{w:World}(f:Good P c Q b k cs e a w)(d:Arrives P m b (.inScope c::k) cs e a w):
  ∃e a' w',Q e a' w'/\Arrives P m b k cs e a' w':=by
 cases e with
 |normal=>exact⟨.normal,a,w,f,Steps.trans d (.one step_inScope)⟩
 |exit id=>exact⟨.exit id,a,w,f,λh j=>d h (by simp[exitTo,j])⟩
 |goto l=>
  simp only[Good]at f;cases hf:findLabel c l with
  |none=>
   rw[hf]at f;exact⟨.goto l,a,w,f,λh j=>d h (by simp[gotoIn,hf,j])⟩
  |some r=>
   rw[hf]at f;obtain⟨n,p,o,i,g⟩:=f;exact⟨n,p,o,i,.of_steps (d _ (by simp[gotoIn,hf])) g⟩
 |ret=>exact⟨_,a,w,f,d⟩
 |panic ch=>exact⟨_,a,w,f,d⟩
 |outgrown=>exact⟨_,a,w,f,d⟩
theorem Lu{r:Code}{a:Act}{w:World}(h:r.wp P (Good P c Q b k cs) a w):Reach P c Q b k cs a w r:=by obtain⟨e,a',w',f,d⟩:=h b (.inScope c::k) cs;exact Lt f d
theorem BM{a:Act}{w:World}(h:∀b k cs,c.wp P (Good P c Q b k cs) a w):(Code.scope c).wp P Q a w:=by intro b k cs;obtain⟨e,l,j,f,d⟩:=h b k cs b (.inScope c::k) cs;obtain⟨e',a',w',i,g⟩:=Lt f d;exact⟨e',a',w',i,.of_steps (.one step_scope) g⟩
variable {rec:Rec}
section
variable {C:Ctx}
theorem AR(t:DY C n rec){c:Code}{o:List (Nat×List cT)}{u:QT}{q:Exit->Act->World->Prop}{b:Frame}{k:List Item}{s:List Frame}{ρ:Env}{a0:Act}{w0:World}
  (j:∀e d f i,Fits n f d->Ext ρ d a0 f->dn w0 i->u e d i.heap->Good C.P c q b k s e f i):
  ∀(g:Nat) (e:Exit) (d:Env) (f:Act) (i:World),Fits n f d->Ext ρ d a0 f->dn w0 i->DX rec c o u g e d i.heap->Good C.P c q b k s e f i
 |0,_,_,_,_,_,_,_,h=>h.elim
 |g+1,e,d,f,i,hf,hx,hl,h=>by
  cases e with
  |goto l=>
   simp only[DX]at h;split at h
   .split at h
    .rename_i p r m;obtain⟨F,z,B,_⟩:=pZ m;simp only[Good,z];refine Lu (B ?_);refine kJ (λe a w E=>?_) _ _ _ (oE t _ _ _ d f i hf h);obtain⟨A,D,y,x,v⟩:=E;exact AR t j g e A a w D (hx.trans y) (hl.trans x) v
    grind
   grind
  |normal=>exact j _ _ _ _ hf hx hl h
  |exit id=>exact j _ _ _ _ hf hx hl h
  |ret=>exact j _ _ _ _ hf hx hl h
  |panic ch=>exact j _ _ _ _ hf hx hl h
  |outgrown=>exact j _ _ _ _ hf hx hl h
theorem nY{c:Code}{Q:QT}{b:Frame}{k:List Item}{m:List Frame}{ρ:Env}{a0:Act}{w0:World}{e:Exit}{a:Env}{i:Act}{j:World}
  (g:Fits n i a) (d:Ext ρ a a0 i) (f:dn w0 j) (h:Lq c Q e a j.heap):Good C.P c (Out n Q ρ a0 w0) b k m e i j:=by
 cases e with
 |goto l=>
  simp only[Lq]at h;simp only[Good];split at h
  .rename_i o;simp only[o];exact⟨a,g,d,f,h⟩
  grind
 |normal=>exact⟨a,g,d,f,h⟩
 |exit id=>exact⟨a,g,d,f,h⟩
 |ret=>exact⟨a,g,d,f,h⟩
 |panic ch=>exact⟨a,g,d,f,h⟩
 |outgrown=>exact⟨a,g,d,f,h⟩
theorem Jm{a:Act}{σ:dF}{κ:dp}{ρ:Env}{s:σ.den}(b:Fits n a ρ)(c:σ.read ρ=some s):Fits n a (σ.vals s (κ.over ρ))/\Ext ρ (σ.vals s (κ.over ρ)) a a:=
 b.py b (λ_ _ _=>rfl) c
theorem Oc(L:DY C n rec){c:Code}{l:Nat}{σ:dF}{κ:dp}{pre rest:List cT}{z:List (Nat×List cT)}{p r:List Code}(hc:chain c l=some (p,r)){Q:QT}{ρ:Env}{a:Act}{w:World}(hf:Fits n a ρ)
  (h:ux rec p pre (DW (λρ' h'=>match σ.read ρ' with
     |some S=>gU (λs K h=>ux rec r rest (DX rec c z (QZ l σ κ (σ.vals s (κ.over ρ')) K (Lq c Q)) 4) (σ.vals s (κ.over ρ')) h) S h'
     |none=>False) (Lq c Q)) ρ w.heap):(Code.scope c).wp C.P (Out n Q ρ a w) a w:=by
 refine BM λb k cs=>?_;obtain⟨kk,U,Y,h3⟩:=pZ hc;refine h3 (kJ (λe a' w' y=>?_) _ _ _ (oE L _ _ _ ρ a w hf h));refine y.then (λρ' R x2 x3 T=>?_) (λy _=>?_)
 .split at T
  .rename_i S J;obtain⟨τ,V,I,μ,t0,e0,hI,i⟩:=T;subst e0;have g:=Jm (κ:=κ) R J;have x:∀(m:Nat) (t:τ) (v:Act) (u:World),μ t=m->I t u.heap->Fits n v (σ.vals (V t) (κ.over ρ'))->Ext ρ' (σ.vals (V t) (κ.over ρ')) a' v->dn w' u->
     np C.P r (Good C.P c (Out n Q ρ a w) b k cs) v u:=by
    intro m
    induction m using Nat.strongRecOn with
    |_ m ih=>
     intro t v u hm D E f d;refine kJ (λe X w2 y=>?_) _ _ _ (oE L _ _ _ _ v u E (i t u.heap D));obtain⟨ρ2,G,B,A,H⟩:=y;refine AR L (ρ:=σ.vals (V t) (κ.over ρ')) (a0:=v) (w0:=u) (λe O a3 Z q j z3 z4=>?_) 4 e ρ2 X w2 G B A H;cases e with
     |goto l'=>
      simp only[QZ]at z4;cases hb:wv l' l with
      |false=>
       rw[hb]at z4;exact nY q (x2.trans (f.trans j)) (x3.trans (d.trans z3)) z4
      |true=>
       rw[hb]at z4;have:=zy hb;subst this;simp only[Good,U];cases hw:within σ κ O (O.length-(σ.vals (V t) (κ.over ρ')).length)with
       |false=>grind
       |true=>
        rw[hw]at z4;split at z4
        .rename_i s' F;have o:∀t,σ.has t=false->(κ.over []).fe t=false->a3.tmps[t]?=a'.tmps[t]?:=λt N M=>by
          rw[j.within hw t N M,f.py t N M]
         obtain⟨u1,u2⟩:=R.py (κ:=κ) q o F;obtain⟨W,e1,i1,i2⟩:=z4;subst e1;exact Lu (Y (ih _ (by omega) W a3 Z rfl i1 u1 u2 (d.trans z3)))
        grind
     |normal=>exact nY q (x2.trans (f.trans j)) (x3.trans (d.trans z3)) z4
     |exit id=>exact nY q (x2.trans (f.trans j)) (x3.trans (d.trans z3)) z4
     |ret=>exact nY q (x2.trans (f.trans j)) (x3.trans (d.trans z3)) z4
     |panic ch=>exact nY q (x2.trans (f.trans j)) (x3.trans (d.trans z3)) z4
     |outgrown=>exact nY q (x2.trans (f.trans j)) (x3.trans (d.trans z3)) z4
   exact x _ t0 a' w' rfl hI g.1 g.2 (dn.refl _)
  grind
 .obtain⟨ρ1,G,B,A,H⟩:=y;exact nY G B A H
theorem ZY(R:C.Ok)(o:DY C n rec):DY C n (Lr C n rec):=by
 intro c ad Q ρ a w g h;have u:∀{σ:dF} {κ:dp} {K:σ.den->Heap->Prop} {e:Exit} {a':Act} {w':World},Out n (Gk σ κ ρ K Q) ρ a w e a' w'->(∀s h,K s h->Q .normal (σ.vals s (κ.over ρ)) h)->Out n Q ρ a w e a' w':=by
  intro σ κ K e a' w' j O;obtain⟨ρ',f,x2,x3,d⟩:=j;cases e with
  |normal=>
   simp only[Gk]at d;cases hw:within σ κ ρ' (ρ'.length-ρ.length)with
   |false=>rw[hw]at d;exact d.elim
   |true=>
    rw[hw]at d;simp only[cond_true]at d;split at d
    .rename_i s Y;obtain⟨G,F⟩:=g.py (κ:=κ) f (x2.within hw) Y;exact⟨_,G,F,x3,O _ _ d⟩
    .exact d.elim
  |exit id=>exact⟨ρ',f,x2,x3,d⟩
  |goto l=>exact⟨ρ',f,x2,x3,d⟩
  |ret=>exact⟨ρ',f,x2,x3,d⟩
  |panic ch=>exact⟨ρ',f,x2,x3,d⟩
  |outgrown=>exact⟨ρ',f,x2,x3,d⟩
 unfold Lr at h;split at h
 .rename_i σ κ x;obtain⟨K,hK,hB⟩:=h;exact wp_mono (o c x _ ρ a w g hB) λe a' w' j=>u j hK
 .split at h
  .exact wp_skip ⟨ρ,g,Ext.refl _ _,dn.refl _,h⟩
  .exact wp_label ⟨ρ,g,Ext.refl _ _,dn.refl _,h⟩
  .exact wp_mono (Lp R g h) λe a' w' j=>j.2
  .rename_i x y;refine wp_seq (wp_mono (o x _ _ ρ a w g h) λe a' w' j=>j.then (λρ' f x2 x3 d=>?_) λj _=>j);exact wp_mono (o y _ _ ρ' a' w' f d) λe ab ah j=>j.base x2 x3
  .rename_i x y z;split at h
   .rename_i t N;refine wp_cond_split (g.eval N) (λe=>?_) (λe=>?_)
    .subst e;exact o y _ _ ρ a w g h
    .subst e;exact o z _ _ ρ a w g h
   .exact h.elim
  .rename_i id x;refine wp_block (wp_mono (o x _ _ ρ a w g h) λe a' w' j=>?_);obtain⟨ρ',f,x2,x3,d⟩:=j;cases e with
   |exit i=>
    simp only[Exit.inBlock];simp only[TO]at d;cases hb:wv i id with
    |true=>
     rw[hb]at d;rw[if_pos (zy hb)];exact⟨ρ',f,x2,x3,d⟩
    |false=>
     rw[hb]at d;rw[if_neg λe=>by subst e;simp at hb];exact⟨ρ',f,x2,x3,d⟩
   |normal=>exact⟨ρ',f,x2,x3,d⟩
   |goto l=>exact⟨ρ',f,x2,x3,d⟩
   |ret=>exact⟨ρ',f,x2,x3,d⟩
   |panic ch=>exact⟨ρ',f,x2,x3,d⟩
   |outgrown=>exact⟨ρ',f,x2,x3,d⟩
  .exact wp_exit ⟨ρ,g,Ext.refl _ _,dn.refl _,h⟩
  .exact wp_goto ⟨ρ,g,Ext.refl _ _,dn.refl _,h⟩
  .exact wp_ret ⟨ρ,g,Ext.refl _ _,dn.refl _,h⟩
  .rename_i x;split at h
   .rename_i σ κ y _;split at h
    .rename_i s0 E;obtain⟨τ,V,I,μ,t0,S,W,q⟩:=h;subst S;have m:=Jm (κ:=κ) g E;refine TN (σ:=τ) (λt B D=>Fits n B (σ.vals (V t) (κ.over ρ))/\Ext ρ (σ.vals (V t) (κ.over ρ)) a B/\dn w D/\I t D.heap) (λt _=>μ t) t0 ⟨m.1,m.2,dn.refl _,W⟩ ?_;rintro t B D ⟨J,v,z3,z4⟩;refine wp_mono (o x y _ _ B D J (q t _ z4)) λe U w2 j=>?_;obtain⟨ρ',f,x2,x3,d⟩:=j;cases e with
     |normal=>
      simp only[Gk]at d;cases hw:within σ κ ρ' (ρ'.length-(σ.vals (V t) (κ.over ρ)).length)with
      |false=>rw[hw]at d;exact d.elim
      |true=>
       rw[hw]at d;simp only[cond_true]at d;split at d
       .rename_i s' H;have A:∀t,σ.has t=false->(κ.over []).fe t=false->U.tmps[t]?=a.tmps[t]?:=λt L M=>by
         rw[x2.within hw t L M,v.py t L M]
        obtain⟨G,F⟩:=g.py (κ:=κ) f A H;obtain⟨P,e1,X,T⟩:=d;subst e1;exact⟨P,⟨G,F,z3.trans x3,X⟩,T⟩
       .exact d.elim
     |exit id=>exact⟨ρ',f,v.trans x2,z3.trans x3,d⟩
     |goto l=>exact⟨ρ',f,v.trans x2,z3.trans x3,d⟩
     |ret=>exact⟨ρ',f,v.trans x2,z3.trans x3,d⟩
     |panic ch=>exact⟨ρ',f,v.trans x2,z3.trans x3,d⟩
     |outgrown=>exact⟨ρ',f,v.trans x2,z3.trans x3,d⟩
    .exact h.elim
   .exact h.elim
  .rename_i x;split at h
   .split at h
    .rename_i p r Z;exact Oc o Z g h
    .exact h.elim
   .refine BM λb k cs=>wp_mono (o x _ _ ρ a w g h) λe a' w' j=>?_;obtain⟨ρ',f,x2,x3,d⟩:=j;exact AR o (ρ:=ρ) (a0:=a) (w0:=w) (λe ρ3 a3 w3 J v z3 z4=>nY J v z3 z4) 4 e ρ' a' w' f x2 x3 d
   .exact h.elim
  .exact h.elim
theorem Lv(a:C.Ok):∀f,DY C n (vc C n f)
 |0=>λ_ _ _ _ _ _ _ h=>h.elim
 |f+1=>ZY a (Lv a f)
end
def Co(C:Ctx)(ρ:Env):List ResultVar->(List Value->Prop)->Heap->Prop
 |[],K,_=>K []
 | .tmp t::r,K,h=>match ρ.get t with
  |some v=>Co C ρ r (λvs=>K (v::vs)) h
  |none=>False
 | .cell a t::r,K,h=>match ta C.T (.load t (.tmp a)) ρ.eval with
  |some q=>∃y:q.ty.den,q.holds h y/\Co C ρ r (λvs=>K (q.ty.enc y::vs)) h
  |none=>False
def Cp:List Value->Value
 |[v]=>v
 |vs=>.tuple vs.toArray
def adK(C:Ctx)(rs:List ResultVar)(R:Value->Heap->Prop):QT
 | .normal,ρ,h=>Co C ρ rs (λvs=>R (Cp vs) h) h
 | .ret,ρ,h=>Co C ρ rs (λvs=>R (Cp vs) h) h
 |_,_,_=>False
def Cq:Nat->List Value->Env
 |_,[]=>[]
 |n,v::r=>.val n v::Cq (n+1) r
def TP(C:Ctx)(b:Func)(a:Nat)(d:cT)(args:List Value)(R:Value->Heap->Prop)(h:Heap):Prop:=
 match b.body with
 |some c=>vc C b.ntmps a c d (adK C b.results.toList R) (Cq 0 args) h
 |none=>False
theorem Gl:∀{args:List Value} {n t:Nat} {v:Value},(Cq n args).get t=some v->n<=t/\args[t-n]?=some v
 |[],_,_,_,h=>by cases h
 |u::r,n,t,v,h=>by
  simp only[Cq,Env.get]at h;cases hb:wv n t with
  |true=>
   have:=zy hb
   grind
  |false=>
   rw[hb]at h;obtain⟨b,a⟩:=Gl (args:=r) h
   grind
theorem WO{C:Ak}(d:C.Ok){ev:Operand->Option Value}{e:Operand->Value}(h:∀x v,ev x=some v->e x=v){t:TypeId}{x:Operand}{q:uw}
  (f:ta C.T (.load t x) ev=some q) {y:q.ty.den} {w:World} (g:q.holds w.heap y):(xF t (e x)).run C.P w=.ok (q.ty.enc y) w:=by
 have c:(do pure (Next.value (<-xF t (e x)))).run C.P w=.ok (.value (q.ty.enc y)) w:=AO d h (o:=⟨none,.load t x,0, "",#[],none⟩) f g;rw[Sem.run_bind]at c;cases hr:(xF t (e x)).run C.P w with
 |halt a b=>rw[hr]at c;cases c
 |ok v w'=>
  rw[hr]at c;cases c;rfl
theorem Ct{C:Ctx}(i:C.Ok){n:Nat}{a:Act}{ρ:Env}(d:Fits n a ρ):∀{rs:List ResultVar} {K:List Value->Prop} {w:World},Co C ρ rs K w.heap->
  ∃vs,(rs.mapM (λ| .tmp t=>pure (a.tmps.getD t undef)| .cell x t=>(do loadVar t (<-asAddr (a.tmps.getD x undef)))):Sem (List Value)).run C.P w=.ok vs w/\K vs
 |[],K,w,h=>⟨[],rfl,h⟩
 | .tmp t::r,K,w,h=>by
  simp only[Co]at h;split at h
  .rename_i v s;obtain⟨vs,g,k⟩:=Ct i d h;refine⟨v::vs,?_,k⟩;have j:a.tmps.getD t undef=v:=by simp[d.get t v s]
   rw[List.mapM_cons,Sem.run_bind,Sem.run_pure,Result.andThen_ok,Sem.run_bind,g,j];rfl
  grind
 | .cell x t::r,K,w,h=>by
  simp only[Co]at h;split at h
  .rename_i q f;obtain⟨y,p,h⟩:=h;obtain⟨vs,g,k⟩:=Ct i d h;refine⟨q.ty.enc y::vs,?_,k⟩;have m:=WO i.toOk (e:=a.eval) (λx v h=>d.eval h) f p;have o:∃c,a.eval (.tmp x)=.pointer (some c):=by
    unfold ta at f;simp only at f;split at f
    .rename_i c b;exact⟨c,d.eval b⟩
    grind
   obtain⟨c,b⟩:=o;have j:a.tmps.getD x undef=.pointer (some c):=b;rw[b]at m;rw[List.mapM_cons,Sem.run_bind];simp only[j];have l:(do loadVar t (<-asAddr (.pointer (some c)))).run C.P w=.ok (q.ty.enc y) w:=m;rw[l,Result.andThen_ok,Sem.run_bind,g];rfl
  grind
theorem PM{C:Ctx}(m:C.Ok){f:FuncId}{b:Func}(s:C.P.funcs[f]?=some b){a:Nat}{i:cT}{args:List Value}(z:args.length<=b.ntmps){R:Value->Heap->Prop}{h:Heap}
  (j:TP C b a i args R h):an C.P f args.toArray h R:=by
 rintro w rfl;unfold TP at j;split at j
 .rename_i c u;refine calls_of_wp s u ?_;have d:Fits b.ntmps {tmps:=args.toArray++vK (b.ntmps-args.toArray.size) undef,defers:=[]} (Cq 0 args):=by refine⟨by simp;omega,rfl,λt v p=>?_⟩;obtain⟨_,g⟩:=Gl p;rw[Nat.sub_zero]at g;have k:t<args.length:=(List.getElem?_eq_some_iff.1 g).1;simp only[Array.getElem?_append,List.size_toArray,k,if_true,List.getElem?_toArray];exact g
  refine wp_mono (Lv m a c i _ _ _ w d j) λe a' w' y=>?_;obtain⟨ρ',o,x2,x3,n⟩:=y;have fin:Co C ρ' b.results.toList (λvs=>R (Cp vs) w'.heap) w'.heap->a'.defers=[]/\∃v,(results b a'.tmps).run C.P w'=.ok v w'/\(∃l,Ending.returned v=.returned l/\dn w w'/\R l w'.heap):=λx=>by
   obtain⟨vs,q,g⟩:=Ct m o x;refine⟨o.defers,Cp vs,?_,Cp vs,rfl,x3,g⟩;unfold results;rw[vG,map_eq_pure_bind,bind_assoc,Sem.run_bind];refine(congrArg (λr=>Result.andThen r _) q).trans ?_;simp only[Result.andThen_ok,pure_bind,Sem.run_pure];cases vs with
   |nil=>rfl
   |cons v r=>cases r<;>rfl
  cases e<;>first|exact fin n|exact n.elim
 .exact j.elim
theorem abb{C:Ctx}(c:C.Ok){f:FuncId}{a:Func}(i:C.P.funcs[f]?=some a)(b:cT){args:List Value}{R:Value->Heap->Prop}{h:Heap}{Q:Prop}(d:Q)
  (g:xE args.length a.ntmps=true:=by kernel_rfl) (e:TP C a 300 b args R h=Q:=by kernel_rfl):an C.P f args.toArray h R:=PM c i (zK g) (cast e.symm d)
def bC(P:Program)(s:Sem Value)(r:Rt)(h:Heap)(K:r.den->Heap->Prop):Prop:=av P s h λv h'=>∃x:r.den,v=r.enc x/\K x h'
def oF(P:Program)(s:Sem Value)(h:Heap)(K:Addr->Heap->Prop):Prop:=av P s h λv h'=>∃a:Addr,v=.pointer (some a)/\K a h'
def jV(P:Program)(f:FuncId)(args:Array Value)(r:Rt)(h:Heap)(K:r.den->Heap->Prop):Prop:=an P f args h λv h'=>∃x:r.den,v=r.enc x/\K x h'
def th(C:Ctx)(g:FuncId)(args:List Value)(r:Rt)(h:Heap)(K:r.den->Heap->Prop):Prop:=
 match C.fns[g]? with
 |some true=>jV C.P g args.toArray r h K
 |_=>False
theorem fB{C:Ctx}{g:FuncId}{args:List Value}{r:Rt}{h:Heap}{K:r.den->Heap->Prop}(a:C.fns[g]?=some true)(b:jV C.P g args.toArray r h K):th C g args r h K:=by unfold th;rw[a];exact b
namespace Rk
open Go
inductive Er where
 |val (t:Nat) (v:Value)
 |tf (t:Nat) (b:Nat)
abbrev Ev:=List Er
def abc:Nat->Value
 |0=>.bool false
 |_+1=>.bool true
def Rb:Bool->Value->Ev->Nat->Value
 |true,x,_,_=>x
 |false,_,[],_=>.tuple #[]
 |false,_,.val s x::r,t=>Rb (s==t) x r t
 |false,_,.tf s n::r,t=>Rb (s==t) (abc n) r t
abbrev Fi(ρ:Ev)(t:Nat):Value:=Rb false (.tuple #[]) ρ t
inductive Gd where
 |k (n:Nat)
 |v (v:Value)
def KX:Bool->Gd->Ev->Nat->Gd
 |true,x,_,_=>x
 |false,_,[],_=>.k 0
 |false,_,.val s x::r,t=>KX (s==t) (.v x) r t
 |false,_,.tf s n::r,t=>KX (s==t) (.k n) r t
abbrev abd(ρ:Ev)(t:Nat):Gd:=KX false (.k 0) ρ t
def ff(ρ:Ev):Operand->Value
 | .tmp t=>Fi ρ t
 | .const v=>v
 | .global g=>.pointer (some ⟨g,0,none⟩)
 | .func f=>.func (.func f) #[] #[]
def Gm(ρ:Ev):List Operand->List Value
 |[]=>[]
 |x::r=>ff ρ x::Gm ρ r
def KY(ρ:Ev):List (Nat×Operand)->List (Nat×Value)
 |[]=>[]
 |(n,x)::r=>(n,ff ρ x)::KY ρ r
def Gn(ρ:Ev):Option Operand->Option Value
 |none=>none
 |some x=>some (ff ρ x)
def Rc:Bool->Bool
 |true=>false
 |false=>true
def abe:Bool->Bool->Bool
 |true,b=>b
 |false,_=>false
def WP:Bool->Bool->Bool
 |true,_=>true
 |false,b=>b
def Fj:Bool->Bool->Bool
 |true,b=>Rc b
 |false,_=>false
def mS{α:Type}(d:α):List α->Nat->α
 |[],_=>d
 |a::_,0=>a
 |_::r,n+1=>mS d r n
def Lw{α:Type}:Nat->List α->List α
 |0,l=>l
 |_+1,[]=>[]
 |n+1,_::r=>Lw n r
def Lx{α:Type}:Nat->List α->List α
 |0,_=>[]
 |_+1,[]=>[]
 |n+1,a::r=>a::Lx n r
def rc{α:Type}:List α->List α->List α
 |[],m=>m
 |a::r,m=>a::rc r m
def WQ{α:Type}:List α->Nat
 |[]=>0
 |_::r=>WQ r+1
def Re:TI:=⟨.other,.sc .any,0,0,[]⟩
def abf(l:List TI)(t:Nat):TI:=mS Re l t
def Rf:ng->Nat->Nat×TypeId
 | .struct fs,f=>mS (0,0) fs f
 | .int _,_| .bool,_| .str,_| .flt,_| .cpx,_| .mp,_| .fn,_| .other,_| .slice _,_| .array ..,_| .ptr _,_=>(0,0)
def Gp:ng->TypeId
 | .slice e=>e
 | .array _ e=>e
 | .int _| .bool| .str| .flt| .cpx| .mp| .fn| .other| .struct _| .ptr _=>0
inductive Rz:Type 1 where
 |val (v:Value)
 |cond (c:Prop) (v:Value)
 |ex (X:Type) (c:X->Prop) (v:X->Value)
 |br (b:Bool) (x y:Value)
 |ld (a:Addr) (t:Ty) (n:Nat)
 |ru (α:Type) (s:Sem α)
 |ra (s:Sem Value)
 |rr (s:Sem Value) (t:Rt)
 |ca (f:FuncId) (l:List Value) (t:Rt)
 |dy (f:FuncId) (l:List Value) (t:Rt)
 |bad
def abg:Value->Value->Value->Rz
 | .bool b,x,y=>.br b x y
 |_,_,_=>.bad
def abh:Value->Rz
 | .pointer p=>.ex Addr (λa=>p=some a) (λa=>.pointer (some a))
 |_=>.bad
def abi:Value->Nat->Rz
 | .pointer (some a),n=>.val (.pointer (some (a.add n)))
 |_,_=>.bad
def abj:Value->Value->ng->Nat->Rz
 | .slice p len _,.int _ n,.slice _,z=>.ex Addr (λa=>p=some a/\0<=n/\n<(len:Int)) (λa=>.pointer (some (a.add (n.toNat*z))))
 | .pointer (some a),.int _ n,.array m _,z=>.cond (0<=n/\n<(m:Int)) (.pointer (some (a.add (n.toNat*z))))
 |_,_,_,_=>.bad
def YP:Ty->Nat->List Value->Int->Array Value->Rz
 | .sc s,m,_,n,cs=>.ex s.den (λy=>0<=n/\n<(m:Int)/\cs[n.toNat]?=some (s.enc y)) (λy=>s.enc y)
 |_,_,_,_,_=>.bad
def abk:Value->Value->ng->Ty->Rz
 | .string s,.int _ n,.str,_=>.ex UInt8 (λb=>0<=n/\s.data[n.toNat]?=some b) (λb=>.int .u8 b.toNat)
 | .agg cs,.int _ n,.array m _,t=>YP t m [] n cs
 |_,_,_,_=>.bad
def YQ:ng->List Value->Nat->Nat->Value
 | .struct _,cs,o,z=>.agg (Lx z (Lw o cs)).toArray
 | .array ..,cs,o,z=>.agg (Lx z (Lw o cs)).toArray
 | .int _,cs,o,_| .bool,cs,o,_| .str,cs,o,_| .flt,cs,o,_| .cpx,cs,o,_| .mp,cs,o,_| .fn,cs,o,_| .other,cs,o,_| .slice _,cs,o,_| .ptr _,cs,o,_=>mS (.tuple #[]) cs o
def abl:Value->Nat->TI->Rz
 | .agg cs,o,i=>.val (YQ i.co cs.toList o i.size)
 |_,_,_=>.bad
def abm:Value->Nat->Rz
 | .tuple vs,n=>.val (mS (.tuple #[]) vs.toList n)
 |_,_=>.bad
def abn:Value->ng->Nat->Option Value->Option Value->Rz
 | .slice p n c,.slice _,_,none,none=>.val (.slice p n c)
 | .slice p _ c,.slice _,_,none,some (.int _ r)=>.cond (0<=r/\r<=(c:Int)) (.slice p r.toNat c)
 | .slice p n c,.slice _,z,some (.int _ l),none=>.cond (0<=l/\l<=(n:Int)) (.slice (if c=l.toNat then p else p.map (·.add (l.toNat*z))) (n-l.toNat) (c-l.toNat))
 | .slice p _ c,.slice _,z,some (.int _ l),some (.int _ r)=>.cond (0<=l/\l<=r/\r<=(c:Int)) (.slice (if c=l.toNat then p else p.map (·.add (l.toNat*z))) (r.toNat-l.toNat) (c-l.toNat))
 | .string s,.str,_,none,none=>.val (.string (s.extract 0 s.size))
 | .string s,.str,_,none,some (.int _ r)=>.cond (0<=r/\r<=(s.size:Int)) (.string (s.extract 0 r.toNat))
 | .string s,.str,_,some (.int _ l),none=>.cond (0<=l/\l<=(s.size:Int)) (.string (s.extract l.toNat s.size))
 | .string s,.str,_,some (.int _ l),some (.int _ r)=>.cond (0<=l/\l<=r/\r<=(s.size:Int)) (.string (s.extract l.toNat r.toNat))
 | .pointer (some a),.array n _,_,none,none=>.val (.slice (some a) n n)
 | .pointer (some a),.array n _,_,none,some (.int _ r)=>.cond (0<=r/\r<=(n:Int)) (.slice (some a) r.toNat n)
 | .pointer (some a),.array n _,z,some (.int _ l),none=>.cond (0<=l/\l<=(n:Int)) (.slice (some (if n=l.toNat then a else a.add (l.toNat*z))) (n-l.toNat) (n-l.toNat))
 | .pointer (some a),.array n _,z,some (.int _ l),some (.int _ r)=>.cond (0<=l/\l<=r/\r<=(n:Int)) (.slice (some (if n=l.toNat then a else a.add (l.toNat*z))) (r.toNat-l.toNat) (n-l.toNat))
 |_,_,_,_,_=>.bad
def abo(k:IntKind)(a b:Int):BinOp->Rz
 | .add=>.val (.int k (k.wrap (a+b)))
 | .sub=>.val (.int k (k.wrap (a-b)))
 | .mul=>.val (.int k (k.wrap (a*b)))
 | .quo=>.cond (b≠0) (.int k (k.wrap (a.tdiv b)))
 | .rem=>.cond (b≠0) (.int k (a.tmod b))
 | .and=>.val (.int k (k.wrap (qH k.bits a&&&qH k.bits b).toNat))
 | .or=>.val (.int k (k.wrap (qH k.bits a|||qH k.bits b).toNat))
 | .xor=>.val (.int k (k.wrap (qH k.bits a^^^qH k.bits b).toNat))
 | .andNot=>.val (.int k (k.wrap (qH k.bits a&&&~~~qH k.bits b).toNat))
 | .shl=>.cond (0<=b) (.int k (k.wrap (a*2^min b.toNat k.bits)))
 | .shr=>.cond (0<=b) (.int k (a.fdiv (2^min b.toNat k.bits)))
 | .eql=>.val (.bool (a==b))
 | .neq=>.val (.bool (a !=b))
 | .lss=>.val (.bool (decide (a<b)))
 | .leq=>.val (.bool (decide (a<=b)))
 | .gtr=>.val (.bool (decide (a>b)))
 | .geq=>.val (.bool (decide (a>=b)))
def abp(a b:ByteArray):BinOp->Rz
 | .eql=>.val (.bool (a.toList==b.toList))
 | .neq=>.val (.bool (!(a.toList==b.toList)))
 | .lss=>.val (.bool (Op.bytesLess a.toList b.toList))
 | .leq=>.val (.bool (Op.bytesLess a.toList b.toList||a.toList==b.toList))
 | .gtr=>.val (.bool (!(Op.bytesLess a.toList b.toList||a.toList==b.toList)))
 | .geq=>.val (.bool (!(Op.bytesLess a.toList b.toList)))
 | .add=>.cond (((a.size+b.size:Nat):Int)<=xV.max) (.string (a++b))
 |_=>.bad
def abq(a b:Bool):BinOp->Rz
 | .eql=>.val (.bool (a==b))
 | .neq=>.val (.bool (!(a==b)))
 |_=>.bad
def abr(k:FloatKind)(a b:Nat):BinOp->Rz
 | .add=>.ex Nat (λr=>k.format.add a b=some r) (λr=>.float k r)
 | .sub=>.ex Nat (λr=>k.format.sub a b=some r) (λr=>.float k r)
 | .mul=>.ex Nat (λr=>k.format.mul a b=some r) (λr=>.float k r)
 | .quo=>.ex Nat (λr=>k.format.div a b=some r) (λr=>.float k r)
 | .eql=>.val (.bool (k.format.order a b==some .eq))
 | .neq=>.val (.bool (k.format.order a b !=some .eq))
 | .lss=>.val (.bool (k.format.order a b==some .lt))
 | .gtr=>.val (.bool (k.format.order a b==some .gt))
 |_=>.bad
def Ly{α:Type}(p:Option α):BinOp->Rz
 | .eql=>.val (.bool p.isNone)
 | .neq=>.val (.bool (!p.isNone))
 |_=>.bad
def abs(P:Program)(k:FloatKind)(op:BinOp)(t:TypeId)(x y:Operand)(a b:Value):BinOp->Rz
 | .eql=>.ex Bool (λr=>ko P op t x y a b (.bool r)) (λr=>.bool r)
 | .neq=>.ex Bool (λr=>ko P op t x y a b (.bool r)) (λr=>.bool r)
 |_=>.ex (Nat×Nat) (λr=>ko P op t x y a b (.complex k r.1 r.2)) (λr=>.complex k r.1 r.2)
def Rh(P:Program)(op:BinOp)(t:TypeId)(x y:Operand)(a b:Value):Rz:=.ex Bool (λr=>ko P op t x y a b (.bool r)) (λr=>.bool r)
def abt(P:Program)(op:BinOp)(t:TypeId)(x:Operand)(p q:Option Addr):Operand->Rz
 | .tmp n=>Rh P op t x (.tmp n) (.pointer p) (.pointer q)
 | .const _=>Ly p op
 | .global _=>Ly p op
 | .func _=>Ly p op
def YR(P:Program)(op:BinOp)(t:TypeId)(x y:Operand):Value->Value->Rz
 | .int k a,.int _ b=>abo k a b op
 | .float k a,.float _ b=>abr k a b op
 | .string a,.string b=>abp a b op
 | .bool a,.bool b=>abq a b op
 | .pointer a,.pointer b=>abt P op t x a b y
 | .slice a _ _,.slice .. =>Ly a op
 | .agg a,.agg b=>Rh P op t x y (.agg a) (.agg b)
 | .complex k a b,.complex k' c e=>abs P k op t x y (.complex k a b) (.complex k' c e) op
 |a,.nilIface=>Rh P op t x y a .nilIface
 |_,_=>.bad
def abu:UnOp->Value->Rz
 | .not,.bool b=>.val (.bool !b)
 | .neg,.int k n=>.val (.int k (k.wrap (0-n)))
 | .xor,.int k n=>.val (.int k (k.wrap (qH k.bits (if k.signed then-1 else k.max)^^^qH k.bits n).toNat))
 |_,_=>.bad
def abv(s d:TypeId)(v:Value)(a:Ty):ng->ng->Value->Rz
 | .int _,.int k,.int _ n=>.val (.int k (k.wrap n))
 |_,_,_=>.rr (convert s d v) (.one a)
def PN:Value->List Value
 | .agg cs=>cs.toList
 | .bool b=>[.bool b]
 | .int k n=>[.int k n]
 | .float k n=>[.float k n]
 | .complex k a b=>[.complex k a b]
 | .string s=>[.string s]
 | .pointer a=>[.pointer a]
 | .slice a l c=>[.slice a l c]
 | .map r=>[.map r]
 | .chan r=>[.chan r]
 | .func f a c=>[.func f a c]
 | .nilFunc=>[.nilFunc]
 | .iface t v=>[.iface t v]
 | .nilIface=>[.nilIface]
 | .tuple vs=>[.tuple vs]
def YS(l:List Value)(o:Nat)(c:List Value):List Value:=rc (Lx o l) (rc c (Lw (o+WQ c) l))
def TQ:ng->Nat->Nat->Nat
 | .struct fs,_,n=>(mS (0,0) fs n).1
 | .array _ _,z,n=>n*z
 | .int _,_,_| .bool,_,_| .str,_,_| .flt,_,_| .cpx,_,_| .mp,_,_| .fn,_,_| .other,_,_| .slice _,_,_| .ptr _,_,_=>0
def Ri(d:ng)(z:Nat):List Value->List (Nat×Value)->List Value
 |l,[]=>l
 |l,(n,v)::r=>Ri d z (YS l (TQ d z n) (PN v)) r
def abw:Nat->Bool
 |0=>false
 |_+1=>true
def YT(P:Program)(t:TypeId)(i:TI)(z:Nat)(vs:List (Nat×Value)):Bool->Rz
 |true=>.ex Value (λv=>aL P (xy t vs.toArray) v) (λv=>v)
 |false=>.val (.agg (Ri i.co z i.zero vs).toArray)
def Rj:Value->TI->Rz
 | .pointer (some a),i=>.ld a i.ty i.size
 |_,_=>.bad
def TR(a:Array TypeId)(ty:TypeId):Value->Rz
 | .slice _ n _=>.val (.int .i64 n)
 | .string s=>.val (.int .i64 s.size)
 | .map r=>.rr (xL a ty #[.map r]) (.one (.sc (.int .i64)))
 |_=>.bad
def TS:Value->Rz
 | .slice _ _ n=>.val (.int .i64 n)
 |_=>.bad
def WR:Bool->List Value->Rz
 |true,[.int k a,.int _ b]=>.val (.int k (if b>a then b else a))
 |false,[.int k a,.int _ b]=>.val (.int k (if b<a then b else a))
 |_,_=>.bad
def Rl:Bool->List Value->Rz
 |true,[.complex k a _]=>.val (.float k a)
 |false,[.complex k _ b]=>.val (.float k b)
 |_,_=>.bad
def WS(T:Nat->TI)(t:TypeId):Bool->List Ty->List (TypeId×List Ty)->Rt
 |true,l,_=>.many l
 |false,_,[]=>.one (T t).ty
 |false,_,(k,l)::r=>WS T t (k==t) l r
abbrev Rm(T:Nat->TI)(t:TypeId)(l:List (TypeId×List Ty)):Rt:=WS T t false [] l
def YU:Value->List Value->Rt->Rz
 | .func (.func g) a c,l,t=>.dy g (a.toList++l++c.toList) t
 |_,_,_=>.bad
def YV(a:Array TypeId)(ty:TypeId)(vs:List Value):Builtin->Rz
 | .append=>.rr (zb a ty vs.toArray) (.one (.sc .slc))
 | .copy=>.rr (yU a ty vs.toArray) (.one (.sc (.int .i64)))
 | .clear=>.ru Value (vV a ty vs.toArray)
 | .delete=>.ru Value (Builtin.delete_ a ty vs.toArray)
 | .unsafeString=>.rr (Builtin.unsafeString_ a ty vs.toArray) (.one (.sc .str))
 | .len=>TR a ty (mS (.tuple #[]) vs 0)
 | .cap=>TS (mS (.tuple #[]) vs 0)
 | .min=>WR false vs
 | .max=>WR true vs
 | .real=>Rl true vs
 | .imag=>Rl false vs
 |_=>.bad
def YW(T:Nat->TI)(tup:List (TypeId×List Ty))(ρ:Ev)(ty:TypeId)(vs:List Value)(a:Array TypeId):Callee->Rz
 | .value (.func f)=>.ca f vs (Rm T ty tup)
 | .value (.tmp t)=>YU (Fi ρ t) vs (Rm T ty tup)
 | .builtin b=>YV a ty vs b
 |_=>.bad
def YX(P:Program)(T:Nat->TI)(tup:List (TypeId×List Ty))(ty:TypeId)(ρ:Ev):Op->Rz
 | .move x=>.val (ff ρ x)
 | .assign x=>.val (ff ρ x)
 | .pick c a b=>abg (ff ρ c) (ff ρ a) (ff ρ b)
 | .nilCheck x=>abh (ff ρ x)
 | .fieldAddr s x f=>abi (ff ρ x) (Rf (T s).co f).1
 | .indexAddr t x i=>abj (ff ρ x) (ff ρ i) (T t).co (T (Gp (T t).co)).size
 | .index t x i=>abk (ff ρ x) (ff ρ i) (T t).co (T (Gp (T t).co)).ty
 | .field s x f=>abl (ff ρ x) (Rf (T s).co f).1 (T (Rf (T s).co f).2)
 | .slice t x Fj hi none=>abn (ff ρ x) (T t).co (T (Gp (T t).co)).size (Gn ρ Fj) (Gn ρ hi)
 | .slice t x Fj hi (some m)=>.rr (ye t (ff ρ x) (Gn ρ Fj) (Gn ρ hi) (some (ff ρ m))) (.one (.sc .slc))
 | .extract x n=>abm (ff ρ x) n
 | .binOp op t x y _=>YR P op t x y (ff ρ x) (ff ρ y)
 | .unOp op _ x=>abu op (ff ρ x)
 | .convert s d x=>abv s d (ff ρ x) (T ty).ty (T s).co (T d).co (ff ρ x)
 | .build t ps=>YT P t (T t) (T (Gp (T t).co)).size (KY ρ ps.toList) (abw ((T t).size-24))
 | .makeFunc f a c=>.val (.func f (Gm ρ a.toList).toArray (Gm ρ c.toList).toArray)
 | .load t x=>Rj (ff ρ x) (T t)
 | .store t a x=>.ru Unit (qL t (ff ρ a) (ff ρ x))
 | .alloc t=>.ra (y8 t true (.tuple #[]))
 | .box t x=>.ra (xn t (ff ρ x))
 | .makeSlice t l c=>.rr (zF t (ff ρ l) (ff ρ c)) (.one (.sc .slc))
 | .buildSlice t n ps=>.rr (zJ t n (KY ρ ps.toList).toArray) (.one (.sc .slc))
 | .makeMap t none=>.rr (Instr.makeMap t none) (.one (.sc .mp))
 | .lookup t x i ok=>.rr (Instr.lookup t (ff ρ x) (ff ρ i) ok) (Rm T ty tup)
 | .mapUpdate t m k x=>.ru Unit (xA t (ff ρ m) (ff ρ k) (ff ρ x))
 | .insert t m k x=>.ru Unit (xA t (ff ρ m) (ff ρ k) (ff ρ x))
 | .call ⟨c,as,tys⟩=>YW T tup ρ ty (Gm ρ as.toList) tys c
 |_=>.bad
inductive Kt:Type 1 where
 |top (rs:List ResultVar)
 |seq (c:Code) (a:cT) (k:Kt)
 |blk (id:Nat) (k:Kt)
 |jn (σ:dF) (K:σ.den->Heap->Prop) (k:Kt)
 |back (l:Nat) (σ:dF) (K:σ.den->Heap->Prop) (k:Kt)
 |lst (cs:List Code) (as:List cT) (k:Kt)
 |jmp (c:Code) (fwd:List (Nat×List cT)) (k:Kt)
 |hd (l:Nat) (σ:dF) (r:List Code) (as:List cT) (fwd:List (Nat×List cT)) (c:Code) (k:Kt)
def Lz:cT->cT
 | .two a _=>a
 | .n| .inn _| .loop .. | .join .. | .scope .. | .fwd .. =>.n
def LA:cT->cT
 | .two _ b=>b
 | .n| .inn _| .loop .. | .join .. | .scope .. | .fwd .. =>.n
def TT:cT->cT
 | .inn a=>a
 | .n| .two .. | .loop .. | .join .. | .scope .. | .fwd .. =>.n
def YY(a b:Code):Option (List Code×List Code)->Option (List Code×List Code)->Option (List Code×List Code)
 |some (p,r),_=>some (p,rc r [b])
 |none,some (p,r)=>some (a::p,r)
 |none,none=>none
def YZ:Bool->Option (List Code×List Code)
 |true=>some ([],[])
 |false=>none
def Gq:Code->Nat->Option (List Code×List Code)
 | .seq a b,l=>YY a b (Gq a l) (Gq b l)
 | .label k,l=>YZ (k==l)
 | .skip,_| .region ..,_| .cond ..,_| .block ..,_| .loop _,_| .rangeFunc ..,_| .exit _,_| .scope _,_| .goto _,_| .ret,_| .refuse _,_=>none
def Rn:Bool->List cT->List (Nat×List cT)->Nat->Option (List cT)
 |true,x,_,_=>some x
 |false,_,[],_=>none
 |false,_,(k,x)::r,l=>Rn (k==l) x r l
abbrev Za(w:List (Nat×List cT))(l:Nat):Option (List cT):=Rn false [] w l
def Gr:(s:Sc)->Value->Option s.den
 | .int _,.int _ n=>some n
 | .bool,.bool x=>some x
 | .str,.string x=>some x
 | .ptr,.pointer a=>some a
 | .slc,.slice a l c=>some ⟨a,l,c⟩
 | .flt _,.float _ n=>some n
 | .cpx _,.complex _ a b=>some (a,b)
 | .mp,.map r=>some r
 | .fn,.func (.func g) f c=>some (g,f,c)
 | .any,v=>some v
 | .adr,.pointer (some a)=>some a
 |_,_=>none
def WT{α β:Type}:Option α->Option β->Option (α×β)
 |some a,some b=>some (a,b)
 |some _,none=>none
 |none,_=>none
def Ik:(l:List Sc)->List Value->Option (uX l)
 |[],_=>some ()
 |[s],[v]=>Gr s v
 |s::t::r,v::vs=>WT (Gr s v) (Ik (t::r) vs)
 |_::_,_=>none
def LB:(t:Ty)->Value->Option t.den
 | .sc s,v=>Gr s v
 | .agg l,.agg cs=>Ik l cs.toList
 |_,_=>none
def Il:(σ:dF)->Ev->Option σ.den
 |[],_=>some ()
 |[(t,y)],ρ=>LB y (Fi ρ t)
 |(t,y)::x::r,ρ=>WT (LB y (Fi ρ t)) (Il (x::r) ρ)
def Gs:(σ:dF)->σ.den->Ev->Ev
 |[],_,ρ=>ρ
 |[(t,y)],x,ρ=>.val t (y.enc x)::ρ
 |(t,y)::z::r,x,ρ=>.val t (y.enc x.1)::Gs (z::r) x.2 ρ
def WU{α:Type}(K:α->Heap->Prop)(h:Heap):Option α->Prop
 |some s=>K s h
 |none=>False
def Im{σ:Type}(B:σ->(σ->Heap->Prop)->Heap->Prop)(h:Heap):Option σ->Prop
 |some s=>gU B s h
 |none=>False
inductive Hd where
 |l (c:bF)
 |a (a:Addr) (vs:List Value)
abbrev Hi:=List (Nat×Hd)
def Gt:List Oper->Nat->List (Nat×Oper)
 |[],_=>[]
 |o::r,n=>(n,o)::Gt r (n+1)
def Gu(l:List (Nat×Oper)):List Nat->List (Nat×Oper)
 |[]=>[]
 |n::r=>mS (0,⟨none,.ready 0,0, "",#[],none⟩) l n::Gu l r
inductive Sd where
 |l (ns:List Nat)
 |y (ns:List Nat) (a b:Sd)
def WV(id:Nat):Bool->Sd->List (Nat×Sd)->Option Sd
 |true,x,_=>some x
 |false,_,[]=>none
 |false,_,(k,x)::r=>WV id (k==id) x r
def WW:Nat×Oper->Nat
 |(_,⟨some d,_,_,_,_,_⟩)=>d
 |(_,⟨none,_,_,_,_,_⟩)=>0
def Zb:Ground->Bool
 | .data| .chain| .guard| .phase=>true
 | .textOnly _| .gcOnly _=>false
def WX:List Edge->Nat->Bool
 |[],_=>false
 |⟨n,g⟩::r,i=>WP (abe (Zb g) (n==i)) (WX r i)
def Ro:Bool->Nat×Hd->Hi->Hi
 |true,_,r=>r
 |false,p,r=>p::r
def LC(e:List Edge):Hi->Hi
 |[]=>[]
 |p::r=>Ro (WX e p.1) p (LC e r)
def KZ:Hi->bF
 |[]=>[]
 |(_,.l c)::r=>rc c (KZ r)
 |(_,.a x vs)::r=>nN x 0 vs (KZ r)
def Fk(e:List Edge)(L:Hi)(h:Heap):Bool->Prop->Prop
 |true,X=>bF.ok (KZ (LC e L)) h/\X
 |false,X=>X
def Zc(e:List Edge)(L:Hi):Bool->Hi
 |true=>LC e L
 |false=>L
def Io(e:List Edge)(L:Hi):Bool->Hi
 |true=>LC e L
 |false=>[]
def nP:Option Tmp->Value->Ev->Ev
 |some d,v,ρ=>.val d v::ρ
 |none,_,ρ=>ρ
def Rp(dr:Bool)(n:Nat)(c:Hd)(L:Hi):Hi:=Ro (Rc dr) (n,c) L
def WY(a:Addr):Nat->List Value->bF
 |_,[]=>[]
 |n,v::r=>(a.add n,v)::WY a (n+1) r
def Rq:Ty->Bool
 | .sc .slc=>true
 |_=>false
def Rr(T:Nat->TI):Op->Bool
 | .convert s d _=>Rc (WP (Rq (T s).ty) (Rq (T d).ty))
 | .move _| .assign _| .pick .. | .nilCheck _| .fieldAddr .. | .indexAddr .. | .index .. | .field .. | .extract .. | .binOp .. | .unOp .. | .build .. | .makeFunc .. | .load .. =>true
 | .slice _ _ _ _ none=>true
 | .call ⟨.builtin .len,_,_⟩| .call ⟨.builtin .cap,_,_⟩| .call ⟨.builtin .min,_,_⟩| .call ⟨.builtin .max,_,_⟩| .call ⟨.builtin .real,_,_⟩| .call ⟨.builtin .imag,_,_⟩=>true
 |_=>false
inductive Al where
 |n
 |y (a b:Sd)
structure Rg where
 all:List (Nat×Oper)
 dr:Bool
 al:Al
inductive St:Type 1 where
 |ex (c:Code) (a:cT) (k:Kt) (ρ:Ev)
 |e2 (c:Code) (a:cT) (k:Kt) (ρ:Ev)
 |cd (v:Value) (c d:Code) (a:cT) (k:Kt) (ρ:Ev)
 |ap (e:Exit) (k:Kt) (ρ:Ev)
 |bs (b:Bool) (x y:St)
 |fin (σ:dF) (K:σ.den->Heap->Prop) (ρ:Ev)
 |jp (o:Option (List cT)) (q:Option (List Code×List Code)) (l:Nat) (c:Code) (fwd:List (Nat×List cT)) (k:Kt) (ρ:Ev)
 |sc (q:Option (List Code×List Code)) (l:Nat) (σ:dF) (pre rest:List cT) (fwd:List (Nat×List cT)) (c:Code) (k:Kt) (ρ:Ev)
 |rg (os:List (Nat×Oper)) (r:Rg) (L:Hi) (k:Kt) (ρ:Ev)
 |so (o:Option Sd) (all:List (Nat×Oper)) (k:Kt) (ρ:Ev)
 |st (s:Sd) (all:List (Nat×Oper)) (dr:Bool) (L:Hi) (k:Kt) (ρ:Ev)
 |gd (g:Gd) (w:Bool) (d n:Nat) (o:Oper) (os:List (Nat×Oper)) (r:Rg) (L:Hi) (k:Kt) (ρ:Ev)
 |on (n:Nat) (o:Oper) (os:List (Nat×Oper)) (r:Rg) (L:Hi) (k:Kt) (ρ:Ev)
 |sk (n:Nat) (o:Oper) (os:List (Nat×Oper)) (r:Rg) (L:Hi) (k:Kt) (ρ:Ev)
 |rs (z:Rz) (n:Nat) (d:Option Tmp) (e:List Edge) (os:List (Nat×Oper)) (r:Rg) (L:Hi) (k:Kt) (ρ:Ev)
 |re (rs:List ResultVar) (acc:List Value) (ρ:Ev)
 |rl (z:Rz) (rs:List ResultVar) (acc:List Value) (ρ:Ev)
def bp(C:Ctx)(T:Nat->TI)(S:List (Nat×Sd))(R:Value->Heap->Prop):Nat->St->Heap->Prop
 |0,_,_=>False
 |f+1,.ex c (.join σ _ a) k ρ,h=>DV (λs h=>bp C T S R f (.ap .normal k (Gs σ s ρ)) h) (λK=>bp C T S R f (.e2 c a (.jn σ K k) ρ) h)
 |f+1,.ex c .n k ρ,h=>bp C T S R f (.e2 c .n k ρ) h
 |f+1,.ex c (.two a b) k ρ,h=>bp C T S R f (.e2 c (.two a b) k ρ) h
 |f+1,.ex c (.inn a) k ρ,h=>bp C T S R f (.e2 c (.inn a) k ρ) h
 |f+1,.ex c (.loop σ κ a) k ρ,h=>bp C T S R f (.e2 c (.loop σ κ a) k ρ) h
 |f+1,.ex c (.scope l σ κ p r w) k ρ,h=>bp C T S R f (.e2 c (.scope l σ κ p r w) k ρ) h
 |f+1,.ex c (.fwd a w) k ρ,h=>bp C T S R f (.e2 c (.fwd a w) k ρ) h
 |f+1,.e2 .skip _ k ρ,h=>bp C T S R f (.ap .normal k ρ) h
 |f+1,.e2 (.label _) _ k ρ,h=>bp C T S R f (.ap .normal k ρ) h
 |f+1,.e2 (.region id ops true) _ k ρ,h=>bp C T S R f (.so (WV id false (.l []) S) (Gt ops.toList 0) k ρ) h
 |f+1,.e2 (.region _ ops false) _ k ρ,h=>bp C T S R f (.rg (Gt ops.toList 0) ⟨Gt ops.toList 0,false,.n⟩ [] k ρ) h
 |f+1,.e2 (.seq x y) a k ρ,h=>bp C T S R f (.ex x (Lz a) (.seq y (LA a) k) ρ) h
 |f+1,.e2 (.cond x c d) a k ρ,h=>bp C T S R f (.cd (ff ρ x) c d a k ρ) h
 |f+1,.e2 (.block id c) a k ρ,h=>bp C T S R f (.ex c (TT a) (.blk id k) ρ) h
 |f+1,.e2 (.exit id) _ k ρ,h=>bp C T S R f (.ap (.exit id) k ρ) h
 |f+1,.e2 (.goto l) _ k ρ,h=>bp C T S R f (.ap (.goto l) k ρ) h
 |f+1,.e2 .ret _ k ρ,h=>bp C T S R f (.ap .ret k ρ) h
 |f+1,.e2 (.loop c) (.loop σ _ a) k ρ,h=>Im (λs K h=>bp C T S R f (.ex c a (.jn σ K k) (Gs σ s ρ)) h) h (Il σ ρ)
 |f+1,.e2 (.scope c) (.scope l σ _ pre rest fwd) k ρ,h=>bp C T S R f (.sc (Gq c l) l σ pre rest fwd c k ρ) h
 |f+1,.e2 (.scope c) (.fwd a fwd) k ρ,h=>bp C T S R f (.ex c a (.jmp c fwd k) ρ) h
 |f+1,.cd (.bool t) c d a k ρ,h=>Br t (bp C T S R f (.ex c (Lz a) k ρ) h) (bp C T S R f (.ex d (LA a) k ρ) h)
 |f+1,.sc (some (p,r)) l σ pre rest fwd c k ρ,h=>bp C T S R f (.ap .normal (.lst p pre (.hd l σ r rest fwd c k)) ρ) h
 |f+1,.bs true x _,h=>bp C T S R f x h
 |f+1,.bs false _ y,h=>bp C T S R f y h
 |f+1,.fin σ K ρ,h=>WU K h (Il σ ρ)
 |f+1,.jp (some xs) (some (_,r)) _ c fwd k ρ,h=>bp C T S R f (.ap .normal (.lst r xs (.jmp c fwd k)) ρ) h
 |f+1,.jp none _ l _ _ k ρ,h=>bp C T S R f (.ap (.goto l) k ρ) h
 |f+1,.ap .normal (.top rs) ρ,h=>bp C T S R f (.re rs [] ρ) h
 |f+1,.ap .ret (.top rs) ρ,h=>bp C T S R f (.re rs [] ρ) h
 |f+1,.ap .normal (.seq c a k) ρ,h=>bp C T S R f (.ex c a k ρ) h
 |f+1,.ap (.exit i) (.seq _ _ k) ρ,h=>bp C T S R f (.ap (.exit i) k ρ) h
 |f+1,.ap (.goto i) (.seq _ _ k) ρ,h=>bp C T S R f (.ap (.goto i) k ρ) h
 |f+1,.ap .ret (.seq _ _ k) ρ,h=>bp C T S R f (.ap .ret k ρ) h
 |f+1,.ap .normal (.blk _ k) ρ,h=>bp C T S R f (.ap .normal k ρ) h
 |f+1,.ap (.exit i) (.blk id k) ρ,h=>bp C T S R f (.bs (i==id) (.ap .normal k ρ) (.ap (.exit i) k ρ)) h
 |f+1,.ap (.goto i) (.blk _ k) ρ,h=>bp C T S R f (.ap (.goto i) k ρ) h
 |f+1,.ap .ret (.blk _ k) ρ,h=>bp C T S R f (.ap .ret k ρ) h
 |f+1,.ap .normal (.jn σ K _) ρ,h=>WU K h (Il σ ρ)
 |f+1,.ap (.exit i) (.jn _ _ k) ρ,h=>bp C T S R f (.ap (.exit i) k ρ) h
 |f+1,.ap (.goto i) (.jn _ _ k) ρ,h=>bp C T S R f (.ap (.goto i) k ρ) h
 |f+1,.ap .ret (.jn _ _ k) ρ,h=>bp C T S R f (.ap .ret k ρ) h
 |f+1,.ap .normal (.back _ _ _ k) ρ,h=>bp C T S R f (.ap .normal k ρ) h
 |f+1,.ap (.exit i) (.back _ _ _ k) ρ,h=>bp C T S R f (.ap (.exit i) k ρ) h
 |f+1,.ap (.goto i) (.back l σ K k) ρ,h=>bp C T S R f (.bs (i==l) (.fin σ K ρ) (.ap (.goto i) k ρ)) h
 |f+1,.ap .ret (.back _ _ _ k) ρ,h=>bp C T S R f (.ap .ret k ρ) h
 |f+1,.ap .normal (.lst [] _ k) ρ,h=>bp C T S R f (.ap .normal k ρ) h
 |f+1,.ap .normal (.lst (c::cs) [] k) ρ,h=>bp C T S R f (.ex c .n (.lst cs [] k) ρ) h
 |f+1,.ap .normal (.lst (c::cs) (x::xs) k) ρ,h=>bp C T S R f (.ex c x (.lst cs xs k) ρ) h
 |f+1,.ap (.exit i) (.lst _ _ k) ρ,h=>bp C T S R f (.ap (.exit i) k ρ) h
 |f+1,.ap (.goto i) (.lst _ _ k) ρ,h=>bp C T S R f (.ap (.goto i) k ρ) h
 |f+1,.ap .ret (.lst _ _ k) ρ,h=>bp C T S R f (.ap .ret k ρ) h
 |f+1,.ap .normal (.jmp _ _ k) ρ,h=>bp C T S R f (.ap .normal k ρ) h
 |f+1,.ap (.exit i) (.jmp _ _ k) ρ,h=>bp C T S R f (.ap (.exit i) k ρ) h
 |f+1,.ap (.goto l) (.jmp c fwd k) ρ,h=>bp C T S R f (.jp (Za fwd l) (Gq c l) l c fwd k ρ) h
 |f+1,.ap .ret (.jmp _ _ k) ρ,h=>bp C T S R f (.ap .ret k ρ) h
 |f+1,.ap .normal (.hd l σ r as fwd c k) ρ,h=>Im (λs K h=>bp C T S R f (.ap .normal (.lst r as (.jmp c fwd (.back l σ K k))) (Gs σ s ρ)) h) h (Il σ ρ)
 |f+1,.ap (.exit i) (.hd _ _ _ _ _ _ k) ρ,h=>bp C T S R f (.ap (.exit i) k ρ) h
 |f+1,.ap (.goto i) (.hd _ _ _ _ _ _ k) ρ,h=>bp C T S R f (.ap (.goto i) k ρ) h
 |f+1,.ap .ret (.hd _ _ _ _ _ _ k) ρ,h=>bp C T S R f (.ap .ret k ρ) h
 |f+1,.so none all k ρ,h=>bp C T S R f (.rg all ⟨all,true,.n⟩ [] k ρ) h
 |f+1,.so (some s) all k ρ,h=>bp C T S R f (.st s all true [] k ρ) h
 |f+1,.st (.l ns) all dr L k ρ,h=>bp C T S R f (.rg (Gu all ns) ⟨all,dr,.n⟩ L k ρ) h
 |f+1,.st (.y ns a b) all dr L k ρ,h=>bp C T S R f (.rg (Gu all ns) ⟨all,dr,.y a b⟩ L k ρ) h
 |f+1,.rg [] ⟨_,_,.n⟩ _ k ρ,h=>bp C T S R f (.ap .normal k ρ) h
 |f+1,.rg [] ⟨all,dr,.y a b⟩ L k ρ,h=>bp C T S R f (.st a all dr L k ρ) h/\bp C T S R f (.st b all dr L k ρ) h
 |f+1,.rg ((n,⟨d,o,t,p,e,none⟩)::os) r L k ρ,h=>bp C T S R f (.on n ⟨d,o,t,p,e,none⟩ os r L k ρ) h
 |f+1,.rg ((n,⟨d,o,t,p,e,some (j,w)⟩)::os) r L k ρ,h=>bp C T S R f (.gd (abd ρ (WW (mS (0,⟨none,.ready 0,0, "",#[],none⟩) r.all j))) w (WW (mS (0,⟨none,.ready 0,0, "",#[],none⟩) r.all j)) n ⟨d,o,t,p,e,some (j,w)⟩ os r L k ρ) h
 |f+1,.gd (.k 0) true _ n o os r L k ρ,h=>bp C T S R f (.sk n o os r L k ρ) h
 |f+1,.gd (.k 0) false _ n o os r L k ρ,h=>bp C T S R f (.on n o os r L k ρ) h
 |f+1,.gd (.k (_+1)) true _ n o os r L k ρ,h=>bp C T S R f (.on n o os r L k ρ) h
 |f+1,.gd (.k (_+1)) false _ n o os r L k ρ,h=>bp C T S R f (.sk n o os r L k ρ) h
 |f+1,.gd (.v (.tuple _)) _ _ n o os r L k ρ,h=>bp C T S R f (.sk n o os r L k ρ) h
 |f+1,.gd (.v (.bool b)) true d n o os r L k ρ,h=>Br b (bp C T S R f (.on n o os r L k (.tf d 1::ρ)) h) (bp C T S R f (.sk n o os r L k (.tf d 0::ρ)) h)
 |f+1,.gd (.v (.bool b)) false d n o os r L k ρ,h=>Br b (bp C T S R f (.sk n o os r L k (.tf d 1::ρ)) h) (bp C T S R f (.on n o os r L k (.tf d 0::ρ)) h)
 |f+1,.on n ⟨d,o,t,_,e,_⟩ os r L k ρ,h=>bp C T S R f (.rs (YX C.P T C.tup t ρ o) n d e.toList os r L k ρ) h
 |f+1,.sk _ ⟨d,o,_,_,e,_⟩ os r L k ρ,h=>Fk e.toList L h (Fj r.dr (Rr T o)) (bp C T S R f (.rg os r (Zc e.toList L (Fj r.dr (Rr T o))) k (nP d undef ρ)) h)
 |f+1,.rs (.val v) _ d _ os r L k ρ,h=>bp C T S R f (.rg os r L k (nP d v ρ)) h
 |f+1,.rs (.cond c v) _ d _ os r L k ρ,h=>c/\bp C T S R f (.rg os r L k (nP d v ρ)) h
 |f+1,.rs (.ex X c v) _ d _ os r L k ρ,h=>∃x:X,c x/\bp C T S R f (.rg os r L k (nP d (v x) ρ)) h
 |f+1,.rs (.br b x y) _ d _ os r L k ρ,h=>Br b (bp C T S R f (.rg os r L k (nP d x ρ)) h) (bp C T S R f (.rg os r L k (nP d y ρ)) h)
 |f+1,.rs (.ld a (.sc s) _) n d _ os r L k ρ,h=>∃x:s.den,cellOf h a=some (s.enc x)/\bp C T S R f (.rg os r (Rp r.dr n (.l [(a,s.enc x)]) L) k (nP d (s.enc x) ρ)) h
 |f+1,.rs (.ld a (.agg l) _) n d _ os r L k ρ,h=>∃x:uX l,bA h a 0 (nM l x)/\bp C T S R f (.rg os r (Rp r.dr n (.l (WY a 0 (nM l x))) L) k (nP d (.agg (nM l x).toArray) ρ)) h
 |f+1,.rs (.ld a (.arr s) m) n d _ os r L k ρ,h=>∃x:List s.den,(x.length=m/\bA h a 0 (x.map s.enc))/\bp C T S R f (.rg os r (Rp r.dr n (.a a (x.map s.enc)) L) k (nP d (.agg (x.map s.enc).toArray) ρ)) h
 |f+1,.rs (.ru _ s) _ d e os r L k ρ,h=>av C.P s h λ_ h'=>Fk e L h' r.dr (bp C T S R f (.rg os r (Io e L r.dr) k (nP d undef ρ)) h')
 |f+1,.rs (.ra s) _ d e os r L k ρ,h=>oF C.P s h λa h'=>Fk e L h' r.dr (bp C T S R f (.rg os r (Io e L r.dr) k (nP d (.pointer (some a)) ρ)) h')
 |f+1,.rs (.rr s t) _ d e os r L k ρ,h=>bC C.P s t h λx h'=>Fk e L h' r.dr (bp C T S R f (.rg os r (Io e L r.dr) k (nP d (t.enc x) ρ)) h')
 |f+1,.rs (.ca g l t) _ d e os r L k ρ,h=>jV C.P g l.toArray t h λx h'=>Fk e L h' r.dr (bp C T S R f (.rg os r (Io e L r.dr) k (nP d (t.enc x) ρ)) h')
 |f+1,.rs (.dy g l t) _ d e os r L k ρ,h=>th C g l t h λx h'=>Fk e L h' r.dr (bp C T S R f (.rg os r (Io e L r.dr) k (nP d (t.enc x) ρ)) h')
 |f+1,.re [] [] _,h=>R (.tuple #[]) h
 |f+1,.re [] [v] _,h=>R v h
 |f+1,.re [] (v::w::r) _,h=>R (.tuple (v::w::r).toArray) h
 |f+1,.re (.tmp t::r) acc ρ,h=>bp C T S R f (.re r (rc acc [Fi ρ t]) ρ) h
 |f+1,.re (.cell a t::r) acc ρ,h=>bp C T S R f (.rl (Rj (Fi ρ a) (T t)) r acc ρ) h
 |f+1,.rl (.ld a (.sc s) _) r acc ρ,h=>∃x:s.den,cellOf h a=some (s.enc x)/\bp C T S R f (.re r (rc acc [s.enc x]) ρ) h
 |f+1,.rl (.ld a (.agg l) _) r acc ρ,h=>∃x:uX l,bA h a 0 (nM l x)/\bp C T S R f (.re r (rc acc [.agg (nM l x).toArray]) ρ) h
 |f+1,.rl (.ld a (.arr s) m) r acc ρ,h=>∃x:List s.den,(x.length=m/\bA h a 0 (x.map s.enc))/\bp C T S R f (.re r (rc acc [.agg (x.map s.enc).toArray]) ρ) h
 |_+1,_,_=>False
def Rv:Nat->List Value->Ev
 |_,[]=>[]
 |n,v::r=>.val n v::Rv (n+1) r
theorem adf{α:Type}(l:List α):(l.toArray).toList=l:=rfl
theorem adg(a:Addr):a.add 0=a:=rfl
theorem adh(s:Sl):Sl.mk s.ptr s.len s.cap=s:=rfl
theorem abx(A B:Prop):Br true A B=A:=rfl
theorem aby(A B:Prop):Br false A B=B:=rfl
end Rk
abbrev dS:=List (List UInt8)
abbrev aS:=List UInt8
abbrev cR:=List (List Int)
abbrev aD:=List Int
abbrev bK:=Option Go.Addr
abbrev aR:=List Go.Value
abbrev vq:=Go.Value->Qw.Heap->Prop
abbrev LD:=Go.FuncId×Array Go.Value×Array Go.Value
abbrev cT.tn(a:Qw.cT):Qw.cT:=.two .n a
abbrev cT.lp(L:Qw.dF)(S:Qw.dp):Qw.cT:=.two (.two .n (.inn (.loop L S .n))) .n
abbrev cT.jn(L:Qw.dF)(S:Qw.dp)(a:Qw.cT):Qw.cT:=.two (.join L S .n) a
universe u
theorem l0{c:Prop}{h:Decidable c}(hc:c){α:Sort u}{t e:α}:ite c t e=t:=if_pos hc
theorem m6{c:Prop}{h:Decidable c}(hnc:¬c){α:Sort u}{t e:α}:ite c t e=e:=if_neg hnc
theorem m9{p:Prop}[inst:Decidable p]:p->decide p=true:=decide_eq_true
theorem nb{p:Prop}[inst:Decidable p]:¬p->decide p=false:=decide_eq_false
theorem nq{p:Prop}[inst:Decidable p]:decide p=true->p:=of_decide_eq_true
theorem n2{α:Sort u}{a:α}:a=a:=rfl
theorem I4:True:=trivial
theorem I3{α:Sort u}(a:α):∃b,b=a:=⟨_,rfl⟩
theorem n3{p:Prop}(h:p:=by omega):p:=h
theorem n4{p:Prop}(h:p:=by decide):p:=h
theorem n5{p:Prop}(h:p:=by dsimp only;omega):p:=h
theorem n7{p:Prop}(h:p:=by simp;omega):p:=h
theorem n8{p:Prop}(h:p:=by dsimp only;rw[ag _];rfl):p:=h
theorem n9{p:Prop}(h:p:=by simp):p:=h
theorem oi{p:Prop}(h:p:=by rw[ag _];rfl):p:=h
theorem oj{p:Prop}(h:p:=by cases e):p:=h
theorem oo{p:Prop}(h:p:=by grind):p:=h
theorem o0{p:Prop}(h:p:=by kernel_rfl):p:=h
theorem o1{p:Prop}(h:p:=by decide+kernel):p:=h
theorem o4{p:Prop}(h:p:=by repeat (first|exact trivial|refine⟨by assumption,?_⟩)):p:=h
theorem o5{p:Prop}(h:p:=by rw[addr_add];exact hb.cell n2):p:=h
theorem o6{p:Prop}(h:p:=by rw[ag _];omega):p:=h
theorem o7{p:Prop}(h:p:=by rw[e1];decide):p:=h
theorem o8{p:Prop}(h:p:=by simp[Value.cells]):p:=h
theorem o9{p:Prop}(h:p:=by rw[cm (by omega)];omega):p:=h
theorem pa{p:Prop}(h:p:=by assumption):p:=h
theorem pb{p:Prop}(h:p:=by rw[qJ];omega):p:=h
theorem pt{p:Prop}(h:p:=by simpa using e):p:=h
theorem p7{p:Prop}(h:p:=by dsimp only;simp;omega):p:=h
theorem p8{p:Prop}(h:p:=by simp[dE]):p:=h
theorem p9{p:Prop}(h:p:=by simp[bM];omega):p:=h
theorem qa{p:Prop}(h:p:=by rfl):p:=h
theorem sL{p:Prop}(h:p:=by unfold dP;simp;omega):p:=h
theorem sR{p:Prop}(h:p:=by simp at d;omega):p:=h
theorem s8{p:Prop}(h:p:=by simp[aN]):p:=h
theorem tg{p:Prop}(h:p:=by have:=((jR m).1 a).1;omega):p:=h
theorem tq{p:Prop}(h:p:=by simp[bM]):p:=h
theorem t6{p:Prop}(h:p:=by rw[qB];omega):p:=h
theorem t7{p:Prop}(h:p:=by cases h):p:=h
theorem t8{p:Prop}(h:p:=by simp[fo]):p:=h
theorem u0{p:Prop}(h:p:=by simpa using h):p:=h
theorem u5{p:Prop}(h:p:=by rw[<-bh (by omega),je,m6 (by omega)]):p:=h
theorem u6{p:Prop}(h:p:=by simp[bQ];omega):p:=h
theorem u7{p:Prop}(h:p:=by simpa using H):p:=h
theorem u9{p:Prop}(h:p:=by rw[nb b];rfl):p:=h
theorem v6{p:Prop}(h:p:=by rw[fV];omega):p:=h
theorem v7{p:Prop}(h:p:=by simpa using e2):p:=h
theorem v8{p:Prop}(h:p:=by simpa using b):p:=h
theorem w5{p:Prop}(h:p:=by simpa using q):p:=h
theorem xa{p:Prop}(h:p:=by rw[qK];omega):p:=h
theorem x7{p:Prop}(h:p:=by simp[dK];omega):p:=h
theorem A0{p:Prop}(h:p:=by simp[dI];omega):p:=h
theorem A1{p:Prop}(h:p:=by rw[e];rfl):p:=h
theorem A3{p:Prop}(h:p:=by unfold iT;rw[o.refl];rfl):p:=h
theorem A4{p:Prop}(h:p:=by simp[g]):p:=h
theorem A5{p:Prop}(h:p:=by rw[<-y];exact w.cell0 n2):p:=h
theorem A6{p:Prop}(h:p:=by rw[<-z];exact y.cell0 n2):p:=h
theorem A7{p:Prop}(h:p:=by simp[il]):p:=h
theorem A8{p:Prop}(h:p:=by simp[bz];omega):p:=h
theorem A9{p:Prop}(h:p:=by rw[rK d];omega):p:=h
theorem Bk{p:Prop}(h:p:=by simp[d]):p:=h
theorem Bm{p:Prop}(h:p:=by rw[qh (qk _)]):p:=h
theorem B0{p:Prop}(h:p:=by have:=(d a).2.2.1;omega):p:=h
theorem B1{p:Prop}(h:p:=by rw[wrap_u64];omega):p:=h
theorem B2{p:Prop}(h:p:=by simpa using f):p:=h
theorem B3{p:Prop}(h:p:=by rw[m]):p:=h
theorem B4{p:Prop}(h:p:=by simpa using a):p:=h
theorem B5{p:Prop}(h:p:=by rw[qp];omega):p:=h
theorem B6{p:Prop}(h:p:=by rw[fA];omega):p:=h
theorem B7{p:Prop}(h:p:=by have:=(d a).2.1;omega):p:=h
theorem B8{p:Prop}(h:p:=by rw[ok.la];omega):p:=h
theorem B9{p:Prop}(h:p:=by unfold rj;rw[e];rfl):p:=h
theorem Cr{p:Prop}(h:p:=by simp[powC]):p:=h
theorem CH{p:Prop}(h:p:=by rw[hE];exact qf hn):p:=h
theorem C0{p:Prop}(h:p:=by simp[c]):p:=h
theorem C1{p:Prop}(h:p:=by have:=c a;omega):p:=h
theorem C2{p:Prop}(h:p:=by rw[qB,li];omega):p:=h
theorem C3{p:Prop}(h:p:=by simp[e]):p:=h
theorem C4{p:Prop}(h:p:=by simp at h):p:=h
theorem C5{p:Prop}(h:p:=by rw[w];rfl):p:=h
theorem C6{p:Prop}(h:p:=by simpa using S):p:=h
theorem C7{p:Prop}(h:p:=by simp[iz];omega):p:=h
theorem C8{p:Prop}(h:p:=by simp[fF];omega):p:=h
theorem C9{p:Prop}(h:p:=by rw[L];exact q):p:=h
theorem D0{p:Prop}(h:p:=by rw[e3];decide):p:=h
theorem D1{p:Prop}(h:p:=by rw[e2];decide):p:=h
theorem D2{p:Prop}(h:p:=by simpa using m):p:=h
theorem D3{p:Prop}(h:p:=by simpa using T):p:=h
theorem D4{p:Prop}(h:p:=by simpa using k):p:=h
theorem D5{p:Prop}(h:p:=by simpa using c):p:=h
theorem D6{p:Prop}(h:p:=by simpa using s):p:=h
theorem D7{p:Prop}(h:p:=by rw[g];decide):p:=h
theorem D8{p:Prop}(h:p:=by rw[E];exact uV):p:=h
theorem D9{p:Prop}(h:p:=by simpa using g):p:=h
theorem E0{p:Prop}(h:p:=by simp[li,lc]):p:=h
theorem E1{p:Prop}(h:p:=by simp[hl]):p:=h
theorem E2{p:Prop}(h:p:=by simp[t]):p:=h
theorem E3{p:Prop}(h:p:=by cases a):p:=h
theorem E4{p:Prop}(h:p:=by rw[e2];simp):p:=h
theorem E5{p:Prop}(h:p:=by rw[fE,e];rfl):p:=h
theorem E6{p:Prop}(h:p:=by rw[en];rfl):p:=h
theorem E7{p:Prop}(h:p:=by simp[a]):p:=h
abbrev qk:=@Nat.le_refl
abbrev qC:=@Bool.and_eq_true
abbrev zg:=@Bool.false_eq_true
abbrev vj:=@Bool.or_false
abbrev zI:=@List.cons_append
abbrev qP:=@List.getElem?_map
abbrev zc:=@List.length_cons
abbrev qQ:=@List.mem_cons
abbrev qt:=@List.mem_cons_of_mem
abbrev qA:=@List.mem_singleton
abbrev zp:=@Option.map_some
abbrev wh:=@UInt8.xor_zero
abbrev wy:=@UInt8.zero_xor
abbrev wA:=@Nat.add_assoc
abbrev yh:=@Nat.add_zero
abbrev q7:=@Nat.le_trans
abbrev qY:=@Nat.lt_of_lt_of_le
abbrev zd:=@Nat.lt_succ_iff_lt_or_eq
abbrev vu:=@Nat.mod_lt
abbrev zu:=@Nat.mul_le_mul
abbrev zo:=@Nat.mul_le_mul_right
abbrev zh:=@Nat.sub_self
abbrev z7:=@Nat.succ_mul
abbrev yg:=@Nat.zero_add
abbrev qU:=@List.all_eq_true
abbrev wu:=@List.any_eq_false
abbrev qo:=@List.append_assoc
abbrev vC:=@List.countP_cons
abbrev wx:=@List.drop_drop
abbrev zl:=@List.drop_of_length_le
abbrev qV:=@List.eq_nil_of_length_eq_zero
abbrev wb:=@List.ext_getElem
abbrev zq:=@List.ext_getElem?
abbrev zm:=@List.filter_append
abbrev ve:=@List.filter_eq_nil_iff
abbrev ze:=@List.flatMap_append
abbrev zA:=@List.flatMap_cons
abbrev wF:=@List.foldl_append
abbrev zS:=@List.foldl_cons
abbrev qg:=@List.getD_eq_getElem?_getD
abbrev qw:=@List.getElem?_append_left
abbrev ql:=@List.getElem?_append_right
abbrev qX:=@List.getElem?_cons_succ
abbrev wH:=@List.getElem?_cons_zero
abbrev wO:=@List.getElem?_drop
abbrev qd:=@List.getElem?_eq_getElem
abbrev zj:=@List.getElem?_eq_none
abbrev qm:=@List.getElem?_eq_some_iff
abbrev qZ:=@List.getElem?_set
abbrev wP:=@List.getElem?_set_ne
abbrev zG:=@List.getElem?_set_self
abbrev z6:=@List.getElem?_toArray
abbrev wU:=@List.getElem?_zipWith
abbrev zR:=@List.getElem_drop
abbrev qf:=@List.getElem_mem
abbrev qE:=@List.getElem_of_mem
abbrev qq:=@List.length_append
abbrev qJ:=@List.length_drop
abbrev qp:=@List.length_map
abbrev wT:=@List.length_mergeSort
abbrev zQ:=@List.length_range
abbrev qK:=@List.length_set
abbrev qB:=@List.length_take
abbrev qu:=@List.mem_append
abbrev qS:=@List.mem_cons_self
abbrev qN:=@List.mem_filter
abbrev yd:=@List.mem_flatMap
abbrev qI:=@List.mem_map
abbrev zP:=@List.mem_of_mem_take
abbrev zT:=@List.mem_or_eq_of_mem_set
abbrev q8:=@List.mem_range
abbrev z8:=@List.mem_take_iff_getElem
abbrev wo:=@List.mergeSort_perm
abbrev zD:=@List.pairwise_append
abbrev zw:=@List.pairwise_cons
abbrev zf:=@List.pairwise_iff_getElem
abbrev wI:=@List.pairwise_mergeSort
abbrev yN:=@List.range_eq_range'
abbrev zH:=@List.range_succ
abbrev vd:=@List.set_set
abbrev qD:=@List.take_append_drop
abbrev qh:=@List.take_of_length_le
abbrev zC:=@List.take_succ_eq_append_getElem
abbrev wM:=@BitVec.ofInt_natCast
abbrev vb:=@Int.tmod_lt_of_pos
abbrev qj:=@Int.toNat_natCast
abbrev yo:=@Array.getElem?_modify
abbrev yf:=@Bool.not_eq_true'
abbrev wL:=@Bool.not_false
abbrev zW:=@List.any_eq_true
abbrev qR:=@List.append_nil
abbrev zE:=@List.filter_cons
abbrev yX:=@List.filter_eq_self
abbrev vf:=@List.map_map
abbrev yq:=@List.mem_replicate
abbrev wR:=@UInt8.ofNat_toNat
abbrev zV:=@UInt8.toNat_lt
abbrev vX:=@UInt8.xor_comm
abbrev vE:=@Option.getD_some
abbrev yW:=@Option.isSome_iff_exists
abbrev vT:=@Option.toList_none
abbrev wi:=@Int.mul_le_mul
abbrev vy:=@Int.mul_nonneg
abbrev zX:=@Int.natCast_mul
abbrev yV:=@Int.ofNat_inj
abbrev xG:=@Int.ofNat_lt
abbrev yH:=@Int.tdiv_eq_ediv_of_nonneg
abbrev zY:=@Int.tmod_eq_emod_of_nonneg
abbrev yC:=@UInt8.toNat_inj
abbrev wz:=@List.all_append
abbrev wg:=@List.all_eq_false
abbrev yl:=@List.any_append
abbrev qW:=@List.drop_eq_getElem_cons
abbrev w9:=@List.filter_nil
abbrev wB:=@List.flatMap_nil
abbrev zt:=@List.getElem?_range
abbrev wJ:=@List.getElem?_replicate
abbrev zL:=@List.getElem_take
abbrev yt:=@List.getElem_zip
abbrev qO:=@List.length_filter_le
abbrev wQ:=@List.length_nil
abbrev qG:=@List.map_append
abbrev vS:=@List.map_mergeSort
abbrev zN:=@List.mem_of_getElem?
abbrev za:=@List.set_append_right
abbrev yb:=@List.set_cons_succ
abbrev zx:=@List.set_cons_zero
abbrev qy:=@List.take_length
abbrev wK:=@Nat.add_sub_cancel_left
abbrev zM:=@Nat.mul_one
abbrev qT:=@Nat.zero_le
abbrev yw:=@Bool.false_or
abbrev wj:=@Bool.true_and
abbrev y7:=@Prod.ext
abbrev vJ:=@List.any_cons
abbrev xf:=@List.any_nil
abbrev y0:=@List.drop_length
abbrev xh:=@List.find?_append
abbrev yp:=@List.find?_eq_none
abbrev zB:=@List.getElem_map
abbrev wY:=@List.length_replicate
abbrev wq:=@List.map_cons
abbrev vg:=@List.map_nil
abbrev zU:=@List.mem_of_find?_eq_some
abbrev vx:=@Bool.and_false
abbrev vl:=@Bool.and_self
abbrev zZ:=@Int.emod_lt_of_pos
abbrev ya:=@Int.emod_nonneg
abbrev zi:=@Int.natCast_nonneg
abbrev wG:=@Int.ofNat_le
abbrev yF:=@List.all_cons
abbrev vF:=@List.all_nil
abbrev xr:=@List.getElem_set
abbrev yY:=@List.getElem_set_ne
abbrev wD:=@List.getElem_set_self
abbrev yK:=@Bool.eq_iff_iff
abbrev xu:=@List.map_drop
abbrev xK:=@List.map_take
abbrev yT:=@List.mem_of_mem_drop
abbrev xq:=@Int.not_lt
end Go.Qw
