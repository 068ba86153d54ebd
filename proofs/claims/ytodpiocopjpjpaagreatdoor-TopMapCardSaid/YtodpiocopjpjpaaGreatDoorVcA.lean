/- Lemmas for the proof of the law; no condition. -/
import Derived.Calls
import Derived.Orders
import Derived.Scope
import Derived.KernelRfl
import Derived.Laws.Sem
import Derived.OrdersHeld
set_option linter.unusedVariables false
set_option linter.unusedSimpArgs false
open Nat renaming beq -> wH, ble -> xB, blt -> xr, eq_of_beq_eq_true -> zF, le_of_ble_eq_true -> zC, le_refl -> qi
open Bool renaming and_eq_true -> qx, false_eq_true -> zh, or_eq_false_iff -> yy, or_eq_true -> yG, or_false -> xt
open List renaming cons_append -> zB, getElem?_map -> qR, length_cons -> q8, mem_append_right -> wC, mem_cons -> qX, mem_cons_of_mem -> qC, mem_singleton -> qw
open BitVec renaming ofInt -> qG
open Go.IntKind renaming i64 -> ka
open Go.Instr renaming alloc -> yR, box -> vU, build -> vT, buildSlice -> zE, fill -> wB, loadAt -> xC, lookup -> xD, makeMap -> vF, makeSlice -> zx, mapUpdate -> yj, slice -> xR, sliceAt -> ya, sliceBound -> vz, sliceBounds -> z7, storeAt -> qF
open Option renaming map -> xT, map_eq_some_iff -> vd, map_some -> qW, some -> wj
open Array renaming ext' -> vn, getElem?_toList -> yO, mapM_eq_mapM_toList -> vC, replicate -> vL, toList_map -> xn
open Go.Builtin renaming append_ -> zo, clear_ -> vW, copy_ -> yV, delete_ -> vK, len_ -> vV
namespace Go.Qw
abbrev Heap:=Array Obj
def cellOf(h:Heap)(a:Addr):Option Value:=
 match h[a.block]? with
 |some (.cells c _ _)=>if a.spot.isSome then none else c[a.off]?
 |_=>none
def UB(h:Heap)(a:Addr):Bool:=
 match h[a.block]? with
 |some (.cells _ _ (lo,hi))=>lo<=a.off&&a.off<hi
 |_=>false
def UC(h:Heap)(a:Addr)(v:Value):Heap:=
 h.modify a.block λ
  | .cells c elem frozen=>.cells (if a.spot.isSome then c else c.setIfInBounds a.off v) elem frozen
  |o=>o
def shapeOf(h:Heap)(r:Nat):Option (TypeId×Nat):=match h[r]? with|some (.cells c elem _)=>some (elem,c.size)|_=>none
theorem abd(w:World)(r:Nat):w.shape? r=shapeOf w.heap r:=rfl
theorem KD(w:World)(a:Addr):w.cell? a=cellOf w.heap a:=rfl
theorem aeX(w:World)(a:Addr):w.frozen? a=UB w.heap a:=rfl
theorem aeY(w:World)(a:Addr)(v:Value):(w.setCell a v).heap=UC w.heap a v:=rfl
structure dC (w w':World):Prop where
 os:w'.os=w.os
 tape:w'.tape=w.tape
 output:w'.output=w.output
 drawn:w.drawn<=w'.drawn
theorem dC.refl(w:World):dC w w:=⟨rfl,rfl,rfl,qi _⟩
theorem dC.trans{a b c:World}(h:dC a b)(k:dC b c):dC a c:=⟨k.os.trans h.os,k.tape.trans h.tape,k.output.trans h.output,Nat.le_trans h.drawn k.drawn⟩
def ai(P:Program)(f:FuncId)(args:Array Value)(h:Heap)(R:Value->Heap->Prop):Prop:=
 ∀w,w.heap=h->Calls P f args w λe w'=>∃v,e=.returned v/\dC w w'/\R v w'.heap
theorem ai.mono{P:Program}{f:FuncId}{args:Array Value}{h:Heap}{R a:Value->Heap->Prop}(e:ai P f args h R)
  (c:∀v h',R v h'->a v h'):ai P f args h a:=λw b=>
 (e w b).mono λ_ _ ⟨v,g,d,r⟩=>⟨v,g,d,c _ _ r⟩
theorem ai.x7{P:Program}{f:FuncId}{args:Array Value}{h:Heap}{R:Value->Heap->Prop}{t:Heap}{c:Value}(e:ai P f args h λv h'=>v=c/\h'=t) (k:R c t):ai P f args h R:=e.mono (by rintro _ _ ⟨rfl,rfl⟩;exact k)
theorem ai.x8{P:Program}{f:FuncId}{args:Array Value}{h:Heap}{R:Value->Heap->Prop}{c:Value}{Q:Heap->Prop}(e:ai P f args h λv h'=>v=c/\Q h') (k:∀t,Q t->R c t):ai P f args h R:=e.mono (by rintro _ t ⟨rfl,q⟩;exact k t q)
theorem ai.y0{P:Program}{f:FuncId}{args:Array Value}{h:Heap}{R:Value->Heap->Prop}{α:Type}{g:α->Value}{Q:α->Heap->Prop}(e:ai P f args h λv h'=>∃x,v=g x/\Q x h') (k:∀x t,Q x t->R (g x) t):ai P f args h R:=e.mono (by rintro _ t ⟨x,rfl,q⟩;exact k x t q)
def aj{α:Type}(P:Program)(s:Sem α)(h:Heap)(K:α->Heap->Prop):Prop:=
 ∀w,w.heap=h->∃v w',s.run P w=.ok v w'/\dC w w'/\K v w'.heap
variable {α β:Type} {P:Program} {h:Heap}
theorem aj.pure'{K:α->Heap->Prop}{a:α}(c:K a h):aj P (Pure.pure a) h K:=λw b=>⟨a,w,rfl,dC.refl w,by grind⟩
theorem aj.bind{s:Sem α}{f:α->Sem β}{K:β->Heap->Prop}(l:aj P s h λv h'=>aj P (f v) h' K):aj P (s>>=f) h K:=by intro w g;obtain⟨v,w',i,k,j⟩:=l w g;obtain⟨e,a,b,d,c⟩:=j w' rfl;exact⟨e,a,by rw[Sem.run_bind,i];exact b,k.trans d,c⟩
theorem aj.mono{s:Sem α}{K d:α->Heap->Prop}(f:aj P s h K)(g:∀v h',K v h'->d v h'):aj P s h d:=λw e=>
 let⟨v,w',a,b,c⟩:=f w e;⟨v,w',a,b,g _ _ c⟩
theorem aj.abe{K:Program->Heap->Prop}(a:K P h):aj P program h K:=λw b=>⟨P,w,rfl,dC.refl w,by grind⟩
theorem aj.agp{a:Addr}{v v0:Value}{m:Mode}{K:Unit->Heap->Prop}(c:v.oneCell'=true)(d:cellOf h a=some v0)(f:UB h a=false)(e:K () (UC h a v)):
  aj P (store a v m) h K:=λw b=>
 ⟨(),w.setCell a v,by rw[run_store _ _ _ _ _ c,KD,b,d];simp[aeX,b,f],⟨rfl,rfl,rfl,qi _⟩,by rw[aeY,b];exact e⟩
theorem aj.nO{o:Obj}{K:Nat->Heap->Prop}(b:K h.size (h.push o)):aj P (newObj o) h K:=λw a=>
 ⟨w.heap.size,_,run_newObj P w o,⟨rfl,rfl,rfl,qi _⟩,by grind⟩
theorem aj.Hr{n:Nat}{K:Unit->Heap->Prop}(b:K () h):aj P (askRoom n) h K:=λw a=>⟨(),w,run_askRoom P w n,dC.refl w,by grind⟩
theorem aj.KE{q:Question}{K:Nat->Heap->Prop}(b:(q.forced=true->K 0 h)/\(q.forced=false->∀n,K (q.cut n) h)):aj P (choose q) h K:=by
 intro w a;cases hq:q.forced with
 |true=>exact⟨0,w,by rw[run_choose,hq];rfl,dC.refl w,by grind⟩
 |false=>exact⟨q.cut (w.tape w.drawn q),{w with drawn:=w.drawn+1},by rw[run_choose,hq];rfl,⟨rfl,rfl,rfl,Nat.le_succ _⟩,by grind⟩
theorem aj.uP{r:Nat}{o:Obj}{K:Obj->Heap->Prop}(b:h[r]?=some o)(g:∀c e f,o≠.cells c e f)(d:K o h):aj P (getObj r) h K:=λw a=>by
 refine⟨o,w,?_,dC.refl w,by grind⟩;simp only[getObj,Sem.run,a,b]
theorem aj.uQ{r:Nat}{o a:Obj}{K:Unit->Heap->Prop}(d:h[r]?=some o)(i:∀c e f,o≠.cells c e f)(g:K () (h.setIfInBounds r a)):aj P (setObj r a) h K:=λw b=>by
 refine⟨(),{w with heap:=w.heap.setIfInBounds r a},?_,⟨rfl,rfl,rfl,qi _⟩,by grind⟩;simp only[setObj,Sem.run,b,d]
theorem aj.XC{r:Nat}{K:Option (TypeId×Nat)->Heap->Prop}(b:K (shapeOf h r) h):aj P (shape r) h K:=λw a=>
 ⟨_,w,run_shape P w r,dC.refl w,by rw[abd,a];exact b⟩
def BV(P:Program)(s:Sem Next)(h:Heap)(K:Value->Heap->Prop):Prop:=
 aj P s h λa h'=>match a with
  | .value v=>K v h'
  | .skip=>K undef h'
  | .enter f args=>ai P f args h' K
  |_=>False
theorem aiI{P:Program}{o:Oper}{a:Act}{w:World}{K:Value->Heap->Prop}{Q:Exit->Act->World->Prop}
  (g:BV P (execOp a.eval o) w.heap K) {next:Act->World->Prop}
  (d:∀v w',dC w w'->K v w'.heap->next (a.put o.dst v) w'):o.wp P a w next Q:=by
 obtain⟨h,w',j,k,c⟩:=g w rfl;unfold Oper.wp;rw[j];cases h<;>simp only at c<;>simp only[Oper.upon]
 case value v=>grind
 case skip=>grind
 case enter f args=>
  refine(c w' rfl).mono ?_;rintro e i ⟨v,rfl,b,r⟩;exact d _ _ (k.trans b) r
structure Sl where
 ptr:Option Addr
 len:Nat
 cap:Nat
 deriving Inhabited
inductive Sc where
 |int (k:IntKind)|bool|str|ptr|slc|flt (k:FloatKind)|cpx (k:FloatKind)|mp|fn|any|adr
@[reducible] def Sc.den:Sc->Type
 | .int _=>Int
 | .bool=>Bool
 | .str=>ByteArray
 | .ptr=>Option Addr
 | .slc=>Sl
 | .flt _=>Nat
 | .cpx _=>Nat×Nat
 | .mp=>Option Nat
 | .fn=>FuncId×Array Value×Array Value
 | .any=>Value
 | .adr=>Addr
@[reducible] def Sc.enc:(s:Sc)->s.den->Value
 | .int k,n=>.int k n
 | .bool,x=>.bool x
 | .str,x=>.string x
 | .ptr,a=>.pointer a
 | .slc,x=>.slice x.ptr x.len x.cap
 | .flt k,n=>.float k n
 | .cpx k,x=>.complex k x.1 x.2
 | .mp,r=>.map r
 | .fn,x=>.func (.func x.1) x.2.1 x.2.2
 | .any,v=>v
 | .adr,a=>.pointer (some a)
def BW:IntKind->IntKind->Bool
 | .i8,.i8| .i16,.i16| .i32,.i32| .i64,.i64| .u8,.u8| .u16,.u16| .u32,.u32| .u64,.u64=>true
 |_,_=>false
theorem GQ:∀{a b:IntKind},BW a b=true->a=b:=by intro a b;cases a<;>cases b<;>simp[BW]
def Eb:FloatKind->FloatKind->Bool
 | .f32,.f32| .f64,.f64=>true
 |_,_=>false
theorem Ec:∀{a b:FloatKind},Eb a b=true->a=b:=by intro a b;cases a<;>cases b<;>simp[Eb]
def Sc.dec:(s:Sc)->Value->Option s.den
 | .int k,.int k' n=>bif BW k k' then some n else none
 | .bool,.bool x=>some x
 | .str,.string x=>some x
 | .ptr,.pointer a=>some a
 | .slc,.slice a l c=>some ⟨a,l,c⟩
 | .flt k,.float k' n=>bif Eb k k' then some n else none
 | .cpx k,.complex k' a b=>bif Eb k k' then some (a,b)else none
 | .mp,.map r=>some r
 | .fn,.func (.func g) f c=>some (g,f,c)
 | .any,v=>some v
 | .adr,.pointer (some a)=>some a
 |_,_=>none
theorem Sc.rO{s:Sc}{v:Value}{x:s.den}(h:s.dec v=some x):v=s.enc x:=by
 cases s<;>cases v<;>simp only[Sc.dec]at h<;>try(first|(cases h;done)|(cases h;rfl))
 case int.int k k' n=>
  cases hk:BW k k'<;>simp[hk]at h;have:=GQ hk;grind
 case flt.float k k' n=>
  cases hk:Eb k k'<;>simp[hk]at h;have:=Ec hk;grind
 case cpx.complex k k' a b=>
  cases hk:Eb k k'<;>simp[hk]at h;have:=Ec hk;grind
 case fn.func g f c=>
  grind
 grind
@[reducible] def Bw:List Sc->Type
 |[]=>Unit
 |[s]=>s.den
 |s::t::r=>s.den×Bw (t::r)
@[reducible] def oN:(l:List Sc)->Bw l->List Value
 |[],_=>[]
 |[s],x=>[s.enc x]
 |s::t::r,x=>s.enc x.1::oN (t::r) x.2
def UD:(l:List Sc)->List Value->Option (Bw l)
 |[],[]=>some ()
 |[s],[v]=>s.dec v
 |s::t::r,v::vs=>match s.dec v with
  |some x=>match UD (t::r) vs with
   |some y=>some (x,y)
   |none=>none
  |none=>none
 |_,_=>none
theorem XD:∀{l:List Sc} {vs:List Value} {x:Bw l},UD l vs=some x->vs=oN l x:=by
 intro l vs
 fun_induction UD l vs with
 |case1=>intro x _;rfl
 |case2 s v=>intro x h;simp only[oN];rw[Sc.rO h]
 |case3 s t r v vs x hx y hy ih=>intro z h;cases h;simp only[oN];rw[Sc.rO hx,ih hy]
 |case4=>intro x h;cases h
 |case5=>intro x h;cases h
 |case6=>intro x h;cases h
inductive Ty where
 |sc (s:Sc)
 |agg (l:List Sc)
 |arr (s:Sc)
@[reducible] def Ty.den:Ty->Type
 | .sc s=>s.den
 | .agg l=>Bw l
 | .arr s=>List s.den
@[reducible] def Ty.enc:(t:Ty)->t.den->Value
 | .sc s,x=>s.enc x
 | .agg l,x=>.agg (oN l x).toArray
 | .arr s,x=>.agg (x.map s.enc).toArray
def Ty.dec:(t:Ty)->Value->Option t.den
 | .sc s,v=>s.dec v
 | .agg l,.agg ⟨cs⟩=>UD l cs
 |_,_=>none
theorem Ty.rO{t:Ty}{v:Value}{x:t.den}(h:t.dec v=some x):v=t.enc x:=by
 unfold Ty.dec at h;split at h
 .exact Sc.rO h
 .have:=XD h;subst this;rfl
 .cases h
@[reducible] def NR:List Ty->Type
 |[]=>Unit
 |[s]=>s.den
 |s::t::r=>s.den×NR (t::r)
@[reducible] def UE:(l:List Ty)->NR l->List Value
 |[],_=>[]
 |[s],x=>[s.enc x]
 |s::t::r,x=>s.enc x.1::UE (t::r) x.2
inductive Rt where
 |one (t:Ty)
 |many (l:List Ty)
@[reducible] def Rt.den:Rt->Type
 | .one t=>t.den
 | .many l=>NR l
@[reducible] def Rt.enc:(r:Rt)->r.den->Value
 | .one t,x=>t.enc x
 | .many l,x=>.tuple (UE l x).toArray
inductive rP where
 |val (t:Nat) (x:Value)
 |kil (lo hi:Nat)
abbrev Env:=List rP
def rP.fv:rP->Nat->Bool
 | .val s _,t=>wH s t
 | .kil lo hi,t=>xB lo t&&xr t hi
def Env.get:Env->Nat->Option Value
 |[],_=>none
 | .val s x::r,t=>bif wH s t then some x else Env.get r t
 | .kil lo hi::r,t=>bif xB lo t&&xr t hi then none else Env.get r t
def Env.fv:Env->Nat->Bool
 |[],_=>false
 |e::r,t=>e.fv t||Env.fv r t
theorem Env.abf(e:rP)(r:Env)(t:Nat)(h:e.fv t=false):Env.get (e::r) t=Env.get r t:=by
 cases e<;>simp only[rP.fv]at h<;>simp[Env.get,h]
theorem Env.get_append{δ ρ:Env}{t:Nat}(h:δ.fv t=false):Env.get (δ++ρ) t=Env.get ρ t:=by
 induction δ with
 |nil=>rfl
 |cons e r ih=>
  simp only[Env.fv,yy]at h;rw[zB,Env.abf _ _ _ h.1,ih h.2]
theorem Env.Bx{δ ρ:Env}{t:Nat}:Env.fv (δ++ρ) t=(δ.fv t||ρ.fv t):=by
 induction δ with
 |nil=>simp[Env.fv]
 |cons e r ih=>simp[Env.fv,ih,Bool.or_assoc]
structure Fits (n:Nat) (a:Act) (ρ:Env):Prop where
 size:a.tmps.size=n
 defers:a.defers=[]
 get:∀t x,ρ.get t=some x->a.tmps[t]?=some x
def Ext(ρ b:Env)(a c:Act):Prop:=∃δ:Env,b=δ++ρ/\∀t,δ.fv t=false->c.tmps[t]?=a.tmps[t]?
theorem Ext.refl(ρ:Env)(a:Act):Ext ρ ρ a a:=⟨[],rfl,λ_ _=>rfl⟩
theorem Ext.trans{ρ e b:Env}{a f c:Act}(h:Ext ρ e a f)(k:Ext e b f c):Ext ρ b a c:=by obtain⟨δ,rfl,h⟩:=h;obtain⟨g,rfl,k⟩:=k;refine⟨g++δ,by simp,λt d=>?_⟩;rw[Env.Bx,yy]at d;rw[k t d.1,h t d.2]
def Env.eval(ρ:Env):Operand->Option Value
 | .tmp t=>ρ.get t
 | .const v=>some v
 | .global g=>some (.pointer (some ⟨g,0,none⟩))
 | .func f=>some (.func (.func f) #[] #[])
theorem Fits.eval{n:Nat}{a:Act}{ρ:Env}(h:Fits n a ρ){x:Operand}{v:Value}(b:ρ.eval x=some v):a.eval x=v:=by
 cases x<;>simp only[Env.eval]at b<;>simp only[Act.eval]
 case tmp t=>have:=h.get t v b;simp[Array.getD_eq_getD_getElem?,this]
 all_goals (injection b)
theorem Fits.put{n:Nat}{a:Act}{ρ:Env}(h:Fits n a ρ){d:Nat}(f:xr d n=true)(v:Value):Fits n (a.put (some d) v) (.val d v::ρ):=by
 have c:d<n:=zC f;refine⟨by simp[Act.put,h.size],h.defers,λt x b=>?_⟩;simp only[Env.get]at b;simp only[Act.put,Array.getElem?_setIfInBounds];cases hb:wH d t with
 |true=>
  rw[hb]at b;have:d=t:=zF hb;subst this;simp at b;simp[h.size,c,b]
 |false=>
  rw[hb]at b;have:d≠t:=λe=>by subst e;simp at hb
  simp only[this,if_false];exact h.get t x b
theorem Ext.put{ρ:Env}{a:Act}{d:Nat}(v u:Value):Ext ρ (.val d u::ρ) a (a.put (some d) v):=by
 refine⟨[.val d u],rfl,λt b=>?_⟩;simp only[Env.fv,rP.fv,xt]at b;have:d≠t:=λe=>by subst e;simp at b
 simp[Act.put,this]
abbrev dN:=List (Nat×Ty)
@[reducible] def dN.den:dN->Type
 |[]=>Unit
 |[s]=>s.2.den
 |s::t::r=>s.2.den×dN.den (t::r)
def dN.vals:(σ:dN)->σ.den->Env->Env
 |[],_,ρ=>ρ
 |[s],x,ρ=>.val s.1 (s.2.enc x)::ρ
 |s::t::r,x,ρ=>.val s.1 (s.2.enc x.1)::dN.vals (t::r) x.2 ρ
def dN.read:(σ:dN)->Env->Option σ.den
 |[],_=>some ()
 |[s],ρ=>match ρ.get s.1 with
  |some v=>s.2.dec v
  |none=>none
 |s::t::r,ρ=>match ρ.get s.1 with
  |some v=>match s.2.dec v with
   |some x=>match dN.read (t::r) ρ with
    |some y=>some (x,y)
    |none=>none
   |none=>none
  |none=>none
def dN.has:dN->Nat->Bool
 |[],_=>false
 |s::r,t=>wH s.1 t||dN.has r t
abbrev dG:=List (Nat×Nat)
def dG.over:dG->Env->Env
 |[],ρ=>ρ
 |(lo,hi)::r,ρ=>.kil lo hi::dG.over r ρ
def dG.has:dG->Nat->Nat->Bool
 |[],_,_=>false
 |(lo,hi)::r,a,b=>(xB lo a&&xB b hi)||dG.has r a b
def within(σ:dN)(κ:dG):Env->Nat->Bool
 |_,0=>true
 |[],_+1=>true
 | .val t _::r,n+1=>(dN.has σ t||dG.has κ t (t+1))&&within σ κ r n
 | .kil lo hi::r,n+1=>dG.has κ lo hi&&within σ κ r n
theorem dG.abg{κ:dG}{a b:Nat}(h:κ.has a b=true){t:Nat}(e:a<=t)(f:t<b)(ρ:Env):∃δ:Env,κ.over ρ=δ++ρ/\δ.fv t=true:=by
 induction κ with
 |nil=>simp[dG.has]at h
 |cons p r ih=>
  obtain⟨d,c⟩:=p;simp only[dG.has,yG,qx]at h;obtain⟨δ,j⟩:∃δ:Env,dG.over r ρ=δ++ρ:=by
   clear ih h
   induction r with
   |nil=>exact⟨[],rfl⟩
   |cons q r ih=>obtain⟨δ,h⟩:=ih;exact⟨.kil q.1 q.2::δ,by show rP.kil q.1 q.2::dG.over r ρ=_;rw[h];rfl⟩
  rcases h with h|h
  .have l:=zC h.1;have k:=zC h.2;refine⟨.kil d c::δ,by simp[dG.over,j],?_⟩;have i:xB d t=true:=Nat.ble_eq_true_of_le (by omega);have x2:xr t c=true:=by unfold xr;exact Nat.ble_eq_true_of_le (by omega)
   simp[Env.fv,rP.fv,i,x2]
  .obtain⟨g,e,f⟩:=ih h;exact⟨.kil d c::g,by simp[dG.over,e],by simp[Env.fv,f]⟩
theorem dG.Od(κ:dG)(ρ:Env):κ.over ρ=κ.over []++ρ:=by
 induction κ with
 |nil=>rfl
 |cons p r ih=>obtain⟨b,a⟩:=p;simp[dG.over,ih]
theorem dN.Hs:∀(σ:dN) (x:σ.den) (ρ:Env),σ.vals x ρ=σ.vals x []++ρ
 |[],_,ρ=>rfl
 |[s],x,ρ=>rfl
 |s::t::r,x,ρ=>by simp only[dN.vals];rw[dN.Hs (t::r) x.2 ρ];rfl
theorem dN.AJ:∀(σ:dN) (x:σ.den) (t:Nat),(σ.vals x []).fv t=σ.has t
 |[],_,_=>rfl
 |[s],x,t=>by simp[dN.vals,Env.fv,rP.fv,dN.has]
 |s::u::r,x,t=>by
  have:=dN.AJ (u::r) x.2 t;simp only[dN.vals,Env.fv,rP.fv,this];rfl
theorem dN.Oe:∀(σ:dN) (x:σ.den) (e:Env) (t:Nat),σ.has t=true->((σ.vals x [])++e).get t=(σ.vals x []).get t
 |[],_,_,_,h=>by cases h
 |[s],x,e,t,h=>by
  simp only[dN.has,xt]at h;simp[dN.vals,Env.get,h]
 |s::u::r,x,e,t,h=>by
  simp only[dN.vals,zB,Env.get];cases hb:wH s.1 t with
  |true=>rfl
  |false=>
   have h':dN.has (u::r) t=true:=by have a:(wH s.1 t||dN.has (u::r) t)=true:=h;rw[hb]at a;exact a
   simpa using dN.Oe (u::r) x.2 e t h'
theorem dG.LL{κ:dG}{a b t:Nat}(h:κ.has a b=true)(c:a<=t)(e:t<b):(κ.over []).fv t=true:=by obtain⟨δ,f,d⟩:=dG.abg h c e [];rw[f];simpa using d
theorem rQ{σ:dN}{κ:dG}:∀{δ ρ:Env},within σ κ (δ++ρ) δ.length=true->∀t,σ.has t=false->(κ.over []).fv t=false->δ.fv t=false
 |[],_,_,_,_,_=>rfl
 | .val s x::r,ρ,h,t,h1,h2=>by
  simp only[zB,q8,within,qx,yG]at h;simp only[Env.fv,rP.fv,yy];refine⟨?_,rQ h.2 t h1 h2⟩;cases hb:wH s t with
  |false=>rfl
  |true=>
   have:s=t:=zF hb;subst this;rcases h.1 with h|h
   .rw[h]at h1;cases h1
   .rw[dG.LL h (qi _) (Nat.lt_succ_self _)]at h2;cases h2
 | .kil lo hi::r,ρ,h,t,h1,h2=>by
  simp only[zB,q8,within,qx]at h;simp only[Env.fv,rP.fv,yy];refine⟨?_,rQ h.2 t h1 h2⟩;cases hb:(xB lo t&&xr t hi)with
  |false=>rfl
  |true=>
   simp only[qx]at hb;have b:=zC hb.1;have a:t<hi:=zC hb.2;rw[dG.LL h.1 b a]at h2;cases h2
theorem dN.Of:∀{σ:dN} {ρ:Env} {x:σ.den} {t:Nat} {v:Value},σ.read ρ=some x->(σ.vals x []).get t=some v->ρ.get t=some v∨False
 |[],_,_,_,_,_,h=>by simp[dN.vals,Env.get]at h
 |[s],ρ,x,t,v,h,hv=>by
  simp only[dN.read]at h;split at h
  .rename_i u d;simp only[dN.vals,Env.get]at hv;cases hb:wH s.1 t with
   |true=>
    rw[hb]at hv;have:=zF hb;simp at hv;subst hv;rw[<-Ty.rO h,<-this];exact .inl d
   |false=>rw[hb]at hv;simp at hv
  .cases h
 |s::u::r,ρ,x,t,v,h,hv=>by
  simp only[dN.read]at h;split at h
  .rename_i z b;split at h
   .rename_i y a;split at h
    .rename_i w c;cases h;simp only[dN.vals,Env.get]at hv;cases hb:wH s.1 t with
     |true=>
      rw[hb]at hv;have:=zF hb;simp at hv;subst hv;rw[<-Ty.rO a,<-this];exact .inl b
     |false=>
      rw[hb]at hv;exact dN.Of (σ:=u::r) c hv
    .cases h
   .cases h
  .cases h
theorem Fits.rR{n:Nat}{a d:Act}{σ:dN}{κ:dG}{ρ g:Env}{x:σ.den}(h0:Fits n a ρ)(h:Fits n d g)
  (b:∀t,σ.has t=false->(κ.over []).fv t=false->d.tmps[t]?=a.tmps[t]?) (j:σ.read g=some x):
  Fits n d (σ.vals x (κ.over ρ))/\Ext ρ (σ.vals x (κ.over ρ)) a d:=by
 rw[dN.Hs,dG.Od];refine⟨⟨h.size,h.defers,λt v c=>?_⟩,⟨σ.vals x []++κ.over [],by simp,λt f=>?_⟩⟩
 .cases h1:σ.has t with
  |true=>
   have:∀(e:Env),((σ.vals x [])++e).get t=(σ.vals x []).get t:=λe=>dN.Oe σ x e t h1;rw[this]at c;rcases dN.Of j c with h2|h2
   .exact h.get t v h2
   .exact h2.elim
  |false=>
   rw[Env.get_append (by rw[dN.AJ];exact h1)]at c;cases h2:(κ.over []).fv t with
   |true=>
    have:∀(e:Env),((κ.over [])++e).get t=none:=by
     intro e;clear b c
     induction κ with
     |nil=>simp[dG.over,Env.fv]at h2
     |cons p r ih=>
      obtain⟨i,k⟩:=p;simp only[dG.over,Env.fv,rP.fv]at h2;simp only[dG.over,zB,Env.get];cases hb:(xB i t&&xr t k)with
      |true=>rfl
      |false=>rw[hb]at h2;simp at h2;simpa using ih h2
    rw[this]at c;cases c
   |false=>
    rw[Env.get_append h2]at c;rw[b t h1 h2];exact h0.get t v c
 .rw[Env.Bx,yy,dN.AJ]at f;exact b t f.1 f.2
theorem Ext.within{a e:Act}{σ:dN}{κ:dG}{ρ c:Env}(i:Ext ρ c a e)(d:within σ κ c (c.length-ρ.length)=true):
  ∀t,σ.has t=false->(κ.over []).fv t=false->e.tmps[t]?=a.tmps[t]?:=by
 obtain⟨δ,rfl,h⟩:=i;have b:(δ++ρ).length-ρ.length=δ.length:=by simp
 rw[b]at d;exactλt f g=>h t (rQ d t f g)
theorem Ext.rR{a b:Act}{σ:dN}{κ:dG}{ρ:Env}{x:σ.den}(g:Ext ρ (σ.vals x (κ.over ρ)) a b):
  ∀t,σ.has t=false->(κ.over []).fv t=false->b.tmps[t]?=a.tmps[t]?:=by
 obtain⟨δ,c,f⟩:=g;rw[dN.Hs,dG.Od,<-List.append_assoc]at c;have:=List.append_cancel_right c;subst this;exactλt d e=>f t (by rw[Env.Bx,dN.AJ,d,e];rfl)
inductive ot where
 |int (k:IntKind)|bool|str|flt|cpx|mp|fn|other
 |slice (e:TypeId)|array (n:Nat) (e:TypeId)|struct (fs:List (Nat×TypeId))|ptr (e:TypeId)
def jy:Option TypeDesc->ot
 |some (.int k)=>.int k
 |some .bool=>.bool
 |some .string=>.str
 |some (.float _)=>.flt
 |some (.complex _)=>.cpx
 |some (.map ..)=>.mp
 |some (.func ..)=>.fn
 |some (.slice e)=>.slice e
 |some (.array n e)=>.array n e
 |some (.struct fs)=>.struct (fs.toList.map λf=>(f.offset,f.type))
 |some (.pointer e)=>.ptr e
 |_=>.other
structure TI where
 cv:ot
 ty:Ty
 size:Nat
 bytes:Nat
 zero:List Value
abbrev kT:=List TI
def kT.seen(P:Program)(t:TypeId):ot×Option (Nat×Nat×Option (List Value)):=
 (jy (P.underlying t),(P.info? t).map λi=>(i.size,i.bytes,i.zero.map (·.cells.toList)))
def kT.told(i:TI):ot×Option (Nat×Nat×Option (List Value)):=(i.cv,some (i.size,i.bytes,some i.zero))
def kT.get:kT->Nat->Option TI
 |[],_=>none
 |i::_,0=>some i
 |_::r,t+1=>kT.get r t
structure BX where
 P:Program
 T:kT
structure BX.Ok (C:BX):Prop where
 Ue:(List.range C.T.length).map (kT.seen C.P)=C.T.map kT.told
 mixed:C.P.follows .mixedOrders=true
theorem kT.get_eq:∀(T:kT) (t:Nat),T.get t=T[t]?
 |[],_=>rfl
 |_::_,0=>rfl
 |_::r,t+1=>by simp[kT.get,kT.get_eq r t]
theorem BX.Ok.at{C:BX}(h:C.Ok){t:Nat}{i:TI}(a:C.T.get t=some i):kT.seen C.P t=kT.told i:=by
 rw[kT.get_eq]at a;have:=congrArg (·[t]?) h.Ue
 grind
def Br(b:Bool)(A B:Prop):Prop:=match b with
 |true=>A
 |false=>B
inductive PV:Type 1 where
 |no
 |val (v:Value)
 |cond (c:Prop) (v:Value)
 |ex (X:Type) (c:X->Prop) (v:X->Value)
 |br (b:Bool) (x y:Value)
def PV.holds(p:PV)(K:Value->Prop):Prop:=match p with
 | .no=>False
 | .val v=>K v
 | .cond c v=>c/\K v
 | .ex _ c v=>∃x,c x/\K (v x)
 | .br b x y=>Br b (K x) (K y)
def sW(P:Program)(s:Sem Next)(v:Value):Prop:=∀w,s.run P w=.ok (.value v) w
def aH{α:Type}(P:Program)(s:Sem α)(v:α):Prop:=∀w,s.run P w=.ok v w
def kU(P:Program)(op:BinOp)(t:TypeId)(x y:Operand)(a b r:Value):Prop:=aH P (do eqGuard op t x y a b;binOp op t a b) r
def adI:Operand->Bool
 | .tmp _=>true
 |_=>false
def abh(P:Program)(t:TypeId)(x y:Operand)(d:Option ot)(op:BinOp):Value->Value->PV
 | .int k a,.int k' b=>
  match op with
  | .shl=>.cond (0<=b) (.int k (k.wrap (a*2^min b.toNat k.bits)))
  | .shr=>.cond (0<=b) (.int k (a.fdiv (2^min b.toNat k.bits)))
  |_=>bif BW k k' then
   match op with
   | .add=>.val (.int k (k.wrap (a+b)))
   | .sub=>.val (.int k (k.wrap (a-b)))
   | .mul=>.val (.int k (k.wrap (a*b)))
   | .quo=>.cond (b≠0) (.int k (k.wrap (a.tdiv b)))
   | .rem=>.cond (b≠0) (.int k (a.tmod b))
   | .and=>.val (.int k (k.wrap (qG k.bits a&&&qG k.bits b).toNat))
   | .or=>.val (.int k (k.wrap (qG k.bits a|||qG k.bits b).toNat))
   | .xor=>.val (.int k (k.wrap (qG k.bits a^^^qG k.bits b).toNat))
   | .andNot=>.val (.int k (k.wrap (qG k.bits a&&&~~~qG k.bits b).toNat))
   | .eql=>.val (.bool (a==b))
   | .neq=>.val (.bool (a !=b))
   | .lss=>.val (.bool (decide (a<b)))
   | .leq=>.val (.bool (decide (a<=b)))
   | .gtr=>.val (.bool (decide (a>b)))
   | .geq=>.val (.bool (decide (a>=b)))
   |_=>.no
  else .no
 | .float k a,.float k' b=>bif Eb k k' then
   match op with
   | .add=>.ex Nat (λr=>k.format.add a b=some r) (λr=>.float k r)
   | .sub=>.ex Nat (λr=>k.format.sub a b=some r) (λr=>.float k r)
   | .mul=>.ex Nat (λr=>k.format.mul a b=some r) (λr=>.float k r)
   | .quo=>.ex Nat (λr=>k.format.div a b=some r) (λr=>.float k r)
   | .eql=>.val (.bool (k.format.order a b==some .eq))
   | .neq=>.val (.bool (k.format.order a b !=some .eq))
   | .lss=>.val (.bool (k.format.order a b==some .lt))
   | .gtr=>.val (.bool (k.format.order a b==some .gt))
   |_=>.no
  else .no
 | .string a,.string b=>
  match op with
  | .eql=>.val (.bool (a.toList==b.toList))
  | .neq=>.val (.bool (!(a.toList==b.toList)))
  | .lss=>.val (.bool (Op.bytesLess a.toList b.toList))
  | .leq=>.val (.bool (Op.bytesLess a.toList b.toList||a.toList==b.toList))
  | .gtr=>.val (.bool (!(Op.bytesLess a.toList b.toList||a.toList==b.toList)))
  | .geq=>.val (.bool (!(Op.bytesLess a.toList b.toList)))
  | .add=>.cond (((a.size+b.size:Nat):Int)<=ka.max) (.string (a++b))
  |_=>.no
 | .bool a,.bool b=>
  match d with
  |some .bool=>match op with
   | .eql=>.val (.bool (a==b))
   | .neq=>.val (.bool (!(a==b)))
   |_=>.no
  |_=>.no
 | .pointer a,.pointer b=>bif adI y then .ex Bool (λr=>kU P op t x y (.pointer a) (.pointer b) (.bool r)) (λr=>.bool r)else
  match b with
  |none=>match d with
   |some (.ptr _)=>match op with
    | .eql=>.val (.bool a.isNone)
    | .neq=>.val (.bool (!a.isNone))
    |_=>.no
   |_=>.no
  |some _=>.no
 | .slice a _ _,.slice none _ _=>
  match d with
  |some (.slice _)=>match op with
   | .eql=>.val (.bool a.isNone)
   | .neq=>.val (.bool (!a.isNone))
   |_=>.no
  |_=>.no
 | .agg a,.agg b=>.ex Bool (λr=>kU P op t x y (.agg a) (.agg b) (.bool r)) (λr=>.bool r)
 | .complex k a b,.complex k' c e=>
  match op with
  | .eql| .neq=>.ex Bool (λr=>kU P op t x y (.complex k a b) (.complex k' c e) (.bool r)) (λr=>.bool r)
  |_=>.ex (Nat×Nat) (λr=>kU P op t x y (.complex k a b) (.complex k' c e) (.complex k r.1 r.2)) (λr=>.complex k r.1 r.2)
 |_,_=>.no
def abi(P:Program)(t:TypeId)(x y:Operand)(d:Option ot)(op:BinOp)(a:Value):Value->PV
 | .nilIface=>.ex Bool (λr=>kU P op t x y a .nilIface (.bool r)) (λr=>.bool r)
 |b=>abh P t x y d op a b
def unV(op:UnOp):Value->PV
 | .bool b=>match op with
  | .not=>.val (.bool !b)
  |_=>.no
 | .int k n=>match op with
  | .neg=>.val (.int k (k.wrap (0-n)))
  | .xor=>.val (.int k (k.wrap (qG k.bits (if k.signed then-1 else k.max)^^^qG k.bits n).toNat))
  |_=>.no
 |_=>.no
def rJ(ev:Operand->Option Value):List Operand->Option (List Value)
 |[]=>some []
 |x::r=>match ev x with
  |some v=>match rJ ev r with
   |some vs=>some (v::vs)
   |none=>none
  |none=>none
def Ed(ev:Operand->Option Value):List (Nat×Operand)->Option (List (Nat×Value))
 |[]=>some []
 |(n,x)::r=>match ev x with
  |some v=>match Ed ev r with
   |some vs=>some ((n,v)::vs)
   |none=>none
  |none=>none
def placesOf(T:kT):List (Nat×TypeId)->Option (List (Nat×Nat))
 |[]=>some []
 |(off,t)::r=>match T.get t with
  |some j=>match placesOf T r with
   |some ps=>some ((off,j.size)::ps)
   |none=>none
  |none=>none
def IH(ev:Operand->Option Value):Option Operand->Option (Option Int)
 |none=>some none
 |some x=>match ev x with
  |some (.int _ n)=>some (some n)
  |_=>none
def agq(d:Option ot):Value->PV
 | .slice _ n _=>match d with
  |some (.slice _)=>.val (.int .i64 n)
  |_=>.no
 | .string s=>match d with
  |some .str=>.val (.int .i64 s.size)
  |_=>.no
 |_=>.no
def agr(d:Option ot):Value->PV
 | .slice _ _ n=>match d with
  |some (.slice _)=>.val (.int .i64 n)
  |_=>.no
 |_=>.no
def adJ(d:Option ot):Value->PV
 | .int _ n=>match d with
  |some (.int k)=>.val (.int k (k.wrap n))
  |_=>.no
 |_=>.no
def BY(P:Program)(T:kT)(op:Op)(ev:Operand->Option Value):PV:=
 match op with
 | .move x| .assign x=>match ev x with
  |some v=>.val v
  |none=>.no
 | .pick c a b=>match ev c,ev a,ev b with
  |some (.bool t),some x,some y=>.br t x y
  |_,_,_=>.no
 | .nilCheck x=>match ev x with
  |some (.pointer p)=>.ex Addr (λa=>p=some a) (λa=>.pointer (some a))
  |_=>.no
 | .fieldAddr s x f=>match ev x with
  |some (.pointer (some a))=>match T.get s with
   |some i=>match i.cv with
    | .struct fs=>match fs[f]? with
     |some (off,t)=>match T.get t with
      |some j=>bif wH j.size 0 then .no else .val (.pointer (some (a.add off)))
      |none=>.no
     |none=>.no
    |_=>.no
   |none=>.no
  |_=>.no
 | .indexAddr t x ix=>match ev ix with
  |some (.int _ n)=>match ev x with
   |some (.slice p len _)=>match T.get t with
    |some i=>match i.cv with
     | .slice e=>match T.get e with
      |some j=>.ex Addr (λa=>p=some a/\0<=n/\n<(len:Int)) (λa=>.pointer (some (a.add (n.toNat*j.size))))
      |none=>.no
     |_=>.no
    |none=>.no
   |some (.pointer (some a))=>match T.get t with
    |some i=>match i.cv with
     | .array m e=>match T.get e with
      |some j=>.cond (0<=n/\n<(m:Int)) (.pointer (some (a.add (n.toNat*j.size))))
      |none=>.no
     |_=>.no
    |none=>.no
   |_=>.no
  |_=>.no
 | .index t x ix=>match ev ix with
  |some (.int _ n)=>match ev x with
   |some (.string s)=>match T.get t with
    |some i=>match i.cv with
     | .str=>.ex UInt8 (λb=>0<=n/\s.data[n.toNat]?=some b) (λb=>.int .u8 b.toNat)
     |_=>.no
    |none=>.no
   |some (.agg cs)=>match T.get t with
    |some i=>match i.cv with
     | .array m e=>match T.get e with
      |some j=>match j.ty with
       | .sc s=>match j.cv with
        | .struct _=>.no
        | .array _ _=>.no
        | .other=>.no
        |_=>bif wH j.size 1 then .ex s.den (λy=>0<=n/\n<(m:Int)/\cs[n.toNat]?=some (s.enc y)) (λy=>s.enc y)else .no
       |_=>.no
      |none=>.no
     |_=>.no
    |none=>.no
   |_=>.no
  |_=>.no
 | .field s x f=>match ev x with
  |some (.agg ⟨cs⟩)=>match T.get s with
   |some i=>match i.cv with
    | .struct fs=>match fs[f]? with
     |some (off,t)=>match T.get t with
      |some j=>match j.cv with
       | .struct _=>.val (.agg ((cs.drop off).take j.size).toArray)
       | .array _ _=>.val (.agg ((cs.drop off).take j.size).toArray)
       | .other=>.no
       |_=>match cs[off]? with
        |some v=>.val v
        |none=>.no
      |none=>.no
     |none=>.no
    |_=>.no
   |none=>.no
  |_=>.no
 | .slice t x lo hi mx=>match mx with
  |some _=>.no
  |none=>match IH ev lo,IH ev hi with
   |some l,some r=>match ev x with
    |some (.slice p len cap)=>match T.get t with
     |some i=>match i.cv with
      | .slice e=>match T.get e with
       |some j=>match l,r with
        |none,none=>.val (.slice p len cap)
        |none,some r=>.cond (0<=r/\r<=(cap:Int)) (.slice p r.toNat cap)
        |some l,none=>.cond (0<=l/\l<=(len:Int)) (.slice (if cap=l.toNat then p else p.map (·.add (l.toNat*j.size))) (len-l.toNat) (cap-l.toNat))
        |some l,some r=>.cond (0<=l/\l<=r/\r<=(cap:Int)) (.slice (if cap=l.toNat then p else p.map (·.add (l.toNat*j.size))) (r.toNat-l.toNat) (cap-l.toNat))
       |none=>.no
      |_=>.no
     |none=>.no
    |some (.string s)=>match T.get t with
     |some i=>match i.cv with
      | .str=>match l,r with
       |none,none=>.val (.string (s.extract 0 s.size))
       |none,some r=>.cond (0<=r/\r<=(s.size:Int)) (.string (s.extract 0 r.toNat))
       |some l,none=>.cond (0<=l/\l<=(s.size:Int)) (.string (s.extract l.toNat s.size))
       |some l,some r=>.cond (0<=l/\l<=r/\r<=(s.size:Int)) (.string (s.extract l.toNat r.toNat))
      |_=>.no
     |none=>.no
    |some (.pointer (some a))=>match T.get t with
     |some i=>match i.cv with
      | .array n e=>match T.get e with
       |some j=>match l,r with
        |none,none=>.val (.slice (some a) n n)
        |none,some r=>.cond (0<=r/\r<=(n:Int)) (.slice (some a) r.toNat n)
        |some l,none=>.cond (0<=l/\l<=(n:Int)) (.slice (some (if n=l.toNat then a else a.add (l.toNat*j.size))) (n-l.toNat) (n-l.toNat))
        |some l,some r=>.cond (0<=l/\l<=r/\r<=(n:Int)) (.slice (some (if n=l.toNat then a else a.add (l.toNat*j.size))) (r.toNat-l.toNat) (n-l.toNat))
       |none=>.no
      |_=>.no
     |none=>.no
    |_=>.no
   |_,_=>.no
 | .extract x n=>match ev x with
  |some (.tuple ⟨vs⟩)=>match vs[n]? with
   |some v=>.val v
   |none=>.no
  |_=>.no
 | .binOp op t x y _=>match ev x,ev y with
  |some a,some b=>abi P t x y ((T.get t).map (·.cv)) op a b
  |_,_=>.no
 | .unOp op _ x=>match ev x with
  |some v=>unV op v
  |none=>.no
 | .convert src dst x=>match ev x,(T.get src).map TI.cv with
  |some v,some (ot.int _)=>adJ ((T.get dst).map (·.cv)) v
  |_,_=>.no
 | .build t parts=>match Ed ev parts.toList with
  |some vs=>match T.get t with
   |some i=>bif xr 24 i.size then .ex Value (λv=>aH P (vT t vs.toArray) v) (λv=>v)else match i.cv with
    | .struct fs=>match placesOf T fs with
     |some ps=>match wB (λn=>ps[n]?) i.zero.toArray vs with
      |some cells=>.val (.agg cells)
      |none=>.no
     |none=>.no
    | .array _ e=>match T.get e with
     |some j=>match wB (λn=>some (n*j.size,j.size)) i.zero.toArray vs with
      |some cells=>.val (.agg cells)
      |none=>.no
     |none=>.no
    |_=>.no
   |none=>.no
  |none=>.no
 | .makeFunc fn first captured=>match rJ ev first.toList,rJ ev captured.toList with
  |some a,some b=>.val (.func fn a.toArray b.toArray)
  |_,_=>.no
 | .call c=>match c.callee with
  | .builtin b=>match b with
   | .len=>match c.argTypes.toList,c.args.toList with
    |t::_,[x]=>match ev x with
     |some v=>agq ((T.get t).map (·.cv)) v
     |none=>.no
    |_,_=>.no
   | .cap=>match c.argTypes.toList,c.args.toList with
    |t::_,[x]=>match ev x with
     |some v=>agr ((T.get t).map (·.cv)) v
     |none=>.no
    |_,_=>.no
   | .min=>match rJ ev c.args.toList with
    |some [.int k a,.int _ b]=>.val (.int k (if b<a then b else a))
    |_=>.no
   | .max=>match rJ ev c.args.toList with
    |some [.int k a,.int _ b]=>.val (.int k (if b>a then b else a))
    |_=>.no
   | .real=>match rJ ev c.args.toList with
    |some [.complex k a _]=>.val (.float k a)
    |_=>.no
   | .imag=>match rJ ev c.args.toList with
    |some [.complex k _ b]=>.val (.float k b)
    |_=>.no
   |_=>.no
  |_=>.no
 |_=>.no
theorem aH.next{P:Program}{s:Sem Value}{v:Value}(h:aH P s v):sW P (do pure (.value (<-s))) v:=λw=>by
 rw[Sem.run_bind,h w];rfl
theorem aH.pure{α:Type}{P:Program}{v:α}:aH P (pure v) v:=λ_=>rfl
theorem aH.bind{α β:Type}{P:Program}{s:Sem α}{f:α->Sem β}{v:α}{u:β}(h:aH P s v)(k:aH P (f v) u):aH P (s>>=f) u:=λw=>by
 rw[Sem.run_bind,h w];exact k w
theorem BZ{d:Option TypeDesc}{k:IntKind}(h:jy d=.int k):d=some (.int k):=by unfold jy at h;grind
theorem abj{d:Option TypeDesc}(h:jy d=.bool):d=some .bool:=by unfold jy at h;grind
theorem uR{d:Option TypeDesc}(h:jy d=.str):d=some .string:=by unfold jy at h;grind
theorem ji{d:Option TypeDesc}{e:TypeId}(h:jy d=.slice e):d=some (.slice e):=by unfold jy at h;grind
theorem sX{d:Option TypeDesc}{n:Nat}{e:TypeId}(h:jy d=.array n e):d=some (.array n e):=by unfold jy at h;grind
theorem aeZ{d:Option TypeDesc}{e:TypeId}(h:jy d=.ptr e):d=some (.pointer e):=by unfold jy at h;grind
theorem pF{d:Option TypeDesc}{a:List (Nat×TypeId)}(h:jy d=.struct a):∃b,d=some (.struct b)/\a=b.toList.map λf=>(f.offset,f.type):=by unfold jy at h;grind
variable {t:TypeId} {i:TI}
section
variable {C:BX}
theorem BX.Ok.cv(h:C.Ok)(a:C.T.get t=some i):jy (C.P.underlying t)=i.cv:=congrArg Prod.fst (h.at a)
theorem BX.Ok.info(h:C.Ok)(a:C.T.get t=some i):∃f,C.P.info? t=some f/\f.size=i.size/\f.bytes=i.bytes/\∃z,f.zero=some z/\z.cells.toList=i.zero:=by
 have:=congrArg Prod.snd (h.at a);simp only[kT.seen,kT.told]at this;cases hf:C.P.info? t with
 |none=>grind
 |some f=>
  cases hz:f.zero with
  |none=>grind
  |some z=>grind
theorem aF{P:Program}{t:TypeId}{d:TypeDesc}(h:P.underlying t=some d):aH P (underlying t) d:=λw=>by
 simp[underlying,h]
theorem dj{P:Program}{t:TypeId}{d:TypeInfo}(h:P.info? t=some d):aH P (typeInfo t) d:=λw=>by
 simp[typeInfo,h]
theorem eV(h:C.Ok)(c:C.T.get t=some i):aH C.P (sizeOf t) i.size:=by obtain⟨f,a,b,_⟩:=h.info c;rw[<-b];exact(dj a).bind .pure
theorem sE(h:C.Ok)(d:C.T.get t=some i):∃z,aH C.P (zeroValue t) z/\z.cells.toList=i.zero:=by obtain⟨f,c,_,_,z,a,b⟩:=h.info d;refine⟨z,(dj c).bind ?_,b⟩;rw[a];exact .pure
theorem lL(h:C.Ok)(g:C.T.get t=some i):(∀b,i.cv=.struct b->aH C.P (isAgg t) true)/\(∀n e,i.cv=.array n e->aH C.P (isAgg t) true)/\
  ((∀b,i.cv≠.struct b)->(∀n e,i.cv≠.array n e)->i.cv≠.other->aH C.P (isAgg t) false):=by
 have a:=h.cv g;refine⟨λb c=>?_,λn e c=>?_,λk l h3=>?_⟩
 .rw[c]at a;obtain⟨j,f,_⟩:=pF a;exact(aF f).bind .pure
 .rw[c]at a;exact(aF (sX a)).bind .pure
 .cases hu:C.P.underlying t with
  |none=>rw[hu]at a;exact absurd a.symm h3
  |some d=>
   refine(aF hu).bind ?_;cases d<;>first|exact .pure|(simp only[jy]at a;grind)
end
theorem Cz{ev:Operand->Option Value}{e:Operand->Value}(a:∀x v,ev x=some v->e x=v):∀{l:List Operand} {vs:List Value},rJ ev l=some vs->l.map e=vs:=by
 intro l
 induction l with
 |nil=>intro vs h;cases h;rfl
 |cons x r ih=>
  intro vs h;simp only[rJ]at h
  grind
theorem GR{ev:Operand->Option Value}{e:Operand->Value}(a:∀x v,ev x=some v->e x=v):∀{l:List (Nat×Operand)} {vs:List (Nat×Value)},Ed ev l=some vs->l.map (λp=>(p.1,e p.2))=vs:=by
 intro l
 induction l with
 |nil=>intro vs h;cases h;rfl
 |cons x r ih=>
  intro vs h;simp only[Ed]at h
  grind
theorem Ht(t:TypeId)(x y:Value):Op.equal t x y=Op.equalIn (9999+1) t x y:=rfl
theorem afa{t:TypeId}(c:P.underlying t=some .bool)(d:Nat)(a b:Bool):aH P (Op.equalIn (d+1) t (.bool a) (.bool b)) (a==b):=λw=>by
 simp[Op.equalIn,underlying,c]
theorem ags{t e:TypeId}(b:P.underlying t=some (.pointer e))(d:Nat)(a:Option Addr):aH P (Op.equalIn (d+1) t (.pointer a) (.pointer none)) a.isNone:=λw=>by
 cases a<;>simp[Op.equalIn,underlying,b]
theorem abk{t e:TypeId}(b:P.underlying t=some (.slice e))(d:Nat)(a:Option Addr)(l c l' c':Nat):aH P (Op.equalIn (d+1) t (.slice a l c) (.slice none l' c')) a.isNone:=λw=>by
 cases a<;>simp[Op.equalIn,underlying,b]
theorem UF{t:TypeId}{d:Option ot}{op:BinOp}{a b:Value}{x y:Operand}{K:Value->Prop}(o:∀q,d=some q->jy (P.underlying t)=q)
  (h:(abh P t x y d op a b).holds K):∃v,aH P (do eqGuard op t x y a b;binOp op t a b) v/\K v:=by
 have j:∀{a b:Value},¬(a=.nilIface/\b=.nilIface)->(∀u v,¬(a=.agg u/\b=.agg v))->aH P (eqGuard op t x y a b) ():=by
  intro a b i f w;simp only[eqGuard];cases op<;>simp only[Bool.not_true,Bool.not_false,zh,if_true,if_false]<;>
   first
    |rfl
    |(split<;>first|exact absurd ⟨rfl,rfl⟩ i|exact absurd ⟨rfl,rfl⟩ (f _ _)|rfl)
 unfold abh at h;split at h
 .rename_i k a m b;have g:=j (a:=.int k a) (b:=.int m b) (by simp) (by simp);cases op<;>simp only at h
  case shl=>exact⟨_,g.bind λw=>by simp only[binOp,Op.shift];rw[if_neg (by have:=h.1;omega)];rfl,h.2⟩
  case shr=>exact⟨_,g.bind λw=>by simp only[binOp,Op.shift];rw[if_neg (by have:=h.1;omega)];rfl,h.2⟩
  all_goals
   cases hk:BW k m with
   |false=>rw[hk]at h;simp[PV.holds]at h
   |true=>
    rw[hk]at h;simp only[cond_true,PV.holds]at h;have e:=GQ hk;subst e
    first
     |exact⟨_,g.bind λw=>by simp[binOp,Op.intArith,Op.intBits,Op.intCmp],h⟩
     |exact⟨_,g.bind λw=>by simp[binOp,Op.intDiv,h.1],h.2⟩
     |exact h.elim
 .rename_i k a m b;have g:=j (a:=.float k a) (b:=.float m b) (by simp) (by simp);cases hk:Eb k m with
  |false=>rw[hk]at h;simp[PV.holds]at h
  |true=>
   rw[hk]at h;have e:=Ec hk;subst e;cases op<;>simp only[cond_true,PV.holds]at h<;>
    first
     |(obtain⟨r,i,f⟩:=h;exact⟨_,g.bind λw=>by simp[binOp,Op.floatArith,i],f⟩)
     |exact⟨_,g.bind λw=>by simp[binOp,Op.floatCmp],h⟩
     |exact h.elim
 .rename_i a b;have g:=j (a:=.string a) (b:=.string b) (by simp) (by simp);cases op<;>simp only[PV.holds]at h<;>
   first
    |exact⟨_,g.bind λw=>by simp[binOp,Op.stringOp],h⟩
    |exact⟨_,g.bind λw=>by simp only[binOp,Op.stringOp];rw[if_neg (by have:=h.1;omega)];rfl,h.2⟩
    |exact h.elim
 .rename_i a b;have g:=j (a:=.bool a) (b:=.bool b) (by simp) (by simp);split at h
  .have n:=abj (o _ rfl);cases op<;>simp only[PV.holds]at h<;>
    first
     |exact⟨_,g.bind (by simp only[binOp,Ht];exact(afa n _ a b).bind .pure),h⟩
     |exact h.elim
  .exact h.elim
 .rename_i a b;cases hy:adI y with
  |true=>
   rw[hy]at h;obtain⟨r,i,f⟩:=h;exact⟨_,i,f⟩
  |false=>
   rw[hy]at h;cases b with
   |some _=>exact h.elim
   |none=>
    have g:=j (a:=.pointer a) (b:=.pointer none) (by simp) (by simp);simp only[cond_false]at h;split at h
    .rename_i e;have n:=aeZ (o _ rfl);cases op<;>simp only[PV.holds]at h<;>
      first
       |exact⟨_,g.bind (by simp only[binOp,Ht];exact(ags n _ a).bind .pure),h⟩
       |exact h.elim
    .exact h.elim
 .rename_i a l c l' c';have g:=j (a:=.slice a l c) (b:=.slice none l' c') (by simp) (by simp);split at h
  .rename_i e;have n:=ji (o _ rfl);cases op<;>simp only[PV.holds]at h<;>
    first
     |exact⟨_,g.bind (by simp only[binOp,Ht];exact(abk n _ a l c l' c').bind .pure),h⟩
     |exact h.elim
  .exact h.elim
 .obtain⟨r,i,f⟩:=h;exact⟨_,i,f⟩
 .split at h
  .obtain⟨r,i,f⟩:=h;exact⟨_,i,f⟩
  .obtain⟨r,i,f⟩:=h;exact⟨_,i,f⟩
  .obtain⟨r,i,f⟩:=h;exact⟨_,i,f⟩
 .exact h.elim
theorem UG{t:TypeId}{d:Option ot}{op:BinOp}{a b:Value}{x y:Operand}{K:Value->Prop}(f:∀q,d=some q->jy (P.underlying t)=q)
  (h:(abi P t x y d op a b).holds K):∃v,aH P (do eqGuard op t x y a b;binOp op t a b) v/\K v:=by
 unfold abi at h;split at h
 .obtain⟨r,c,e⟩:=h;exact⟨_,c,e⟩
 .exact UF f h
theorem Og(a:List Value)(off n:Nat):((a.drop off).take n).toArray=(a.toArray).extract off (off+n):=by simp
variable {e:Operand->Value}
section
variable {C:BX} {ev:Operand->Option Value}
theorem vx(c:C.Ok):∀{b:List Field} {a:List (Nat×Nat)},placesOf C.T (b.map λf=>(f.offset,f.type))=some a->
  aH C.P (b.mapM λf=>(do pure (f.offset,<-sizeOf f.type))) a
 |[],a,h=>by cases h;exact .pure
 |f::r,a,h=>by
  simp only[List.map_cons,placesOf]at h;split at h
  .rename_i j d;split at h
   .rename_i g e;cases h;rw[List.mapM_cons];exact aH.bind ((eV c d).bind .pure) ((vx c e).bind .pure)
   grind
  grind
theorem GS(h:C.Ok){t:TypeId}{j:TI}(f:C.T.get t=some j)(d:∀c,j.cv≠.struct c)(g:∀n e,j.cv≠.array n e)(h3:j.cv≠.other)
  {a:Array Value} {off:Nat} {v:Value} (b:a[off]?=some v):aH C.P (part t a off) v:=by
 refine((lL h f).2.2 d g h3).bind ?_;rw[b];exact .pure
theorem Oh(c:C.Ok){t:TypeId}{j:TI}(b:C.T.get t=some j)(h:(∃a,j.cv=.struct a)∨∃n e,j.cv=.array n e)
  {d:Array Value} {off:Nat}:aH C.P (part t d off) (.agg (d.extract off (off+j.size))):=by
 have f:aH C.P (isAgg t) true:=by
  rcases h with⟨a,h⟩|⟨n,e,h⟩
  .exact(lL c b).1 a h
  .exact(lL c b).2.1 n e h
 exact f.bind ((eV c b).bind .pure)
theorem II(J:C.Ok)(G:∀x v,ev x=some v->e x=v){o:Oper}{K:Value->Prop}(h:(BY C.P C.T o.op ev).holds K):
  ∃v,sW C.P (execOp e o) v/\K v:=by
 have M:∀t q,(C.T.get t).map (·.cv)=some q->jy (C.P.underlying t)=q:=λt q h=>by
  cases F:C.T.get t with
  |none=>rw[F]at h;cases h
  |some i=>rw[F]at h;cases h;exact J.cv F
 cases hop:o.op<;>rw[hop]at h<;>simp only[BY]at h<;>simp only[execOp,hop]
 case move x=>
  split at h
  .rename_i v A;rw[G _ _ A];exact⟨v,λ_=>rfl,h⟩
  .exact h.elim
 case assign x=>
  split at h
  .rename_i v A;rw[G _ _ A];exact⟨v,λ_=>rfl,h⟩
  .exact h.elim
 case pick c a b=>
  split at h
  .rename_i t x y Q h2 h3;rw[G _ _ Q,G _ _ h2,G _ _ h3];cases t
   .exact⟨y,λ_=>rfl,h⟩
   .exact⟨x,λ_=>rfl,h⟩
  .exact h.elim
 case nilCheck x=>
  split at h
  .rename_i p hp;obtain⟨a,rfl,B⟩:=h;rw[G _ _ hp];exact⟨_,λ_=>rfl,B⟩
  .exact h.elim
 case fieldAddr s x f=>
  split at h
  .rename_i a ha;rw[G _ _ ha];split at h
   .rename_i i F;split at h
    .rename_i fs X;split at h
     .rename_i off t ab;split at h
      .rename_i j R;cases hz:wH j.size 0 with
       |true=>rw[hz]at h;exact h.elim
       |false=>
        rw[hz]at h;have E:=J.cv F;rw[X]at E;obtain⟨gs,hg,rfl⟩:=pF E;simp only[qR,vd]at ab;obtain⟨g,ap,ao⟩:=ab;cases ao;refine⟨_,aH.next ((aF hg).bind ?_),h⟩;have al:gs[f]?=some g:=by simpa using ap
        simp only[al];refine aH.bind (v:=a) .pure (aH.bind (v:=a.add g.offset) ?_ .pure);unfold fieldPlace;refine(eV J R).bind ?_;have:j.size≠0:=λe=>by rw[e]at hz;cases hz
        rw[if_neg this];exact .pure
      .exact h.elim
     .exact h.elim
    .exact h.elim
   .exact h.elim
  .exact h.elim
 case indexAddr t x ix=>
  split at h
  .rename_i k n hn;rw[G _ _ hn];split at h
   .rename_i p len cap U;rw[G _ _ U];split at h
    .rename_i i F;split at h
     .rename_i el D;split at h
      .rename_i j R;obtain⟨a,⟨rfl,h0,Q⟩,B⟩:=h;have E:=J.cv F;rw[D]at E;have H:=ji E;refine⟨_,aH.next ?_,B⟩;unfold Instr.indexAt;refine aH.bind (v:=(k,n)) .pure ?_;refine(aF H).bind ?_;refine aH.bind (v:=(some a,len,el)) .pure ?_;intro w;have:=eV J R w;simp only[Sem.run_bind,aF H w,Result.andThen_ok];cases hl:decide (len<=1)<;>simp[h0,Q,this]
      .exact h.elim
     .exact h.elim
    .exact h.elim
   .rename_i a U;rw[G _ _ U];split at h
    .rename_i i F;split at h
     .rename_i m el D;split at h
      .rename_i j R;obtain⟨⟨h0,Q⟩,B⟩:=h;have E:=J.cv F;rw[D]at E;have H:=sX E;refine⟨_,aH.next ?_,B⟩;unfold Instr.indexAt;refine aH.bind (v:=(k,n)) .pure ?_;refine(aF H).bind ?_;refine aH.bind (v:=(some a,m,el)) .pure ?_;intro w;have:=eV J R w;simp only[Sem.run_bind,aF H w,Result.andThen_ok];cases hl:decide (m<=1)<;>simp[h0,Q,this]
      .exact h.elim
     .exact h.elim
    .exact h.elim
   .exact h.elim
  .exact h.elim
 case index t x ix=>
  split at h
  .rename_i k n hn;rw[G _ _ hn];split at h
   .rename_i s U;rw[G _ _ U];split at h
    .rename_i i F;split at h
     .rename_i D;obtain⟨b,⟨h0,Q⟩,B⟩:=h;have E:=J.cv F;rw[D]at E;have H:=uR E;refine⟨_,aH.next ?_,B⟩;unfold Instr.index;refine aH.bind (v:=(k,n)) .pure ?_;refine(aF H).bind ?_;have hb:s[n.toNat]?=some b:=by rw[Array.getElem?_eq_some_iff]at Q;obtain⟨bl,hg⟩:=Q;have a4:n.toNat<s.size:=bl;rw[getElem?_pos s n.toNat a4];exact congrArg some hg
      simp only[h0,if_true,hb];exact .pure
     .exact h.elim
    .exact h.elim
   .rename_i cs U;rw[G _ _ U];split at h
    .rename_i i F;split at h
     .rename_i m el D;split at h
      .rename_i j R;split at h
       .rename_i s hs;have E:=J.cv F;rw[D]at E;have H:=sX E;have ad:(∃y,(0<=n/\n<(m:Int)/\cs[n.toNat]?=some (s.enc y))/\K (s.enc y))->(∀fs,j.cv≠.struct fs)->(∀n e,j.cv≠.array n e)->j.cv≠.other->j.size=1->
          ∃v,sW C.P (do pure (.value (<-Instr.index t (.agg cs) (.int k n)))) v/\K v:=by
         rintro⟨y,⟨h0,Q,h2⟩,B⟩ d1 d2 d3 a8;refine⟨_,aH.next ?_,B⟩;unfold Instr.index;refine aH.bind (v:=(k,n)) .pure ?_;refine(aF H).bind ?_;simp only[h0,Q,and_self,if_true];refine(eV J R).bind ?_;rw[a8,Nat.mul_one];exact GS J R d1 d2 d3 h2
        split at h
        .exact h.elim
        .exact h.elim
        .exact h.elim
        .rename_i d1 d2 d3;cases hz:wH j.size 1 with
         |false=>rw[hz]at h;exact h.elim
         |true=>
          rw[hz]at h;exact ad h d1 d2 d3 (zF hz)
       .exact h.elim
      .exact h.elim
     .exact h.elim
    .exact h.elim
   .exact h.elim
  .exact h.elim
 case field s x f=>
  split at h
  .rename_i cs U;rw[G _ _ U];split at h
   .rename_i i F;split at h
    .rename_i fs X;split at h
     .rename_i off t ab;split at h
      .rename_i j R;have E:=J.cv F;rw[X]at E;obtain⟨gs,hg,rfl⟩:=pF E;simp only[qR,vd]at ab;obtain⟨g,ap,ao⟩:=ab;cases ao;have al:gs[f]?=some g:=by simpa using ap
       have ad:∀v,aH C.P (part g.type ⟨cs⟩ g.offset) v->K v->∃v,sW C.P (do pure (.value (<-Instr.field s (.agg ⟨cs⟩) f))) v/\K v:=by intro v A B;refine⟨v,aH.next ((aF hg).bind ?_),B⟩;simp only[al];exact aH.bind (v:=(⟨cs⟩:Array Value)) .pure A
       split at h
       .rename_i bq ay;refine ad _ (Oh J R (.inl ⟨_,ay⟩)) ?_;rw[<-Og];exact h
       .rename_i n' e' ay;refine ad _ (Oh J R (.inr ⟨_,_,ay⟩)) ?_;rw[<-Og];exact h
       .exact h.elim
       .rename_i d1 d2 d3;split at h
        .rename_i v A;exact ad v (GS J R d1 d2 d3 (by simpa using A)) h
        .exact h.elim
      .exact h.elim
     .exact h.elim
    .exact h.elim
   .exact h.elim
  .exact h.elim
 case slice t x W hi0 mx=>
  split at h
  .exact h.elim
  .split at h
   .rename_i l r hl hr;have a0:(W=none/\l=none)∨∃y k m,W=some y/\e y=.int k m/\l=some m:=by
     cases W with
     |none=>cases hl;exact .inl ⟨rfl,rfl⟩
     |some y=>
      simp only[IH]at hl;split at hl
      .rename_i k m hm;cases hl;exact .inr ⟨y,k,m,rfl,G _ _ hm,rfl⟩
      .cases hl
    have ax:(hi0=none/\r=none)∨∃y k m,hi0=some y/\e y=.int k m/\r=some m:=by
     cases hi0 with
     |none=>cases hr;exact .inl ⟨rfl,rfl⟩
     |some y=>
      simp only[IH]at hr;split at hr
      .rename_i k m hm;cases hr;exact .inr ⟨y,k,m,rfl,G _ _ hm,rfl⟩
      .cases hr
    have I:∀(bb:Bool) (len cap:Nat) (W F:Option Value) (a b:Nat),(W=none->a=0)->(∀v,W=some v->∃k m,v=.int k m/\0<=m/\a=m.toNat/\m<=(b:Int))->
      (F=none->b=len)->(∀v,F=some v->∃k m,v=.int k m/\0<=m/\b=m.toNat/\m<=(cap:Int))->
      aH C.P (z7 bb len cap W F none) (a,b,cap):=by
     intro bb len cap W F a b Q h2 h3 h4 w;cases F with
     |none=>
      have e1:=h3 rfl;subst e1;cases W with
      |none=>rw[Q rfl];simp[z7]
      |some v=>
       obtain⟨k,m,rfl,x1,rfl,x2⟩:=h2 v rfl;simp[z7,vz,asIntOf,x1,x2]
     |some u=>
      obtain⟨k',V,rfl,y1,rfl,y2⟩:=h4 u rfl;cases W with
      |none=>rw[Q rfl];simp[z7,vz,asIntOf,y1,y2]
      |some v=>
       obtain⟨k,m,rfl,x1,rfl,x2⟩:=h2 v rfl;have x3:¬max V 0<m:=by omega
       simp[z7,vz,asIntOf,x1,y1,y2,x3]
    split at h
    .rename_i p len cap U;rw[G _ _ U];split at h
     .rename_i i F;split at h
      .rename_i el D;split at h
       .rename_i j R;have E:=J.cv F;rw[D]at E;have H:=ji E;have fin:∀(a b:Nat) (v:Value),aH C.P (z7 true len cap (W.map e) (hi0.map e) none) (a,b,cap)->
          v=.slice (if cap=a then p else p.map (·.add (a*j.size))) (b-a) (cap-a)->K v->
          ∃v,sW C.P (do pure (.value (<-ya t (.slice p len cap) (W.map e) (hi0.map e) (xT e none)))) v/\K v:=by
         intro a b v hb A B;refine⟨v,aH.next ?_,B⟩;unfold ya;refine(aF H).bind ?_;simp only[xR,Option.map_none];refine(aF H).bind ?_;refine hb.bind ?_;subst A;exact(eV J R).bind .pure
        have ah:(if cap=0 then p else p.map (·.add (0*j.size)))=p:=by
         cases p<;>simp[Addr.add]
        rcases a0 with⟨rfl,rfl⟩|⟨y,k,m,rfl,hy,rfl⟩<;>rcases ax with⟨rfl,rfl⟩|⟨y',k',V,rfl,hy',rfl⟩
        .exact fin 0 len _ (I _ _ _ _ _ _ _ (λ_=>rfl) (by simp) (λ_=>rfl) (by simp)) (by rw[ah];rfl) h
        .obtain⟨⟨S,Z⟩,B⟩:=h;exact fin 0 V.toNat _ (I _ _ _ _ _ _ _ (λ_=>rfl) (by simp) (by simp) λv A=>by cases A;exact⟨k',V,hy',S,rfl,Z⟩) (by rw[ah];rfl) B
        .obtain⟨⟨S,Z⟩,B⟩:=h;exact fin m.toNat len _ (I _ _ _ _ _ _ _ (by simp) (λv A=>by cases A;exact⟨k,m,hy,S,rfl,Z⟩) (λ_=>rfl) (by simp)) rfl B
        .obtain⟨⟨S,Z,a3⟩,B⟩:=h;exact fin m.toNat V.toNat _ (I _ _ _ _ _ _ _ (by simp) (λv A=>by cases A;exact⟨k,m,hy,S,rfl,by omega⟩) (by simp) λv A=>by cases A;exact⟨k',V,hy',by omega,rfl,a3⟩) rfl B
       .exact h.elim
      .exact h.elim
     .exact h.elim
    .rename_i s U;rw[G _ _ U];split at h
     .rename_i i F;split at h
      .rename_i D;have E:=J.cv F;rw[D]at E;have H:=uR E;have fin:∀(a b:Nat) (v:Value),aH C.P (z7 false s.size s.size (W.map e) (hi0.map e) none) (a,b,s.size)->
         v=.string (s.extract a b)->K v->
         ∃v,sW C.P (do pure (.value (<-ya t (.string s) (W.map e) (hi0.map e) (xT e none)))) v/\K v:=by
        intro a b v hb A B;refine⟨v,aH.next ?_,B⟩;unfold ya;refine(aF H).bind ?_;simp only[xR,Option.map_none];refine(aF H).bind ?_;subst A;intro w;simp[hb w]
       rcases a0 with⟨rfl,rfl⟩|⟨y,k,m,rfl,hy,rfl⟩<;>rcases ax with⟨rfl,rfl⟩|⟨y',k',V,rfl,hy',rfl⟩
       .exact fin 0 s.size _ (I _ _ _ _ _ _ _ (λ_=>rfl) (by simp) (λ_=>rfl) (by simp)) rfl h
       .obtain⟨⟨S,Z⟩,B⟩:=h;exact fin 0 V.toNat _ (I _ _ _ _ _ _ _ (λ_=>rfl) (by simp) (by simp) λv A=>by cases A;exact⟨k',V,hy',S,rfl,Z⟩) rfl B
       .obtain⟨⟨S,Z⟩,B⟩:=h;exact fin m.toNat s.size _ (I _ _ _ _ _ _ _ (by simp) (λv A=>by cases A;exact⟨k,m,hy,S,rfl,Z⟩) (λ_=>rfl) (by simp)) rfl B
       .obtain⟨⟨S,Z,a3⟩,B⟩:=h;exact fin m.toNat V.toNat _ (I _ _ _ _ _ _ _ (by simp) (λv A=>by cases A;exact⟨k,m,hy,S,rfl,by omega⟩) (by simp) λv A=>by cases A;exact⟨k',V,hy',by omega,rfl,a3⟩) rfl B
      .exact h.elim
     .exact h.elim
    .rename_i a U;rw[G _ _ U];split at h
     .rename_i i F;split at h
      .rename_i n el D;split at h
       .rename_i j R;have E:=J.cv F;rw[D]at E;have H:=sX E;have fin:∀(a' b:Nat) (v:Value),aH C.P (z7 false n n (W.map e) (hi0.map e) none) (a',b,n)->
          v=.slice (some (if n=a' then a else a.add (a'*j.size))) (b-a') (n-a')->K v->
          ∃v,sW C.P (do pure (.value (<-ya t (.pointer (some a)) (W.map e) (hi0.map e) (xT e none)))) v/\K v:=by
         intro a' b v hb A B;refine⟨v,aH.next ?_,B⟩;unfold ya;refine(aF H).bind ?_;simp only[Option.map_none];refine aH.bind (v:=a) .pure ?_;refine hb.bind ?_;subst A;exact(eV J R).bind .pure
        have ah:(if n=0 then a else a.add (0*j.size))=a:=by simp[Addr.add]
        rcases a0 with⟨rfl,rfl⟩|⟨y,k,m,rfl,hy,rfl⟩<;>rcases ax with⟨rfl,rfl⟩|⟨y',k',V,rfl,hy',rfl⟩
        .exact fin 0 n _ (I _ _ _ _ _ _ _ (λ_=>rfl) (by simp) (λ_=>rfl) (by simp)) (by rw[ah];rfl) h
        .obtain⟨⟨S,Z⟩,B⟩:=h;exact fin 0 V.toNat _ (I _ _ _ _ _ _ _ (λ_=>rfl) (by simp) (by simp) λv A=>by cases A;exact⟨k',V,hy',S,rfl,Z⟩) (by rw[ah];rfl) B
        .obtain⟨⟨S,Z⟩,B⟩:=h;exact fin m.toNat n _ (I _ _ _ _ _ _ _ (by simp) (λv A=>by cases A;exact⟨k,m,hy,S,rfl,Z⟩) (λ_=>rfl) (by simp)) rfl B
        .obtain⟨⟨S,Z,a3⟩,B⟩:=h;exact fin m.toNat V.toNat _ (I _ _ _ _ _ _ _ (by simp) (λv A=>by cases A;exact⟨k,m,hy,S,rfl,by omega⟩) (by simp) λv A=>by cases A;exact⟨k',V,hy',by omega,rfl,a3⟩) rfl B
       .exact h.elim
      .exact h.elim
     .exact h.elim
    .exact h.elim
   .exact h.elim
 case extract x n=>
  split at h
  .rename_i vs U;rw[G _ _ U];split at h
   .rename_i v A;refine⟨v,aH.next ?_,h⟩;have:(⟨vs⟩:Array Value)[n]?=some v:=by simpa using A
    simp only[Instr.extract,this];exact .pure
   .exact h.elim
  .exact h.elim
 case binOp op t x y u=>
  split at h
  .rename_i a b ha hb;rw[G _ _ ha,G _ _ hb];obtain⟨v,A,B⟩:=UG (P:=C.P) (x:=x) (y:=y) (M t) h;exact⟨v,A.next,B⟩
  .exact h.elim
 case unOp op t x=>
  split at h
  .rename_i v A;rw[G _ _ A];unfold unV at h;split at h
   .split at h
    .exact⟨_,aH.next .pure,h⟩
    .exact h.elim
   .split at h
    .exact⟨_,aH.next .pure,h⟩
    .exact⟨_,aH.next .pure,h⟩
    .exact h.elim
   .exact h.elim
  .exact h.elim
 case convert s d x=>
  split at h
  .rename_i v ks A a5;rw[G _ _ A];have hs:=BZ (M _ _ a5);unfold adJ at h;split at h
   .split at h
    .rename_i n _ k B;have H:=BZ (M _ _ B);refine⟨_,aH.next ?_,h⟩;unfold convert;refine(aF hs).bind ((aF H).bind ?_);exact .pure
    .exact h.elim
   .exact h.elim
  .exact h.elim
 case build t parts=>
  split at h
  .rename_i vs a9;have hp:(parts.map λ(i,x)=>(i,e x)).toList=vs:=by have:=GR G a9;simpa using this
   split at h
   .rename_i i F;obtain⟨z,hz,bd⟩:=sE J F;have am:i.zero.toArray=z.cells:=by rw[<-bd]
    cases hbig:xr 24 i.size with
    |true=>
     rw[hbig]at h;obtain⟨v,A,B⟩:=h;have a6:(parts.map λ(i,x)=>(i,e x))=vs.toArray:=by rw[<-hp]
     refine⟨v,aH.next ?_,B⟩;show aH C.P (vT t (parts.map λ(i,x)=>(i,e x))) v;rw[a6];exact A
    |false=>
    rw[hbig]at h;simp only[cond_false]at h;split at h
    .rename_i fs X;have E:=J.cv F;rw[X]at E;obtain⟨gs,hg,rfl⟩:=pF E;split at h
     .rename_i ps bk;split at h
      .rename_i cells O;refine⟨_,aH.next (hz.bind ((aF hg).bind ?_)),h⟩;have a7:aH C.P (gs.mapM λf=>(do pure (f.offset,<-sizeOf f.type):Sem (Nat×Nat))) ps.toArray:=by rw[vC];intro w;have:=vx J bk w;rw[map_eq_pure_bind,Sem.run_bind,this];rfl
       refine a7.bind ?_;have ar:wB (λn=>ps.toArray[n]?) z.cells (parts.map λ(i,x)=>(i,e x)).toList=some cells:=by rw[hp,<-am];simpa using O
       rw[ar];exact .pure
      .exact h.elim
     .exact h.elim
    .rename_i n el X;have E:=J.cv F;rw[X]at E;have H:=sX E;split at h
     .rename_i j R;split at h
      .rename_i cells O;refine⟨_,aH.next (hz.bind ((aF H).bind ((eV J R).bind ?_))),h⟩;have ar:wB (λi=>some (i*j.size,j.size)) z.cells (parts.map λ(i,x)=>(i,e x)).toList=some cells:=by rw[hp,<-am];exact O
       rw[ar];exact .pure
      .exact h.elim
     .exact h.elim
    .exact h.elim
   .exact h.elim
  .exact h.elim
 case makeFunc fn first captured=>
  split at h
  .rename_i a b ha hb;have Q:first.map e=a.toArray:=by apply vn;simpa using Cz G ha
   have h2:captured.map e=b.toArray:=by apply vn;simpa using Cz G hb
   refine⟨_,aH.next ?_,h⟩;rw[Q,h2];exact .pure
  .exact h.elim
 case call c=>
  split at h
  .rename_i b hb;have L:∀{v:Value},aH C.P (builtin b c.argTypes o.type (c.args.map λ| .const _=>true|_=>false) (c.args.map e)) (.value v)->
     sW C.P (do let d<-resolve e c o.type;invoke d.target d.args) v:=by
    intro v A w;have:=A w;unfold resolve;rw[hb];exact this
   have N:∀{vs:List Value},rJ ev c.args.toList=some vs->c.args.map e=vs.toArray:=λA=>by
    apply vn;simpa using Cz G A
   have Y:∀{s:Sem Value} {v:Value},aH C.P s v->aH C.P (do pure (Next.value (<-s))) (.value v):=λhs=>hs.bind .pure;split at h
   case h_1=>
    split at h
    .rename_i t ts x Q h2;split at h
     .rename_i v A;have ha:c.args.map e=#[v]:=by apply vn;rw[xn,h2];simp[G _ _ A]
      have ht:c.argTypes[0]?=some t:=by rw[<-yO,Q];rfl
      unfold agq at h;split at h
      .rename_i p n cap;split at h
       .rename_i el D;have H:=ji (M _ _ D);refine⟨_,L ?_,h⟩;rw[ha];refine Y ?_;intro w;simp[vV,ht,underlying,H,goInt]
       .exact h.elim
      .rename_i s;split at h
       .rename_i D;have H:=uR (M _ _ D);refine⟨_,L ?_,h⟩;rw[ha];refine Y ?_;intro w;simp[vV,ht,underlying,H,goInt]
       .exact h.elim
      .exact h.elim
     .exact h.elim
    .exact h.elim
   case h_2=>
    split at h
    .rename_i t ts x Q h2;split at h
     .rename_i v A;have ha:c.args.map e=#[v]:=by apply vn;rw[xn,h2];simp[G _ _ A]
      have ht:c.argTypes[0]?=some t:=by rw[<-yO,Q];rfl
      unfold agr at h;split at h
      .rename_i p n cap;split at h
       .rename_i el D;have H:=ji (M _ _ D);refine⟨_,L ?_,h⟩;rw[ha];refine Y ?_;intro w;simp[Builtin.cap_,ht,underlying,H,goInt]
       .exact h.elim
      .exact h.elim
     .exact h.elim
    .exact h.elim
   case h_3=>
    split at h
    .rename_i k a k' b A;refine⟨_,L ?_,h⟩;rw[N A];refine Y ?_;intro w;simp[Builtin.min_,Builtin.min2]
    .exact h.elim
   case h_4=>
    split at h
    .rename_i k a k' b A;refine⟨_,L ?_,h⟩;rw[N A];refine Y ?_;intro w;simp[Builtin.max_,Builtin.max2]
    .exact h.elim
   case h_5=>
    split at h
    .rename_i k a b A;refine⟨_,L ?_,h⟩;rw[N A];exact Y .pure
    .exact h.elim
   case h_6=>
    split at h
    .rename_i k a b A;refine⟨_,L ?_,h⟩;rw[N A];exact Y .pure
    .exact h.elim
   all_goals exact h.elim
  .exact h.elim
 all_goals exact h.elim
end
def bt(h:Heap)(a:Addr):Nat->List Value->Prop
 |_,[]=>True
 |n,v::r=>cellOf h (a.add n)=some v/\bt h a (n+1) r
structure AK where
 a:Addr
 ty:Ty
 n:Nat
def AK.holds(r:AK)(h:Heap)(y:r.ty.den):Prop:=
 match r.ty,y with
 | .sc s,y=>cellOf h r.a=some (s.enc y)
 | .agg l,y=>bt h r.a 0 (oN l y)
 | .arr s,y=>y.length=r.n/\bt h r.a 0 (y.map s.enc)
def vZ(T:kT)(op:Op)(ev:Operand->Option Value):Option AK:=
 match op with
 | .load t x=>match ev x with
  |some (.pointer (some a))=>match T.get t with
   |some i=>match i.cv with
    | .struct _=>match i.ty with
     | .agg l=>bif wH l.length i.size then some ⟨a,i.ty,i.size⟩else none
     |_=>none
    | .array _ _=>match i.ty with
     | .arr _=>some ⟨a,i.ty,i.size⟩
     |_=>none
    | .other=>none
    |_=>match i.ty with
     | .sc _=>some ⟨a,i.ty,1⟩
     |_=>none
   |none=>none
  |_=>none
 |_=>none
theorem GU:∀(l:List Sc) (x:Bw l),(oN l x).length=l.length
 |[],_=>rfl
 |[_],_=>rfl
 |_::t::r,x=>by simp only[q8];rw[GU (t::r) x.2];rfl
theorem run_loadCells{P:Program}{w:World}{a:Addr}:∀(vs:List Value) (i:Nat) (b:Array Value),bt w.heap a i vs->
  (loadCellsFrom a i vs.length b).run P w=.ok (b++vs.toArray) w
 |[],i,b,_=>rfl
 |v::r,i,b,h=>by
  simp only[q8,loadCellsFrom,Sem.run_bind,run_load,KD,h.1,Result.andThen_ok];rw[run_loadCells r (i+1) (b.push v) h.2];simp
theorem CB{C:BX}(j:C.Ok){ev:Operand->Option Value}{e:Operand->Value}(H:∀x v,ev x=some v->e x=v){o:Oper}{r:AK}
  (b:vZ C.T o.op ev=some r) {y:r.ty.den} {w:World} (d:r.holds w.heap y):(execOp e o).run C.P w=.ok (.value (r.ty.enc y)) w:=by
 unfold vZ at b;split at b
 .rename_i t x q;simp only[execOp,q];split at b
  .rename_i a F;rw[H _ _ F];split at b
   .rename_i i p;have g:(∀v,(loadVar t a).run C.P w=.ok v w->(do let s<-xC t (.pointer (some a));pure (Next.value s):Sem Next).run C.P w=.ok (.value v) w):=by intro v D;have:xC t (.pointer (some a))=loadVar t a:=rfl;rw[this,Sem.run_bind,D];rfl
    split at b
    .rename_i z f;split at b
     .rename_i l h;cases hb:wH l.length i.size with
      |false=>rw[hb]at b;cases b
      |true=>
       rw[hb]at b;simp only[cond_true,wj.injEq]at b;subst b;have m:=zF hb;have c:∀(ty:Ty) (y:ty.den),ty=.agg l->AK.holds ⟨a,ty,i.size⟩ w.heap y->(loadVar t a).run C.P w=.ok (ty.enc y) w:=by rintro ty y rfl d;unfold loadVar;rw[Sem.run_bind,(lL j p).1 z f w];simp only[Result.andThen_ok,if_true,Sem.run_bind,eV j p w];have k:=run_loadCells (P:=C.P) (w:=w) (a:=a) (oN l y) 0 #[] d;rw[GU,m]at k;unfold loadCells;rw[k];simp
       exact g _ (c i.ty y h d)
     .cases b
    .rename_i n E f;split at b
     .rename_i s h;cases b;have c:∀(ty:Ty) (y:ty.den),ty=.arr s->AK.holds ⟨a,ty,i.size⟩ w.heap y->(loadVar t a).run C.P w=.ok (ty.enc y) w:=by rintro ty y rfl ⟨h,d⟩;unfold loadVar;rw[Sem.run_bind,(lL j p).2.1 n E f w];simp only[Result.andThen_ok,if_true,Sem.run_bind,eV j p w];have k:=run_loadCells (P:=C.P) (w:=w) (a:=a) (y.map s.enc) 0 #[] d;rw[List.length_map,h]at k;unfold loadCells;rw[k];simp
      exact g _ (c i.ty y h d)
     .cases b
    .cases b
    .rename_i G B A;split at b
     .rename_i s h;cases b;have c:∀(ty:Ty) (y:ty.den),ty=.sc s->AK.holds ⟨a,ty,1⟩ w.heap y->(loadVar t a).run C.P w=.ok (ty.enc y) w:=by rintro ty y rfl d;have u:cellOf w.heap a=some (s.enc y):=d;unfold loadVar;rw[Sem.run_bind,(lL j p).2.2 G B A w];simp[KD,u]
      exact g _ (c i.ty y h d)
     .cases b
   .cases b
  .cases b
 .cases b
def Typed(t:Ty)(K:Value->Heap->Prop)(v:Value)(h:Heap):Prop:=∃x:t.den,v=t.enc x/\K (t.enc x) h
def Ee(t:Rt)(K:Value->Heap->Prop)(v:Value)(h:Heap):Prop:=∃x:t.den,v=t.enc x/\K (t.enc x) h
def Ef(K:Value->Heap->Prop)(v:Value)(h:Heap):Prop:=∃a:Addr,v=.pointer (some a)/\K (.pointer (some a)) h
def UH(K:Value->Heap->Prop)(v:Value)(h:Heap):Prop:=∃(b:Bool) (r:List Value),v=.tuple ⟨.bool b::r⟩/\K (.tuple ⟨.bool b::r⟩) h
def agt(T:kT)(t:TypeId)(tup:List (TypeId×List Ty)):Option Rt:=
 match tup.find? (λp=>wH p.1 t)with
 |some p=>some (.many p.2)
 |none=>match T.get t with
  |some i=>some (.one i.ty)
  |none=>none
structure Ctx extends BX where
 tup:List (TypeId×List Ty)
 fns:List Bool
structure Ctx.Ok (C:Ctx):Prop extends BX.Ok C.toBX where
 fns:(C.P.funcs.toList.map λf=>!(f.name== "runtime.NumGoroutine")&&f.body.isSome)=C.fns
def UI(C:Ctx)(g:FuncId)(args:List Value)(t:TypeId)(K:Value->Heap->Prop)(h:Heap):Prop:=
 match C.fns[g]? with
 |some true=>match agt C.T t C.tup with
  |some r=>ai C.P g args.toArray h (Ee r K)
  |none=>False
 |_=>False
def IJ(C:Ctx)(o:Oper)(ev:Operand->Option Value)(K:Value->Heap->Prop)(h:Heap):Prop:=
 match o.op with
 | .store t a x=>match ev a,ev x with
  |some p,some v=>aj C.P (qF t p v) h λ_ h'=>K undef h'
  |_,_=>False
 | .alloc t=>aj C.P (yR t true (.tuple #[])) h (Ef K)
 | .box t x=>match ev x with
  |some v=>aj C.P (vU t v) h (Ef K)
  |none=>False
 | .makeSlice t l c=>match ev l,ev c with
  |some l,some c=>aj C.P (zx t l c) h (Typed (.sc .slc) K)
  |_,_=>False
 | .buildSlice t n parts=>match Ed ev parts.toList with
  |some ps=>aj C.P (zE t n ps.toArray) h (Typed (.sc .slc) K)
  |none=>False
 | .makeMap t none=>aj C.P (vF t none) h (Typed (.sc .mp) K)
 | .lookup t x ix ok=>match ev x,ev ix,agt C.T o.type C.tup with
  |some m,some k,some r=>aj C.P (xD t m k ok) h (Ee r K)
  |_,_,_=>False
 | .mapUpdate t m k x=>match ev m,ev k,ev x with
  |some m,some k,some v=>aj C.P (yj t m k v) h λ_ h'=>K undef h'
  |_,_,_=>False
 | .insert t m k x=>match ev m,ev k,ev x with
  |some m,some k,some v=>aj C.P (yj t m k v) h λ_ h'=>K undef h'
  |_,_,_=>False
 | .range t x=>match ev x with
  |some m=>aj C.P (Instr.range t m) h (Ef K)
  |none=>False
 | .next it s=>match ev it with
  |some i=>aj C.P (Instr.next i s o.type) h (UH K)
  |none=>False
 | .entry it=>match ev it with
  |some i=>aj C.P (Instr.entry i) h (Ee (.many [.sc .str,.sc .slc]) K)
  |none=>False
 | .convert s d x=>match ev x,C.T.get o.type with
  |some v,some i=>aj C.P (convert s d v) h (Typed i.ty K)
  |_,_=>False
 | .binOp op t x y _=>match ev x,ev y,C.T.get o.type with
  |some a,some b,some i=>aj C.P (do eqGuard op t x y a b;binOp op t a b) h (Typed i.ty K)
  |some a,some b,none=>aj C.P (do eqGuard op t x y a b;binOp op t a b) h (Typed (.sc .bool) K)
  |_,_,_=>False
 | .slice t x lo hi mx=>match optVal ev lo,optVal ev hi,optVal ev mx,ev x with
  |some l,some r,some m,some v=>aj C.P (ya t v l r m) h (Typed (.sc .slc) K)
  |_,_,_,_=>False
 | .call c=>match c.callee with
  | .builtin .append=>match rJ ev c.args.toList with
   |some vs=>aj C.P (zo c.argTypes o.type vs.toArray) h (Typed (.sc .slc) K)
   |none=>False
  | .builtin .copy=>match rJ ev c.args.toList with
   |some vs=>aj C.P (yV c.argTypes o.type vs.toArray) h (Typed (.sc (.int .i64)) K)
   |none=>False
  | .builtin .clear=>match rJ ev c.args.toList with
   |some vs=>aj C.P (vW c.argTypes o.type vs.toArray) h K
   |none=>False
  | .builtin .len=>match rJ ev c.args.toList with
   |some vs=>aj C.P (vV c.argTypes o.type vs.toArray) h (Typed (.sc (.int .i64)) K)
   |none=>False
  | .builtin .unsafeString=>match rJ ev c.args.toList with
   |some vs=>aj C.P (Builtin.unsafeString_ c.argTypes o.type vs.toArray) h (Typed (.sc .str) K)
   |none=>False
  | .builtin .delete=>match rJ ev c.args.toList with
   |some vs=>aj C.P (vK c.argTypes o.type vs.toArray) h K
   |none=>False
  | .value f=>match ev f,rJ ev c.args.toList with
   |some (.func (.func g) ⟨first⟩ ⟨caps⟩),some vs=>UI C g (first++vs++caps) o.type K h
   |_,_=>False
  |_=>False
 |_=>False
where
 optVal (ev:Operand->Option Value):Option Operand->Option (Option Value)
  |none=>some none
  |some x=>match ev x with
   |some v=>some (some v)
   |none=>none
variable {K:Value->Heap->Prop}
theorem fA{s:Sem Value}(b:aj P s h K):BV P (do pure (.value (<-s))) h K:=
 aj.bind (b.mono λ_ _ a=>aj.pure' a)
theorem Hu{s:Sem Unit}(a:aj P s h λ_ h'=>K undef h'):BV P (do s;pure .skip) h K:=
 aj.bind (a.mono λ_ _ b=>aj.pure' b)
theorem Typed.out{t:Ty}{v:Value}{h:Heap}(x:Typed t K v h):K v h:=by obtain⟨y,rfl,a⟩:=x;exact a
theorem Ee.out{t:Rt}{v:Value}{h:Heap}(x:Ee t K v h):K v h:=by obtain⟨y,rfl,a⟩:=x;exact a
theorem UH.out{v:Value}{h:Heap}(x:UH K v h):K v h:=by obtain⟨b,r,rfl,a⟩:=x;exact a
theorem Ef.out{v:Value}{h:Heap}(x:Ef K v h):K v h:=by obtain⟨y,rfl,a⟩:=x;exact a
theorem RE{C:Ctx}(f:C.Ok){g:FuncId}{args:List Value}{t:TypeId}{K:Value->Heap->Prop}{h:Heap}(b:UI C g args t K h):
  BV C.P (callFunc g args.toArray) h K:=by
 unfold UI at b;split at b
 .rename_i d;split at b
  .have a:=congrArg (·[g]?) f.fns;simp only[qR,d]at a;cases hf:C.P.funcs.toList[g]? with
   |none=>grind
   |some fn=>
    rw[hf]at a;simp only[qW,wj.injEq,qx,Bool.not_eq_true']at a;have c:C.P.funcs[g]?=some fn:=by grind
    have e:fn.body.isNone=false:=by cases hbb:fn.body<;>simp[hbb]at a⊢
    refine aj.bind (aj.abe ?_);simp only[c,a.1,e];exact aj.pure' (b.mono λv h' x=>x.out)
  grind
 grind
theorem UJ{C:Ctx}(T:C.Ok){ev:Operand->Option Value}{e:Operand->Value}(A:∀x v,ev x=some v->e x=v){o:Oper}
  {K:Value->Heap->Prop} {h:Heap} (j:IJ C o ev K h):BV C.P (execOp e o) h K:=by
 have H:∀{x:Option Operand} {r:Option Value},IJ.optVal ev x=some r->x.map e=r:=by
  intro x r J;cases x with
  |none=>cases J;rfl
  |some y=>
   simp only[IJ.optVal]at J;split at J
   .rename_i v B;cases J;rw[qW,A _ _ B]
   .cases J
 unfold IJ at j;split at j
 .rename_i t a x q;simp only[execOp,q];split at j
  .rename_i p v Y B;rw[A _ _ Y,A _ _ B];exact Hu j
  .exact j.elim
 .rename_i t q;simp only[execOp,q];exact fA (j.mono λ_ _ x=>x.out)
 .rename_i t x q;simp only[execOp,q];split at j
  .rename_i v B;rw[A _ _ B];exact fA (j.mono λ_ _ x=>x.out)
  .exact j.elim
 .rename_i t l c q;simp only[execOp,q];split at j
  .rename_i v u B Z;rw[A _ _ B,A _ _ Z];exact fA (j.mono λ_ _ x=>x.out)
  .exact j.elim
 .rename_i t n parts q;simp only[execOp,q];split at j
  .rename_i X O;have:(parts.map λ(i,x)=>(i,e x))=X.toArray:=by apply vn;have:=GR A O;simpa using this
   rw[this];exact fA (j.mono λ_ _ x=>x.out)
  .exact j.elim
 .rename_i t q;simp only[execOp,q];exact fA (j.mono λ_ _ x=>x.out)
 .rename_i t x ix ok q;simp only[execOp,q];split at j
  .rename_i m k r D G R;rw[A _ _ D,A _ _ G];exact fA (j.mono λ_ _ x=>x.out)
  .exact j.elim
 .rename_i t m k x q;simp only[execOp,q];split at j
  .rename_i S U v D G B;rw[A _ _ D,A _ _ G,A _ _ B];exact Hu j
  .exact j.elim
 .rename_i t m k x q;simp only[execOp,q];split at j
  .rename_i S U v D G B;rw[A _ _ D,A _ _ G,A _ _ B];exact Hu j
  .exact j.elim
 .rename_i t x q;simp only[execOp,q];split at j
  .rename_i m D;rw[A _ _ D];exact fA (j.mono λ_ _ x=>x.out)
  .exact j.elim
 .rename_i V s q;simp only[execOp,q];split at j
  .rename_i m D;rw[A _ _ D];exact fA (j.mono λ_ _ x=>x.out)
  .exact j.elim
 .rename_i V q;simp only[execOp,q];split at j
  .rename_i m D;rw[A _ _ D];exact fA (j.mono λ_ _ x=>x.out)
  .exact j.elim
 .rename_i s d x q;simp only[execOp,q];split at j
  .rename_i v i B Q;rw[A _ _ B];exact fA (j.mono λ_ _ x=>x.out)
  .exact j.elim
 .rename_i op t x y u q;simp only[execOp,q];split at j
  .rename_i a b i M N Q;rw[A _ _ M,A _ _ N];exact fA (j.mono λ_ _ x=>x.out)
  .rename_i a b M N Q;rw[A _ _ M,A _ _ N];exact fA (j.mono λ_ _ x=>x.out)
  .exact j.elim
 .rename_i t x lo Q mx q;simp only[execOp,q];split at j
  .rename_i l r m v hl R D B;rw[H hl,H R,H D,A _ _ B];exact fA (j.mono λ_ _ x=>x.out)
  .exact j.elim
 .rename_i c q;simp only[execOp,q];have w:∀{vs:List Value},rJ ev c.args.toList=some vs->c.args.map e=vs.toArray:=λB=>by
   apply vn;simpa using Cz A B
  split at j
  .rename_i E;split at j
   .rename_i vs z;unfold resolve;rw[E,w z];exact fA (j.mono λ_ _ x=>x.out)
   .exact j.elim
  .rename_i E;split at j
   .rename_i vs z;unfold resolve;rw[E,w z];exact fA (j.mono λ_ _ x=>x.out)
   .exact j.elim
  .rename_i E;split at j
   .rename_i vs z;unfold resolve;rw[E,w z];exact fA j
   .exact j.elim
  .rename_i E;split at j
   .rename_i vs z;unfold resolve;rw[E,w z];exact fA (j.mono λ_ _ x=>x.out)
   .exact j.elim
  .rename_i E;split at j
   .rename_i vs z;unfold resolve;rw[E,w z];exact fA (j.mono λ_ _ x=>x.out)
   .exact j.elim
  .rename_i E;split at j
   .rename_i vs z;unfold resolve;rw[E,w z];exact fA j
   .exact j.elim
  .rename_i f E;split at j
   .rename_i g first F vs W z
    unfold resolve;rw[E,w z];simp only[A _ _ W];have:=RE T j;have I:(⟨first⟩:Array Value)++vs.toArray++(⟨F⟩:Array Value)=(first++vs++F).toArray:=by simp
    have L:BV C.P (callFunc g ((⟨first⟩:Array Value)++vs.toArray++(⟨F⟩:Array Value))) h K:=by rw[I];exact this
    simp only[Deferred.ofValue];exact L
   .exact j.elim
  .exact j.elim
 .exact j.elim
def put(n:Nat)(a:Option Tmp)(K:Env->Heap->Prop)(ρ:Env)(v:Value)(h:Heap):Prop:=
 match a with
 |some d=>bif xr d n then K (.val d v::ρ) h else False
 |none=>K ρ h
theorem wd{n:Nat}{b:Option Tmp}{K:Env->Heap->Prop}{ρ:Env}{v:Value}{h:Heap}(c:put n b K ρ v h){a:Act}(e:Fits n a ρ):
  ∃ρ',Fits n (a.put b v) ρ'/\Ext ρ ρ' a (a.put b v)/\K ρ' h:=by
 unfold put at c;cases b with
 |none=>exact⟨ρ,e,Ext.refl _ _,c⟩
 |some d=>
  simp only at c;cases hb:xr d n with
  |false=>rw[hb]at c;exact c.elim
  |true=>rw[hb]at c;exact⟨_,e.put hb v,Ext.put v v,c⟩
def abl(C:Ctx)(n:Nat)(o:Oper)(K:Env->Heap->Prop)(ρ:Env)(h:Heap):Prop:=
 match BY C.P C.T o.op ρ.eval with
 | .no=>match vZ C.T o.op ρ.eval with
  |some r=>∃y:r.ty.den,r.holds h y/\put n o.dst K ρ (r.ty.enc y) h
  |none=>IJ C o ρ.eval (put n o.dst K ρ) h
 |p=>p.holds λv=>put n o.dst K ρ v h
def IK(ops:Array Oper)(o:Oper)(ρ:Env)(a skip:Env->Prop):Prop:=
 match o.guard with
 |none=>a ρ
 |some (j,want)=>match(ops[j]?).bind (·.dst)with
  |some d=>match ρ.get d with
   |some (.bool b)=>Br b (bif want then a (.val d (.bool true)::ρ)else skip (.val d (.bool true)::ρ)) (bif want then skip (.val d (.bool false)::ρ)else a (.val d (.bool false)::ρ))
   |some (.tuple _)=>skip ρ
   |_=>False
  |none=>False
theorem Fits.known{n:Nat}{a:Act}{ρ:Env}(c:Fits n a ρ){d:Nat}{v:Value}(e:ρ.get d=some v):Fits n a (.val d v::ρ)/\Ext ρ (.val d v::ρ) a a:=by
 refine⟨⟨c.size,c.defers,λt x b=>?_⟩,⟨[.val d v],rfl,λ_ _=>rfl⟩⟩;simp only[Env.get]at b;cases hb:wH d t with
 |false=>rw[hb]at b;exact c.get t x b
 |true=>
  rw[hb]at b;have:=zF hb;subst this;rw[cond_true]at b;exact c.get _ x (e.trans b)
theorem GV{ops:Array Oper}{o:Oper}{ρ:Env}{f skip:Env->Prop}{n:Nat}{a:Act}(g:Fits n a ρ)(c:IK ops o ρ f skip):
  ∃ρ',Fits n a ρ'/\Ext ρ ρ' a a/\((Region.wanted o (yielded ops a.tmps)=true/\f ρ')∨(Region.wanted o (yielded ops a.tmps)=false/\skip ρ')):=by
 unfold IK at c;unfold Region.wanted;split at c
 .rename_i l;rw[l];exact⟨ρ,g,Ext.refl _ _,.inl ⟨rfl,c⟩⟩
 .rename_i j e l;rw[l];split at c
  .rename_i d p;split at c
   .rename_i b k;have m:yielded ops a.tmps j=some b:=by unfold yielded;rw[p];simp[g.get _ _ k]
    simp only[m];obtain⟨i,h⟩:=g.known k;cases b<;>cases e<;>simp only[Br,cond_true,cond_false]at c
    .exact⟨_,i,h,.inl ⟨rfl,c⟩⟩
    .exact⟨_,i,h,.inr ⟨rfl,c⟩⟩
    .exact⟨_,i,h,.inr ⟨rfl,c⟩⟩
    .exact⟨_,i,h,.inl ⟨rfl,c⟩⟩
   .rename_i vs k;have m:yielded ops a.tmps j=none:=by unfold yielded;rw[p];simp[g.get _ _ k]
    simp only[m];exact⟨ρ,g,Ext.refl _ _,.inr ⟨by simp,c⟩⟩
   .exact c.elim
  .exact c.elim
theorem XE{C:Ctx}(f:C.Ok){n:Nat}{o:Oper}{K:Env->Heap->Prop}{ρ:Env}{a:Act}{w:World}(j:Fits n a ρ)(d:abl C n o K ρ w.heap)
  {Q:Exit->Act->World->Prop} {next:Act->World->Prop}
  (l:∀a' w' ρ',Fits n a' ρ'->Ext ρ ρ' a a'->dC w w'->K ρ' w'.heap->next a' w'):o.wp C.P a w next Q:=by
 have i:∀x v,ρ.eval x=some v->a.eval x=v:=λx v h=>j.eval h;have b:∀v w',dC w w'->put n o.dst K ρ v w'.heap->next (a.put o.dst v) w':=λv w' t s=>by
  obtain⟨ρ',q,k,h3⟩:=wd s j;exact l _ _ _ q k t h3
 have c:(BY C.P C.T o.op ρ.eval).holds (λv=>put n o.dst K ρ v w.heap)->o.wp C.P a w next Q:=λh=>by
  obtain⟨v,p,g⟩:=II f.toOk i h;unfold Oper.wp;rw[p w];exact b v w (dC.refl w) g
 unfold abl at d;split at d
 .split at d
  .rename_i r e;obtain⟨y,m,g⟩:=d;unfold Oper.wp;rw[CB f.toOk i e m];exact b _ w (dC.refl w) g
  .exact aiI (UJ f i d) b
 .exact c d
def Gj(C:Ctx)(n:Nat)(ops:Array Oper)(o:Oper)(K:Env->Heap->Prop)(ρ:Env)(h:Heap):Prop:=
 IK ops o ρ (λρ=>abl C n o K ρ h) (λρ=>put n o.dst K ρ undef h)
theorem IL{C:Ctx}(f:C.Ok){n:Nat}{ops:Array Oper}{o:Oper}{i:Nat}(p:ops[i]?=some o){K:Env->Heap->Prop}{ρ:Env}{a:Act}{w:World}
  (k:Fits n a ρ) (j:Gj C n ops o K ρ w.heap) {Q:Exit->Act->World->Prop} {next:Act->World->Prop}
  (d:∀a' w' ρ',Fits n a' ρ'->Ext ρ ρ' a a'->dC w w'->K ρ' w'.heap->next a' w'):wpOp C.P ops Q i next a w:=by
 obtain⟨ρ',e,c,h3⟩:=GV k j;unfold wpOp;simp only[p];rcases h3 with⟨hw,hr⟩|⟨hw,hr⟩
 .simp only[hw,if_true];exact .inl (XE f e hr λa' w' b g x2 x3 m=>d _ _ _ g (c.trans x2) x3 m)
 .simp only[hw,zh,if_false];obtain⟨b,h,q,l⟩:=wd hr e;exact d _ _ _ h (c.trans q) (dC.refl w) l
def abm(C:Ctx)(n:Nat)(ops:Array Oper)(K:Env->Heap->Prop):List Oper->Env->Heap->Prop
 |[],ρ,h=>K ρ h
 |o::r,ρ,h=>Gj C n ops o (abm C n ops K r) ρ h
def Out(n:Nat)(Q:Exit->Env->Heap->Prop)(ρ:Env)(a:Act)(w:World):Exit->Act->World->Prop:=λe a' w'=>
 ∃ρ',Fits n a' ρ'/\Ext ρ ρ' a a'/\dC w w'/\Q e ρ' w'.heap
theorem LM{C:Ctx}(b:C.Ok){n:Nat}{ops:Array Oper}{K:Env->Heap->Prop}{Q:Exit->Act->World->Prop}{ρ0:Env}{a0:Act}{w0:World}
  (c:∀a w ρ,Fits n a ρ->Ext ρ0 ρ a0 a->dC w0 w->K ρ w.heap->Q .normal a w):
  ∀(r:List Oper) (i:Nat),(∀j,r[j]?=ops[i+j]?)->∀(ρ:Env) (a:Act) (w:World),Fits n a ρ->Ext ρ0 ρ a0 a->dC w0 w->abm C n ops K r ρ w.heap->
   wpOps C.P ops Q (List.range' i r.length) a w
 |[],i,_,ρ,a,w,hf,hx,hl,hs=>c a w ρ hf hx hl hs
 |o::r,i,hr,ρ,a,w,hf,hx,hl,hs=>by
  have h0:ops[i]?=some o:=by simpa using(hr 0).symm
  rw[q8,List.range'_succ,wpOps_cons];refine IL b h0 hf hs λa' w' ρ' f e h3 d=>?_;exact LM b c r (i+1) (λj=>by have:=hr (j+1);simpa[Nat.add_assoc,Nat.add_comm 1 j]using this) ρ' a' w' f (hx.trans e) (hl.trans h3) d
abbrev bQ:=List (Addr×Value)
def bQ.ok:bQ->Heap->Prop
 |[],_=>True
 |p::r,h=>cellOf h p.1=some p.2/\bQ.ok r h
def oO(a:Addr):Nat->List Value->bQ->bQ
 |_,[],L=>L
 |n,v::r,L=>(a.add n,v)::oO a (n+1) r L
theorem ow{a:Addr}{h:Heap}:∀{vs:List Value} {n:Nat} {L:bQ},(oO a n vs L).ok h↔bt h a n vs/\L.ok h
 |[],_,L=>by simp[oO,bt]
 |v::r,n,L=>by simp only[oO,bQ.ok,bt,ow (vs:=r),and_assoc]
def AK.held(r:AK)(y:r.ty.den)(L:bQ):bQ:=
 match r.ty,y with
 | .sc s,y=>(r.a,s.enc y)::L
 | .agg l,y=>oO r.a 0 (oN l y) L
 | .arr s,y=>oO r.a 0 (y.map s.enc) L
theorem AK.afb{r:AK}{y:r.ty.den}{L:bQ}{b:Heap}(h0:r.holds b y){m:Heap}:(r.held y L).ok m↔r.holds m y/\L.ok m:=by
 obtain⟨a,ty,n⟩:=r;cases ty with
 |sc s=>rfl
 |agg l=>exact ow
 |arr s=>exact ow.trans ⟨λx=>⟨⟨h0.1,x.1⟩,x.2⟩,λx=>⟨x.1.2,x.2⟩⟩
structure gU where
 op:Nat
 r:AK
 y:r.ty.den
def flat:List gU->bQ
 |[]=>[]
 |p::r=>p.r.held p.y (flat r)
def gU.ok(p:gU)(w:World):Prop:=p.r.holds w.heap p.y
def waits(ops:Array Oper)(j i:Nat):Bool:=match ops[j]? with
 |some o=>o.after.any λe=>Region.binds .any e&&wH e.on i
 |none=>false
def keep(ops:Array Oper)(j:Nat):List gU->List gU
 |[]=>[]
 |p::r=>bif waits ops j p.op then keep ops j r else p::keep ops j r
theorem rS{ops:Array Oper}{j:Nat}:∀{L:List gU},∀p∈keep ops j L,p∈L
 |[],p,h=>by cases h
 |q::r,p,h=>by
  unfold keep at h;cases hw:waits ops j q.op with
  |true=>rw[hw]at h;exact qC _ (rS p h)
  |false=>
   rw[hw]at h;rcases qX.1 h with rfl|h
   .simp
   .exact qC _ (rS p h)
theorem CC{ops:Array Oper}{j:Nat}:∀{L:List gU} {p:gU},p∈L->waits ops j p.op=false->p∈keep ops j L
 |q::r,p,h,hw=>by
  unfold keep;rcases qX.1 h with rfl|h
  .grind
  .cases hq:waits ops j q.op with
   |true=>exact CC h hw
   |false=>exact qC _ (CC h hw)
theorem Hv{ops:Array Oper}{j:Nat}{p:gU}:∀{M:List gU},p∈keep ops j M->waits ops j p.op=false
 |[],h=>by cases h
 |q::r,h=>by
  unfold keep at h;cases hq:waits ops j q.op with
  |true=>rw[hq]at h;exact Hv h
  |false=>
   rw[hq]at h;rcases qX.1 h with rfl|h
   .exact hq
   .exact Hv h
theorem Eg{ops:Array Oper}{j:Nat}{L b:List gU}(c:∀p∈b,p∈L):∀p∈keep ops j b,p∈keep ops j L:=
 λp a=>CC (c p (rS p a)) (Hv a)
def mG(P:Program)(ops:Array Oper)(Q:Exit->Act->World->Prop):Nat->List gU->Array Bool->Act->World->Prop
 |0,_,listed,a,w=>Region.ready .any ops listed=[]/\Q .normal a w
 |fuel+1,L,listed,a,w=>
  (Region.ready .any ops listed=[]->Q .normal a w)/\
  ∀i∈Region.ready .any ops listed,wpOp P ops Q i (λa' w'=>(∀p∈keep ops i L,p.ok w')/\mG P ops Q fuel (keep ops i L) (listed.setIfInBounds i true) a' w') a w
theorem IM{P:Program}{ops:Array Oper}{Q:Exit->Act->World->Prop}:∀(b:Nat) (L:List gU) (c:Array Bool) (a:Act) (w:World),mG P ops Q b L c a w->wpAny P .any ops Q b c a w
 |0,_,_,_,_,h=>h
 |b+1,_,_,_,_,h=>⟨h.1,λi d=>wpOp_mono (λa' w' h'=>IM b _ _ a' w' h'.2) (h.2 i d)⟩
theorem CD{P:Program}{ops:Array Oper}{Q:Exit->Act->World->Prop}:∀(b:Nat) {L d:List gU} (c:Array Bool) (a:Act) (w:World),(∀p∈d,p∈L)->mG P ops Q b L c a w->mG P ops Q b d c a w
 |0,_,_,_,_,_,_,h=>h
 |b+1,_,_,_,_,_,hs,h=>⟨h.1,λi f=>wpOp_mono (λa' w' h'=>⟨λp e=>h'.1 p (Eg hs p e),CD b _ a' w' (Eg hs) h'.2⟩) (h.2 i f)⟩
theorem Oi{P:Program}{ops:Array Oper}{Q:Exit->Act->World->Prop}{i:Nat}{t:Oper}{v:Value}{T:World->Prop}{N:List gU}(X:ops[i]?=some t)(y:∀(j:Nat) (o:Oper) cs b,ops[j]?=some o->o.op≠.select cs b)
  (hQ:∀c a w,Q (.panic c) (a.put t.dst v) w->Q (.panic c) a w) (hN:∀p∈N,p.op=i) (Z:∀w,(∀p∈N,p.ok w)->T w):
  ∀(f:Nat) (L:List gU) (d:Array Bool) (a:Act) (w:World),
   (∀j r,ops[j]?=some r->j≠i->d.getD j true=false->(∀e∈r.after,Region.binds .any e=true->e.on≠i)->t.apart ops r=true)->
   i∈Region.ready .any ops d->YieldsIf P ops T t v a->(∀p∈N,p.ok w)->(∀p∈L,p.ok w)->
   mG P ops Q f (N++L) (d.setIfInBounds i true) (a.put t.dst v) w->mG P ops Q (f+1) L d a w:=by
 intro f;have I:∀(f:Nat) (L:List gU) (d:Array Bool) (a:Act) (w:World),YieldsIf P ops T t v a->(∀p∈N,p.ok w)->(∀p∈L,p.ok w)->
   mG P ops Q f (N++L) (d.setIfInBounds i true) (a.put t.dst v) w->
   wpOp P ops Q i (λa' w'=>(∀p∈keep ops i L,p.ok w')/\mG P ops Q f (keep ops i L) (d.setIfInBounds i true) a' w') a w:=λf L d a w E u M H=>
  E.wpOp X (Z w u) ⟨λp g=>M p (rS p g),CD f _ _ _ (λp g=>wC _ (rS p g)) H⟩
 induction f with
 |zero=>
  intro L d a w _ F E u M H;refine⟨λh=>(by grind),λj O=>?_⟩;by_cases l:j=i
  .grind
  .have:=ready_mono O l;rw[H.1]at this;cases this
 |succ f ih=>
  intro L d a w n F E u M H;refine⟨λh=>(by rw[h]at F;cases F),λj O=>?_⟩;by_cases l:j=i
  .subst l;exact I (f+1) L d a w E u M H
  .have A:=H.2 j (ready_mono O l);obtain⟨D,r,s,B⟩:=mem_ready.1 O;have z:∀e∈r.after,Region.binds .any e=true->e.on≠i:=λe he J R=>by
    have A:=B e he J;have h0:=(mem_ready.1 F).1;rw[R]at A;rcases Nat.lt_or_ge i d.size with h'|h'
    .simp[h']at h0 A;rw[h0]at A;cases A
    .simp[Array.getElem?_eq_none h']at A
   have Y:(r.after.any λe=>Region.binds .any e&&wH e.on i)=false:=by
    cases hc:r.after.any λe=>Region.binds .any e&&wH e.on i with
    |false=>rfl
    |true=>
     obtain⟨k,U,J⟩:=Array.any_eq_true.1 hc;simp only[qx]at J;exact absurd (zF J.2) (z _ (Array.getElem_mem U) J.1)
   have V:waits ops j i=false:=by unfold waits;rw[s];omega
   have x:∀p,p∈N->p∈keep ops j (N++L):=λp g=>CC (List.mem_append_left _ g) (by rw[hN p g];omega);have m:∀p,p∈keep ops j L->p∈keep ops j (N++L):=Eg λp g=>wC _ g;have h2:=wpOp_putIf s (n j r s l D z) (λcs b=>y i t cs b X) (λcs b=>y j r cs b s) hQ E A;have q:∀k ok,ops[k]?=some ok->k≠i->(d.setIfInBounds j true).getD k true=false->
     (∀e∈ok.after,Region.binds .any e=true->e.on≠i)->t.apart ops ok=true:=λk ok U W G S=>by
    refine n k ok U W ?_ S;by_cases K:j=k
    .subst K;omega
    .rw[getD_set_ne true K]at G;exact G
   refine wpOp_mono (λa' w' h3=>⟨λp g=>h3.2.1 p (m p g),ih (keep ops j L) (d.setIfInBounds j true) a' w' q (ready_mono F (Ne.symm l)) h3.1 (λp g=>h3.2.1 p (x p g)) (λp g=>h3.2.1 p (m p g)) ?_⟩) h2;rw[Array.setIfInBounds_comm _ _ l];refine CD _ _ _ _ (λp g=>?_) h3.2.2;rcases List.mem_append.1 g with g|g
   .exact x p g
   .exact m p g
theorem By{P:Program}{ops:Array Oper}{Q:Exit->Act->World->Prop}{i:Nat}{e:Oper}{v:Value}{T:World->Prop}{N:List gU}{d:Nat}{L:List gU}{b:Array Bool}{a:Act}{w:World}(g:ops[i]?=some e)
  (n:Region.noSelect ops=true) (o:Region.free .any ops b i=true) (r:(Region.ready .any ops b).contains i=true)
  (m:∀c a w,Q (.panic c) (a.put e.dst v) w->Q (.panic c) a w) (q:∀p∈N,p.op=i) (j:∀w,(∀p∈N,p.ok w)->T w) (l:YieldsIf P ops T e v a) (f:∀p∈N,p.ok w) (k:∀p∈L,p.ok w)
  (h:mG P ops Q d (N++L) (b.setIfInBounds i true) (a.put e.dst v) w):mG P ops Q (d+1) L b a w:=
 Oi g (Region.noSelect_spec n) m q j d L b a w (Region.free_spec g o) (by grind) l f k h
theorem KF:∀{L:List gU} {w0:World},(∀p∈L,p.ok w0)->∀{m:Heap},(flat L).ok m->∀p∈L,p.r.holds m p.y
 |[],_,_,_,_,p,a=>by cases a
 |q::r,w0,h0,m,h,p,a=>by
  have h:=(AK.afb (h0 q List.mem_cons_self)).1 h;rcases qX.1 a with rfl|a
  .exact h.1
  .exact KF (λp a=>h0 p (qC _ a)) h.2 p a
def adK(T:kT)(t:TypeId):Bool:=match T.get t with
 |some i=>match i.ty with
  | .sc .slc=>true
  |_=>false
 |none=>false
def adL(T:kT):Op->Bool
 | .convert s d _=>!(adK T s||adK T d)
 | .move _| .assign _| .pick .. | .nilCheck _| .fieldAddr .. | .indexAddr .. | .index .. | .field .. | .extract .. | .binOp .. | .unOp .. | .build .. | .makeFunc .. | .load .. =>true
 | .slice _ _ _ _ none=>true
 | .call c=>match c.callee with
  | .builtin .len| .builtin .cap| .builtin .min| .builtin .max| .builtin .real| .builtin .imag=>true
  |_=>false
 |_=>false
def oP(T:kT)(ops:Array Oper)(a:Array Bool):List Nat->Option Nat
 |[]=>none
 |i::r=>match ops[i]? with
  |some o=>bif adL T o.op&&Region.free .any ops a i then some i else oP T ops a r
  |none=>oP T ops a r
def UK(C:Ctx)(n:Nat)(ops:Array Oper)(i:Nat)(o:Oper)(L:List gU)(K:List gU->Env->Heap->Prop)(ρ:Env)(h:Heap):Prop:=
 IK ops o ρ (λρ=>match BY C.P C.T o.op ρ.eval with
  | .no=>match vZ C.T o.op ρ.eval with
   |some r=>∃y:r.ty.den,r.holds h y/\put n o.dst (K (⟨i,r,y⟩::L)) ρ (r.ty.enc y) h
   |none=>False
  |p=>p.holds λv=>put n o.dst (K L) ρ v h) (λρ=>put n o.dst (K L) ρ undef h)
def Oj(C:Ctx)(n:Nat)(ops:Array Oper)(K:Nat->Env->Heap->Prop)(ρ:Env)(h:Heap):List Nat->Prop
 |[]=>True
 |[i]=>match ops[i]? with
  |some o=>Gj C n ops o (K i) ρ h
  |none=>False
 |i::j::r=>(match ops[i]? with
  |some o=>Gj C n ops o (K i) ρ h
  |none=>False)/\Oj C n ops K ρ h (j::r)
def wf(C:Ctx)(n:Nat)(ops:Array Oper)(K:Env->Heap->Prop):Nat->Array Bool->List gU->Env->Heap->Prop
 |0,listed,_,ρ,h=>bif (Region.ready .any ops listed).isEmpty then K ρ h else False
 |k+1,listed,L,ρ,h=>match oP C.T ops listed (Region.ready .any ops listed)with
  |some i=>match ops[i]? with
   |some o=>UK C n ops i o L (wf C n ops K k (listed.setIfInBounds i true)) ρ h
   |none=>False
  |none=>match Region.ready .any ops listed with
   |[]=>K ρ h
   |i::r=>Oj C n ops (λi ρ h=>(flat (keep ops i L)).ok h/\wf C n ops K k (listed.setIfInBounds i true) (keep ops i L) ρ h) ρ h (i::r)
theorem tH{T:kT}{ops:Array Oper}{a:Array Bool}:∀{rs:List Nat} {i:Nat},oP T ops a rs=some i->i∈rs/\Region.free .any ops a i=true
 |[],_,h=>by cases h
 |j::r,i,h=>by
  simp only[oP]at h;split at h
  .rename_i o b;cases hb:(adL T o.op&&Region.free .any ops a j)with
   |true=>
    grind
   |false=>
    rw[hb]at h;have:=tH h
    grind
  .have:=tH h
   grind
theorem LN{C:Ctx}{n:Nat}{ops:Array Oper}{K:Nat->Env->Heap->Prop}{ρ:Env}{h:Heap}:∀{l:List Nat},Oj C n ops K ρ h l->∀i∈l,∃o,ops[i]?=some o/\Gj C n ops o (K i) ρ h
 |[],_,i,hi=>by cases hi
 |[j],ha,i,hi=>by
  simp only[Oj]at ha
  grind
 |j::k::r,ha,i,hi=>by
  obtain⟨b,a⟩:=ha;rcases qX.1 hi with rfl|hi
  .grind
  .exact LN a i hi
variable {n:Nat} {ops:Array Oper} {Q:Exit->Act->World->Prop} {ρ0:Env} {a0:Act} {w0:World}
section
variable {C:Ctx} {K:Env->Heap->Prop}
theorem LO(H:C.Ok)(J:Region.noSelect ops=true)
  (U:∀a w ρ,Fits n a ρ->Ext ρ0 ρ a0 a->dC w0 w->K ρ w.heap->Q .normal a w) (E:∀c a w,¬Q (.panic c) a w):
  ∀(k:Nat) (b:Array Bool) (L:List gU) (ρ:Env) (a:Act) (w:World),Fits n a ρ->Ext ρ0 ρ a0 a->dC w0 w->(∀p∈L,p.ok w)->
   wf C n ops K k b L ρ w.heap->mG C.P ops Q k L b a w
 |0,b,L,ρ,a,w,hf,hx,hl,hL,h=>by
  simp only[wf]at h;cases hb:(Region.ready .any ops b).isEmpty with
  |false=>rw[hb]at h;exact h.elim
  |true=>rw[hb]at h;exact⟨by simpa using hb,U _ _ _ hf hx hl h⟩
 |k+1,b,L,ρ,a,w,hf,hx,hl,hL,h=>by
  have G:=LO H J U E k;simp only[wf]at h;split at h
  .rename_i i M;obtain⟨B,f⟩:=tH M;have d:(Region.ready .any ops b).contains i=true:=by simpa using B
   split at h
   .rename_i o u;unfold UK at h;obtain⟨ρ',I,O,h3⟩:=GV hf h;have q:∀c a w (v:Value),Q (.panic c) (Act.put a o.dst v) w->Q (.panic c) a w:=λc a w v hq=>absurd hq (E c _ w);have Y:∀x v,Env.eval ρ' x=some v->a.eval x=v:=λx v h=>I.eval h;rcases h3 with⟨t,g⟩|⟨t,g⟩
    .have s:(BY C.P C.T o.op (Env.eval ρ')).holds (λv=>put n o.dst (wf C n ops K k (b.setIfInBounds i true) L) ρ' v w.heap)->
       mG C.P ops Q (k+1) L b a w:=λe=>by
      obtain⟨v,hv,S⟩:=II H.toOk Y e;obtain⟨m,A,F,D⟩:=wd S I;exact By (N:=[]) (T:=λ_=>True) u J f d (λc a w=>q c a w v) (λp e=>by cases e) (λ_ _=>trivial) (.inl ⟨t,λw _=>hv w⟩) (λp e=>by cases e) hL
       (G _ L m _ w A (hx.trans (O.trans F)) hl hL D)
     split at g
     .split at g
      .rename_i r z;obtain⟨y,hy,S⟩:=g;obtain⟨m,A,F,D⟩:=wd S I;have V:∀p∈[(⟨i,r,y⟩:gU)],p.ok w:=λp e=>by rw[qw]at e;subst e;exact hy
       refine By (N:=[⟨i,r,y⟩]) (T:=λw=>r.holds w.heap y) u J f d (λc a w=>q c a w _) (λp e=>by rw[qw]at e;subst e;rfl)
        (λw h=>h ⟨i,r,y⟩ (qw.2 rfl)) (.inl ⟨t,λw t=>CB H.toOk Y z t⟩) V hL ?_
       refine G _ (⟨i,r,y⟩::L) m _ w A (hx.trans (O.trans F)) hl (λp e=>?_) D
       grind
      .exact g.elim
     .exact s g
    .obtain⟨m,A,F,D⟩:=wd g I;exact By (N:=[]) (T:=λ_=>True) u J f d (λc a w=>q c a w undef) (λp e=>by cases e) (λ_ _=>trivial) (.inr ⟨t,rfl⟩) (λp e=>by cases e) hL
      (G _ L m _ w A (hx.trans (O.trans F)) hl hL D)
   .exact h.elim
  .split at h
   .rename_i g;exact⟨λ_=>U _ _ _ hf hx hl h,λi M=>by rw[g]at M;cases M⟩
   .rename_i i r g;refine⟨λh0=>absurd (g▸h0) (by simp),λj X=>?_⟩;rw[g]at X;obtain⟨o,u,R⟩:=LN h j X;have l:∀p∈keep ops j L,p.ok w:=λp e=>hL p (rS p e);exact IL H u hf R λa' w' ρ' Z x2 x3 W=>⟨KF l W.1,G _ (keep ops j L) ρ' a' w' Z (hx.trans x2) (hl.trans x3) (KF l W.1) W.2⟩
end
def sched(T:kT)(ops:Array Oper):Nat->Array Bool->Option (List (Nat×Bool))
 |0,listed=>bif (Region.ready .any ops listed).isEmpty then some []else none
 |k+1,listed=>match oP T ops listed (Region.ready .any ops listed)with
  |some i=>(sched T ops k (listed.setIfInBounds i true)).map ((i,true)::·)
  |none=>match Region.ready .any ops listed with
   |[]=>some []
   |[i]=>(sched T ops k (listed.setIfInBounds i true)).map ((i,false)::·)
   |_::_::_=>none
def sY(C:Ctx)(n:Nat)(ops:Array Oper)(K:Env->Heap->Prop):List (Nat×Bool)->List gU->Env->Heap->Prop
 |[],_,ρ,h=>K ρ h
 |(i,true)::r,L,ρ,h=>match ops[i]? with
  |some o=>UK C n ops i o L (sY C n ops K r) ρ h
  |none=>False
 |(i,false)::r,L,ρ,h=>match ops[i]? with
  |some o=>Gj C n ops o (λρ h=>(flat (keep ops i L)).ok h/\sY C n ops K r (keep ops i L) ρ h) ρ h
  |none=>False
theorem LP{C:Ctx}{n:Nat}{ops:Array Oper}{K:Env->Heap->Prop}:∀(k:Nat) (a:Array Bool) (l:List (Nat×Bool)),sched C.T ops k a=some l->
  wf C n ops K k a=sY C n ops K l
 |0,a,l,hs=>by
  simp only[sched]at hs;cases hb:(Region.ready .any ops a).isEmpty with
  |false=>rw[hb]at hs;cases hs
  |true=>
   rw[hb]at hs;cases hs;funext L ρ h;simp only[wf,hb,sY,cond_true]
 |k+1,a,l,hs=>by
  have c:=λi=>LP (C:=C) (n:=n) (ops:=ops) (K:=K) k (a.setIfInBounds i true);funext L ρ h;unfold sched at hs;unfold wf;cases hi:oP C.T ops a (Region.ready .any ops a)with
  |some i=>
   rw[hi]at hs;obtain⟨l',b,rfl⟩:=vd.1 hs;simp only[sY,c i l' b]
  |none=>
   rw[hi]at hs;generalize d:Region.ready .any ops a=rd at hs
   match rd,hs with
   |[],hs=>cases hs;simp only[sY]
   |[i],hs=>
    obtain⟨l',b,rfl⟩:=vd.1 hs;simp only[Oj,sY,c i l' b]
def KG(C:Ctx)(n:Nat)(ops:Array Oper)(a:Bool)(K:Env->Heap->Prop)(ρ:Env)(h:Heap):Prop:=
 match a with
 |false=>abm C n ops K ops.toList ρ h
 |true=>bif Region.noSelect ops then(match sched C.T ops ops.size (vL ops.size false)with
  |some l=>sY C n ops K l [] ρ h
  |none=>wf C n ops K ops.size (vL ops.size false) [] ρ h)else False
theorem Ol{C:Ctx}(d:C.Ok){n:Nat}{id:Nat}{ops:Array Oper}{b:Bool}{Q:Exit->Env->Heap->Prop}{ρ:Env}{a:Act}{w:World}(i:Fits n a ρ)
  (h:KG C n ops b (Q .normal) ρ w.heap):(Code.region id ops b).wp C.P (λe a' w'=>(∀c,e≠.panic c)/\Out n Q ρ a w e a' w') a w:=by
 cases b with
 |false=>
  refine wp_region ?_;have:=LM d (Q:=λe a' w'=>(∀c,e≠.panic c)/\Out n Q ρ a w e a' w') (K:=Q .normal) (ρ0:=ρ) (a0:=a) (w0:=w) (λa' w' ρ' f x2 x3 g=>⟨λc e=>(by cases e),ρ',f,x2,x3,g⟩)
   ops.toList 0 (λj=>by simp) ρ a w i (Ext.refl _ _) (dC.refl _) h
  rw[List.range_eq_range'];simpa using this
 |true=>
  simp only[KG]at h;cases hb:Region.noSelect ops with
  |false=>rw[hb]at h;exact h.elim
  |true=>
   rw[hb]at h;have h:wf C n ops (Q .normal) ops.size (vL ops.size false) [] ρ w.heap:=by
    simp only[cond_true]at h;split at h
    .rename_i l o;rw[LP _ _ _ o];exact h
    .exact h
   refine wp_region_any d.mixed (IM _ [] _ _ _ ?_);exact LO d hb (Q:=λe a' w'=>(∀c,e≠.panic c)/\Out n Q ρ a w e a' w') (ρ0:=ρ) (a0:=a) (w0:=w) (λa' w' ρ' f x2 x3 g=>⟨λc e=>(by cases e),ρ',f,x2,x3,g⟩)
    (λc a w k=>k.1 c rfl) _ _ [] ρ a {w with drawn:=w.drawn+1} i (Ext.refl _ _) ⟨rfl,rfl,rfl,Nat.le_succ _⟩ (λp m=>by cases m) h
def AL{σ:Type}(rest:σ->Heap->Prop)(B:(σ->Heap->Prop)->Prop):Prop:=∃R:σ->Heap->Prop,(∀s h,R s h->rest s h)/\B R
def iu{σ:Type}(B:σ->(σ->Heap->Prop)->Heap->Prop)(s:σ)(h:Heap):Prop:=
 ∃(τ:Type) (V:τ->σ) (I:τ->Heap->Prop) (μ:τ->Nat) (t0:τ),s=V t0/\I t0 h/\∀t h,I t h->B (V t) (λb h'=>∃a,b=V a/\I a h'/\μ a<μ t) h
theorem XF{P:Program}{c:Code}{Q:Exit->Act->World->Prop}{a:Act}{w:World}{σ:Type}(R:σ->Act->World->Prop)(μ:σ->World->Nat)(t:σ)(h0:R t a w)
  (i:∀s a w,R s a w->c.wp P (Exit.then (λa' w'=>∃m,R m a' w'/\μ m w'<μ s w) Q) a w):(Code.loop c).wp P Q a w:=by
 intro b k cs;have p:∀n s a w,μ s w=n->R s a w->
   ∃e a' w',Q e a' w'/\Arrives P (lone (b.at a (.code c::.inLoop c::k)) cs w) b k cs e a' w':=by
  intro n
  induction n using Nat.strongRecOn with
  |_ n ih=>
   intro s a w y A;obtain⟨e,j,h,f,d⟩:=i s a w A b (.inLoop c::k) cs;cases e with
   |normal=>
    obtain⟨m,r,q⟩:=f;obtain⟨u,z,v,o,g⟩:=ih (μ m h) (y▸q) m j h rfl r;exact⟨u,z,v,o,.of_steps (Steps.trans d (.one step_inLoop)) g⟩
   |exit id=>exact⟨_,j,h,f,.pass (x:=.inLoop c) rfl (λ_ _=>.inl (by simp)) d⟩
   |goto l=>exact⟨_,j,h,f,.pass (x:=.inLoop c) rfl (λ_ _=>.inl (by simp)) d⟩
   |ret=>exact⟨_,j,h,f,.pass (x:=.inLoop c) rfl (λ_ _=>.inl (by simp)) d⟩
   |panic ch=>exact⟨_,j,h,f,.pass (x:=.inLoop c) rfl (λ_ _=>.inl (by simp)) d⟩
   |outgrown=>exact⟨_,j,h,f,.pass (x:=.inLoop c) rfl (λ_ _=>.inl (by simp)) d⟩
 obtain⟨e,a',w',f,d⟩:=p _ t a w rfl h0;exact⟨e,a',w',f,.of_steps (.one step_loop) d⟩
inductive cO where
 |n
 |two (a b:cO)
 |inn (a:cO)
 |loop (σ:dN) (κ:dG) (a:cO)
 |join (σ:dN) (κ:dG) (a:cO)
 |scope (l:Nat) (σ:dN) (κ:dG) (pre rest:List cO) (fwd:List (Nat×List cO))
 |fwd (a:cO) (fwd:List (Nat×List cO))
def cO.fst:cO->cO
 | .two a _=>a
 |_=>.n
def cO.snd:cO->cO
 | .two _ b=>b
 |_=>.n
def cO.sub:cO->cO
 | .inn a=>a
 |_=>.n
abbrev QT:=Exit->Env->Heap->Prop
def IN(σ:dN)(κ:dG)(ρ:Env)(K:σ.den->Heap->Prop)(Q:QT):QT
 | .normal,ρ',h=>bif within σ κ ρ' (ρ'.length-ρ.length)then(match σ.read ρ' with|some s=>K s h|none=>False)else False
 |e,ρ',h=>Q e ρ' h
def Gk(next:Env->Heap->Prop)(Q:QT):QT
 | .normal,ρ,h=>next ρ h
 |e,ρ,h=>Q e ρ h
def XG(id:Nat)(Q:QT):QT
 | .exit i,ρ,h=>bif wH i id then Q .normal ρ h else Q (.exit i) ρ h
 |e,ρ,h=>Q e ρ h
abbrev Rec:=Code->cO->QT->Env->Heap->Prop
def AM(rec:Rec):List Code->List cO->QT->Env->Heap->Prop
 |[],_,Q,ρ,h=>Q .normal ρ h
 |c::cs,[],Q,ρ,h=>rec c .n (Gk (AM rec cs [] Q) Q) ρ h
 |c::cs,x::xs,Q,ρ,h=>rec c x (Gk (AM rec cs xs Q) Q) ρ h
def chain:Code->Nat->Option (List Code×List Code)
 | .seq a b,l=>match chain a l with
  |some (p,r)=>some (p,r++[b])
  |none=>match chain b l with
   |some (p,r)=>some (a::p,r)
   |none=>none
 | .label l',l=>bif wH l' l then some ([],[])else none
 |_,_=>none
def adM(a:List (Nat×List cO))(l:Nat):Option (List cO):=
 match a with
 |[]=>none
 |p::r=>bif wH p.1 l then some p.2 else adM r l
def Gl(rec:Rec)(c:Code)(a:List (Nat×List cO))(Q:QT):Nat->QT
 |0=>λ_ _ _=>False
 |g+1=>λe ρ h=>match e with
  | .goto l=>match adM a l with
   |some xs=>match chain c l with
    |some (_,r)=>AM rec r xs (Gl rec c a Q g) ρ h
    |none=>False
   |none=>Q (.goto l) ρ h
  |e=>Q e ρ h
def UL(l:Nat)(σ:dN)(κ:dG)(ρ:Env)(K:σ.den->Heap->Prop)(Q:QT):QT
 | .goto l',ρ',h=>bif wH l' l then(bif within σ κ ρ' (ρ'.length-ρ.length)then(match σ.read ρ' with|some s=>K s h|none=>False)else False)else Q (.goto l') ρ' h
 |e,ρ',h=>Q e ρ' h
def Om(c:Code)(Q:QT):QT
 | .goto l,ρ,h=>match findLabel c l with
  |none=>Q (.goto l) ρ h
  |some _=>False
 |e,ρ,h=>Q e ρ h
def On(C:Ctx)(n:Nat)(rec:Rec)(c:Code)(d:cO)(Q:QT)(ρ:Env)(h:Heap):Prop:=
 match d with
 | .join σ κ a=>AL (λs h=>Q .normal (σ.vals s (κ.over ρ)) h) (λK=>rec c a (IN σ κ ρ K Q) ρ h)
 |d=>match c with
  | .skip=>Q .normal ρ h
  | .label _=>Q .normal ρ h
  | .region _ ops draw=>KG C n ops draw (Q .normal) ρ h
  | .seq a b=>rec a d.fst (Gk (rec b d.snd Q) Q) ρ h
  | .cond x a b=>match ρ.eval x with
   |some (.bool t)=>Br t (rec a d.fst Q ρ h) (rec b d.snd Q ρ h)
   |_=>False
  | .block id c=>rec c d.sub (XG id Q) ρ h
  | .exit id=>Q (.exit id) ρ h
  | .goto l=>Q (.goto l) ρ h
  | .ret=>Q .ret ρ h
  | .loop c=>match d with
   | .loop σ κ a=>match σ.read ρ with
    |some s0=>iu (λs K h=>rec c a (IN σ κ (σ.vals s (κ.over ρ)) K Q) (σ.vals s (κ.over ρ)) h) s0 h
    |none=>False
   |_=>False
  | .scope c=>match d with
   | .scope l σ κ pre rest fwd=>match chain c l with
    |some (p,r)=>AM rec p pre (Gk (λρ' h'=>match σ.read ρ' with
     |some s0=>iu (λs K h=>AM rec r rest (Gl rec c fwd (UL l σ κ (σ.vals s (κ.over ρ')) K (Om c Q)) 4) (σ.vals s (κ.over ρ')) h) s0 h'
     |none=>False) (Om c Q)) ρ h
    |none=>False
   | .fwd a fwd=>rec c a (Gl rec c fwd (Om c Q) 4) ρ h
   |_=>False
  |_=>False
def vc(C:Ctx)(n:Nat):Nat->Rec
 |0=>λ_ _ _ _ _=>False
 |f+1=>On C n (vc C n f)
def Gm(C:Ctx)(n:Nat)(rec:Rec):Prop:=∀(c:Code) (b:cO) (Q:QT) (ρ:Env) (a:Act) (w:World),Fits n a ρ->rec c b Q ρ w.heap->c.wp C.P (Out n Q ρ a w) a w
variable {ρ ρ':Env} {a a':Act} {w w':World}
section
variable {C:Ctx} {Q:QT}
theorem Out.base{e:Exit}{c:Act}{b:World}(i:Ext ρ ρ' a a')(k:dC w w')(h:Out n Q ρ' a' w' e c b):Out n Q ρ a w e c b:=by obtain⟨d,f,j,h3,g⟩:=h;exact⟨d,f,i.trans j,k.trans h3,g⟩
theorem Out.then{next:Env->Heap->Prop}{N:Act->World->Prop}{j:Exit->Act->World->Prop}{e:Exit}{c:Act}{b:World}(h:Out n (Gk next Q) ρ a w e c b)
  (l:∀ρ',Fits n c ρ'->Ext ρ ρ' a c->dC w b->next ρ' b.heap->N c b) (k:Out n Q ρ a w e c b->e≠.normal->j e c b):Exit.then N j e c b:=by
 obtain⟨d,f,i,h3,g⟩:=h;cases e<;>first|exact l d f i h3 g|exact k ⟨d,f,i,h3,g⟩ (by simp)
def ox(P:Program):List Code->(Exit->Act->World->Prop)->Act->World->Prop
 |[],Q,a,w=>Q .normal a w
 |c::cs,Q,a,w=>c.wp P (Exit.then (ox P cs Q) Q) a w
theorem lu{P:Program}{Q d:Exit->Act->World->Prop}(b:∀e a w,Q e a w->d e a w):∀(l:List Code) (a:Act) (w:World),ox P l Q a w->ox P l d a w
 |[],_,_,h=>b _ _ _ h
 |c::cs,a,w,h=>wp_mono h λe a w h=>by
  cases e<;>first|exact lu b cs a w h|exact b _ _ _ h
theorem pG{rec:Rec}(d:Gm C n rec):∀(l:List Code) (xs:List cO) (Q:QT) (ρ:Env) (a:Act) (w:World),Fits n a ρ->AM rec l xs Q ρ w.heap->ox C.P l (Out n Q ρ a w) a w
 |[],_,Q,ρ,a,w,hf,h=>⟨ρ,hf,Ext.refl _ _,dC.refl _,h⟩
 |c::cs,[],Q,ρ,a,w,hf,h=>by
  refine wp_mono (d c .n _ ρ a w hf h) λe a' w' b=>b.then (λρ' f x2 x3 g=>?_) λb _=>b;exact lu (λe a w h=>h.base x2 x3) cs a' w' (pG d cs [] Q ρ' a' w' f g)
 |c::cs,x::xs,Q,ρ,a,w,hf,h=>by
  refine wp_mono (d c x _ ρ a w hf h) λe a' w' b=>b.then (λρ' f x2 x3 g=>?_) λb _=>b;exact lu (λe a w h=>h.base x2 x3) cs a' w' (pG d cs xs Q ρ' a' w' f g)
end
theorem Bz{P:Program}{b:Code}{Q:Exit->Act->World->Prop}:∀(l:List Code) (a:Act) (w:World),ox P (l++[b]) Q a w->ox P l (Exit.then (b.wp P Q) Q) a w
 |[],a,w,h=>by
  refine wp_mono h λe a w h=>?_;cases e<;>exact h
 |c::cs,a,w,h=>wp_mono h λe a w h=>by
  cases e<;>first|exact Bz cs a w h|exact h
theorem sF:∀{c:Code} {l:Nat} {p r:List Code},chain c l=some (p,r)->∃k,findLabel c l=some k/\
  (∀{P:Program} {Q:Exit->Act->World->Prop} {a:Act} {w:World},ox P r Q a w->k.wp P Q a w)/\
  (∀{P:Program} {Q:Exit->Act->World->Prop} {a:Act} {w:World},ox P p (Exit.then (ox P r Q) Q) a w->c.wp P Q a w)
 | .seq x y,l,p,r,h=>by
  simp only[chain]at h;split at h
  .rename_i s m d;cases h;obtain⟨k,j,i,h3⟩:=sF d;refine⟨.seq k y,by simp[findLabel,j],λ{P Q a w} h=>wp_seq (i (Bz m a w h)),λ{P Q a w} h=>wp_seq (h3 ?_)⟩;refine lu (λe a w g=>?_) p a w h;cases e<;>first|exact Bz m a w g|exact g
  .rename_i d;split at h
   .rename_i s m o;cases h;obtain⟨k,j,i,h3⟩:=sF o;have n:findLabel x l=none:=by
     induction x with
     |seq a b iha ihb=>
      simp only[chain]at d;split at d
      .cases d
      .rename_i q;split at d
       .cases d
       .rename_i f;simp[findLabel,iha q,ihb f]
     |label l'=>
      simp only[chain]at d;cases f:wH l' l with
      |true=>grind
      |false=>
       have:¬l'=l:=λe=>by subst e;simp at f
       simp[findLabel,this]
     |_=>rfl
    refine⟨k,by simp[findLabel,n,j],i,λ{P Q a w} h=>wp_seq (wp_mono h λe a w g=>?_)⟩;cases e<;>first|exact h3 g|exact g
   grind
 | .label l',l,p,r,h=>by
  simp only[chain]at h;cases f:wH l' l with
  |false=>grind
  |true=>
   rw[f]at h;cases h;have:=zF f;subst this;exact⟨.skip,by simp[findLabel],λh=>wp_skip h,λh=>wp_label h⟩
 | .skip,_,_,_,h=>by cases h
 | .region ..,_,_,_,h=>by cases h
 | .cond ..,_,_,_,h=>by cases h
 | .block ..,_,_,_,h=>by cases h
 | .loop _,_,_,_,h=>by cases h
 | .rangeFunc ..,_,_,_,h=>by cases h
 | .exit _,_,_,_,h=>by cases h
 | .scope _,_,_,_,h=>by cases h
 | .goto _,_,_,_,h=>by cases h
 | .ret,_,_,_,h=>by cases h
 | .refuse _,_,_,_,h=>by cases h
variable {c:Code} {b:Frame} {k:List Item} {cs:List Frame}
def Reach(P:Program)(c:Code)(Q:Exit->Act->World->Prop)(b:Frame)(k:List Item)(d:List Frame)(a:Act)(w:World)(r:Code):Prop:=
 ∃e a' w',Q e a' w'/\Arrives P (lone (b.at a (.code r::.inScope c::k)) d w) b k d e a' w'
def Good(P:Program)(c:Code)(Q:Exit->Act->World->Prop)(b:Frame)(k:List Item)(d:List Frame):Exit->Act->World->Prop
 | .goto l,a,w=>match findLabel c l with
  |some r=>Reach P c Q b k d a w r
  |none=>Q (.goto l) a w
 |e,a,w=>Q e a w
theorem Oo{m:Machine}{e:Exit}{a:Act}{w:World}(f:Good P c Q b k cs e a w)(d:Arrives P m b (.inScope c::k) cs e a w):
  ∃e a' w',Q e a' w'/\Arrives P m b k cs e a' w':=by
 cases e with
 |normal=>exact⟨.normal,a,w,f,Steps.trans d (.one step_inScope)⟩
 |exit id=>exact⟨.exit id,a,w,f,λi j=>d i (by simp[exitTo,j])⟩
 |goto l=>
  simp only[Good]at f;cases hf:findLabel c l with
  |none=>
   rw[hf]at f;exact⟨.goto l,a,w,f,λi j=>d i (by simp[gotoIn,hf,j])⟩
  |some r=>
   rw[hf]at f;obtain⟨n,p,o,h,g⟩:=f;exact⟨n,p,o,h,.of_steps (d _ (by simp[gotoIn,hf])) g⟩
 |ret=>exact⟨_,a,w,f,d⟩
 |panic ch=>exact⟨_,a,w,f,d⟩
 |outgrown=>exact⟨_,a,w,f,d⟩
theorem Oq{r:Code}{a:Act}{w:World}(h:r.wp P (Good P c Q b k cs) a w):Reach P c Q b k cs a w r:=by obtain⟨e,a',w',f,d⟩:=h b (.inScope c::k) cs;exact Oo f d
theorem DI{a:Act}{w:World}(h:∀b k cs,c.wp P (Good P c Q b k cs) a w):(Code.scope c).wp P Q a w:=by intro b k cs;obtain⟨e,l,m,f,d⟩:=h b k cs b (.inScope c::k) cs;obtain⟨i,a',w',g,j⟩:=Oo f d;exact⟨i,a',w',g,.of_steps (.one step_scope) j⟩
variable {rec:Rec}
section
variable {C:Ctx}
theorem CE(s:Gm C n rec){c:Code}{o:List (Nat×List cO)}{q:QT}{u:Exit->Act->World->Prop}{b:Frame}{k:List Item}{t:List Frame}{ρ:Env}{a0:Act}{w0:World}
  (j:∀e d f i,Fits n f d->Ext ρ d a0 f->dC w0 i->q e d i.heap->Good C.P c u b k t e f i):
  ∀(g:Nat) (e:Exit) (d:Env) (f:Act) (i:World),Fits n f d->Ext ρ d a0 f->dC w0 i->Gl rec c o q g e d i.heap->Good C.P c u b k t e f i
 |0,_,_,_,_,_,_,_,h=>h.elim
 |g+1,e,d,f,i,hf,hx,hl,h=>by
  cases e with
  |goto l=>
   simp only[Gl]at h;split at h
   .split at h
    .rename_i p r m;obtain⟨F,A,v,_⟩:=sF m;simp only[Good,A];refine Oq (v ?_);refine lu (λe a w x=>?_) _ _ _ (pG s _ _ _ d f i hf h);obtain⟨B,z,E,D,y⟩:=x;exact CE s j g e B a w z (hx.trans E) (hl.trans D) y
    grind
   grind
  |normal=>exact j _ _ _ _ hf hx hl h
  |exit id=>exact j _ _ _ _ hf hx hl h
  |ret=>exact j _ _ _ _ hf hx hl h
  |panic ch=>exact j _ _ _ _ hf hx hl h
  |outgrown=>exact j _ _ _ _ hf hx hl h
theorem ph{c:Code}{Q:QT}{b:Frame}{k:List Item}{m:List Frame}{ρ:Env}{a0:Act}{w0:World}{e:Exit}{a:Env}{j:Act}{i:World}
  (f:Fits n j a) (d:Ext ρ a a0 j) (g:dC w0 i) (h:Om c Q e a i.heap):Good C.P c (Out n Q ρ a0 w0) b k m e j i:=by
 cases e with
 |goto l=>
  simp only[Om]at h;simp only[Good];split at h
  .rename_i o;simp only[o];exact⟨a,f,d,g,h⟩
  grind
 |normal=>exact⟨a,f,d,g,h⟩
 |exit id=>exact⟨a,f,d,g,h⟩
 |ret=>exact⟨a,f,d,g,h⟩
 |panic ch=>exact⟨a,f,d,g,h⟩
 |outgrown=>exact⟨a,f,d,g,h⟩
theorem LQ{a:Act}{σ:dN}{κ:dG}{ρ:Env}{s:σ.den}(b:Fits n a ρ)(c:σ.read ρ=some s):Fits n a (σ.vals s (κ.over ρ))/\Ext ρ (σ.vals s (κ.over ρ)) a a:=
 b.rR b (λ_ _ _=>rfl) c
theorem RF(B:Gm C n rec){c:Code}{l:Nat}{σ:dN}{κ:dG}{pre rest:List cO}{z:List (Nat×List cO)}{p r:List Code}(hc:chain c l=some (p,r)){Q:QT}{ρ:Env}{a:Act}{w:World}(U:Fits n a ρ)
  (h:AM rec p pre (Gk (λρ' h'=>match σ.read ρ' with
     |some O=>iu (λs K h=>AM rec r rest (Gl rec c z (UL l σ κ (σ.vals s (κ.over ρ')) K (Om c Q)) 4) (σ.vals s (κ.over ρ')) h) O h'
     |none=>False) (Om c Q)) ρ w.heap):(Code.scope c).wp C.P (Out n Q ρ a w) a w:=by
 refine DI λb k cs=>?_;obtain⟨kk,h1,X,h3⟩:=sF hc;refine h3 (lu (λe a' w' x=>?_) _ _ _ (pG B _ _ _ ρ a w U h));refine x.then (λρ' R x2 x3 T=>?_) (λx _=>?_)
 .split at T
  .rename_i O D;obtain⟨τ,V,I,μ,t0,e0,hI,i⟩:=T;subst e0;have g:=LQ (κ:=κ) R D;have y:∀(m:Nat) (t:τ) (v:Act) (u:World),μ t=m->I t u.heap->Fits n v (σ.vals (V t) (κ.over ρ'))->Ext ρ' (σ.vals (V t) (κ.over ρ')) a' v->dC w' u->
     ox C.P r (Good C.P c (Out n Q ρ a w) b k cs) v u:=by
    intro m
    induction m using Nat.strongRecOn with
    |_ m ih=>
     intro t v u hm J E d f;refine lu (λe a2 Y x=>?_) _ _ _ (pG B _ _ _ _ v u E (i t u.heap J));obtain⟨ρ2,A,L,G,H⟩:=x;refine CE B (ρ:=σ.vals (V t) (κ.over ρ')) (a0:=v) (w0:=u) (λe N a3 Z j o z3 z4=>?_) 4 e ρ2 a2 Y A L G H;cases e with
     |goto l'=>
      simp only[UL]at z4;cases hb:wH l' l with
      |false=>
       rw[hb]at z4;exact ph j (x2.trans (d.trans o)) (x3.trans (f.trans z3)) z4
      |true=>
       rw[hb]at z4;have:=zF hb;subst this;simp only[Good,h1];cases hw:within σ κ N (N.length-(σ.vals (V t) (κ.over ρ')).length)with
       |false=>grind
       |true=>
        rw[hw]at z4;split at z4
        .rename_i s' F;have q:∀t,σ.has t=false->(κ.over []).fv t=false->a3.tmps[t]?=a'.tmps[t]?:=λt M S=>by
          rw[o.within hw t M S,d.rR t M S]
         obtain⟨u1,u2⟩:=R.rR (κ:=κ) j q F;obtain⟨t',W,i1,i2⟩:=z4;subst W;exact Oq (X (ih _ (by omega) t' a3 Z rfl i1 u1 u2 (f.trans z3)))
        grind
     |normal=>exact ph j (x2.trans (d.trans o)) (x3.trans (f.trans z3)) z4
     |exit id=>exact ph j (x2.trans (d.trans o)) (x3.trans (f.trans z3)) z4
     |ret=>exact ph j (x2.trans (d.trans o)) (x3.trans (f.trans z3)) z4
     |panic ch=>exact ph j (x2.trans (d.trans o)) (x3.trans (f.trans z3)) z4
     |outgrown=>exact ph j (x2.trans (d.trans o)) (x3.trans (f.trans z3)) z4
   exact y _ t0 a' w' rfl hI g.1 g.2 (dC.refl _)
  grind
 .obtain⟨ρ1,A,L,G,H⟩:=x;exact ph A L G H
theorem afc(O:C.Ok)(o:Gm C n rec):Gm C n (On C n rec):=by
 intro c P Q ρ a w j h;have u:∀{σ:dN} {κ:dG} {K:σ.den->Heap->Prop} {e:Exit} {a':Act} {w':World},Out n (IN σ κ ρ K Q) ρ a w e a' w'->(∀s h,K s h->Q .normal (σ.vals s (κ.over ρ)) h)->Out n Q ρ a w e a' w':=by
  intro σ κ K e a' w' g S;obtain⟨ρ',f,x2,x3,d⟩:=g;cases e with
  |normal=>
   simp only[IN]at d;cases hw:within σ κ ρ' (ρ'.length-ρ.length)with
   |false=>rw[hw]at d;exact d.elim
   |true=>
    rw[hw]at d;simp only[cond_true]at d;split at d
    .rename_i s Y;obtain⟨G,J⟩:=j.rR (κ:=κ) f (x2.within hw) Y;exact⟨_,G,J,x3,S _ _ d⟩
    .exact d.elim
  |exit id=>exact⟨ρ',f,x2,x3,d⟩
  |goto l=>exact⟨ρ',f,x2,x3,d⟩
  |ret=>exact⟨ρ',f,x2,x3,d⟩
  |panic ch=>exact⟨ρ',f,x2,x3,d⟩
  |outgrown=>exact⟨ρ',f,x2,x3,d⟩
 unfold On at h;split at h
 .rename_i σ κ x;obtain⟨K,Z,hB⟩:=h;exact wp_mono (o c x _ ρ a w j hB) λe a' w' g=>u g Z
 .split at h
  .exact wp_skip ⟨ρ,j,Ext.refl _ _,dC.refl _,h⟩
  .exact wp_label ⟨ρ,j,Ext.refl _ _,dC.refl _,h⟩
  .exact wp_mono (Ol O j h) λe a' w' g=>g.2
  .rename_i x y;refine wp_seq (wp_mono (o x _ _ ρ a w j h) λe a' w' g=>g.then (λρ' f x2 x3 d=>?_) λg _=>g);exact wp_mono (o y _ _ ρ' a' w' f d) λe N T g=>g.base x2 x3
  .rename_i x y z;split at h
   .rename_i t U;refine wp_cond_split (j.eval U) (λe=>?_) (λe=>?_)
    .subst e;exact o y _ _ ρ a w j h
    .subst e;exact o z _ _ ρ a w j h
   .exact h.elim
  .rename_i id x;refine wp_block (wp_mono (o x _ _ ρ a w j h) λe a' w' g=>?_);obtain⟨ρ',f,x2,x3,d⟩:=g;cases e with
   |exit i=>
    simp only[Exit.inBlock];simp only[XG]at d;cases hb:wH i id with
    |true=>
     rw[hb]at d;rw[if_pos (zF hb)];exact⟨ρ',f,x2,x3,d⟩
    |false=>
     rw[hb]at d;rw[if_neg λe=>by subst e;simp at hb];exact⟨ρ',f,x2,x3,d⟩
   |normal=>exact⟨ρ',f,x2,x3,d⟩
   |goto l=>exact⟨ρ',f,x2,x3,d⟩
   |ret=>exact⟨ρ',f,x2,x3,d⟩
   |panic ch=>exact⟨ρ',f,x2,x3,d⟩
   |outgrown=>exact⟨ρ',f,x2,x3,d⟩
  .exact wp_exit ⟨ρ,j,Ext.refl _ _,dC.refl _,h⟩
  .exact wp_goto ⟨ρ,j,Ext.refl _ _,dC.refl _,h⟩
  .exact wp_ret ⟨ρ,j,Ext.refl _ _,dC.refl _,h⟩
  .rename_i x;split at h
   .rename_i σ κ y _;split at h
    .rename_i s0 H;obtain⟨τ,V,I,μ,t0,e0,hI,q⟩:=h;subst e0;have m:=LQ (κ:=κ) j H;refine XF (σ:=τ) (λt B D=>Fits n B (σ.vals (V t) (κ.over ρ))/\Ext ρ (σ.vals (V t) (κ.over ρ)) a B/\dC w D/\I t D.heap) (λt _=>μ t) t0 ⟨m.1,m.2,dC.refl _,hI⟩ ?_;rintro t B D ⟨E,v,z3,z4⟩;refine wp_mono (o x y _ _ B D E (q t _ z4)) λe X w2 g=>?_;obtain⟨ρ',f,x2,x3,d⟩:=g;cases e with
     |normal=>
      simp only[IN]at d;cases hw:within σ κ ρ' (ρ'.length-(σ.vals (V t) (κ.over ρ)).length)with
      |false=>rw[hw]at d;exact d.elim
      |true=>
       rw[hw]at d;simp only[cond_true]at d;split at d
       .rename_i s' F;have A:∀t,σ.has t=false->(κ.over []).fv t=false->X.tmps[t]?=a.tmps[t]?:=λt L M=>by
         rw[x2.within hw t L M,v.rR t L M]
        obtain⟨G,J⟩:=j.rR (κ:=κ) f A F;obtain⟨t',e1,W,i2⟩:=d;subst e1;exact⟨t',⟨G,J,z3.trans x3,W⟩,i2⟩
       .exact d.elim
     |exit id=>exact⟨ρ',f,v.trans x2,z3.trans x3,d⟩
     |goto l=>exact⟨ρ',f,v.trans x2,z3.trans x3,d⟩
     |ret=>exact⟨ρ',f,v.trans x2,z3.trans x3,d⟩
     |panic ch=>exact⟨ρ',f,v.trans x2,z3.trans x3,d⟩
     |outgrown=>exact⟨ρ',f,v.trans x2,z3.trans x3,d⟩
    .exact h.elim
   .exact h.elim
  .rename_i x;split at h
   .split at h
    .rename_i p r R;exact RF o R j h
    .exact h.elim
   .refine DI λb k cs=>wp_mono (o x _ _ ρ a w j h) λe a' w' g=>?_;obtain⟨ρ',f,x2,x3,d⟩:=g;exact CE o (ρ:=ρ) (a0:=a) (w0:=w) (λe ρ3 a3 w3 E v z3 z4=>ph E v z3 z4) 4 e ρ' a' w' f x2 x3 d
   .exact h.elim
  .exact h.elim
theorem Ot(a:C.Ok):∀f,Gm C n (vc C n f)
 |0=>λ_ _ _ _ _ _ _ h=>h.elim
 |f+1=>afc a (Ot a f)
end
def Eh(C:Ctx)(ρ:Env):List ResultVar->(List Value->Prop)->Heap->Prop
 |[],K,_=>K []
 | .tmp t::r,K,h=>match ρ.get t with
  |some v=>Eh C ρ r (λvs=>K (v::vs)) h
  |none=>False
 | .cell a t::r,K,h=>match vZ C.T (.load t (.tmp a)) ρ.eval with
  |some q=>∃y:q.ty.den,q.holds h y/\Eh C ρ r (λvs=>K (q.ty.enc y::vs)) h
  |none=>False
def Ei:List Value->Value
 |[v]=>v
 |vs=>.tuple vs.toArray
def ajp(C:Ctx)(rs:List ResultVar)(R:Value->Heap->Prop):QT
 | .normal,ρ,h=>Eh C ρ rs (λvs=>R (Ei vs) h) h
 | .ret,ρ,h=>Eh C ρ rs (λvs=>R (Ei vs) h) h
 |_,_,_=>False
def Ej:Nat->List Value->Env
 |_,[]=>[]
 |n,v::r=>.val n v::Ej (n+1) r
def XH(C:Ctx)(d:Func)(a:Nat)(b:cO)(args:List Value)(R:Value->Heap->Prop)(h:Heap):Prop:=
 match d.body with
 |some c=>vc C d.ntmps a c b (ajp C d.results.toList R) (Ej 0 args) h
 |none=>False
theorem IP:∀{args:List Value} {n t:Nat} {v:Value},(Ej n args).get t=some v->n<=t/\args[t-n]?=some v
 |[],_,_,_,h=>by cases h
 |u::r,n,t,v,h=>by
  simp only[Ej,Env.get]at h;cases hb:wH n t with
  |true=>
   have:=zF hb
   grind
  |false=>
   rw[hb]at h;obtain⟨a,b⟩:=IP (args:=r) h
   grind
theorem abn{C:BX}(f:C.Ok){ev:Operand->Option Value}{e:Operand->Value}(g:∀x v,ev x=some v->e x=v){t:TypeId}{x:Operand}{q:AK}
  (h:vZ C.T (.load t x) ev=some q) {y:q.ty.den} {w:World} (d:q.holds w.heap y):(xC t (e x)).run C.P w=.ok (q.ty.enc y) w:=by
 have c:(do pure (Next.value (<-xC t (e x)))).run C.P w=.ok (.value (q.ty.enc y)) w:=CB f g (o:=⟨none,.load t x,0, "",#[],none⟩) h d;rw[Sem.run_bind]at c;cases hr:(xC t (e x)).run C.P w with
 |halt a b=>rw[hr]at c;cases c
 |ok v w'=>
  rw[hr]at c;cases c;rfl
theorem Ek{C:Ctx}(j:C.Ok){n:Nat}{a:Act}{ρ:Env}(d:Fits n a ρ):∀{rs:List ResultVar} {K:List Value->Prop} {w:World},Eh C ρ rs K w.heap->
  ∃vs,(rs.mapM (λ| .tmp t=>pure (a.tmps.getD t undef)| .cell x t=>(do loadVar t (<-asAddr (a.tmps.getD x undef)))):Sem (List Value)).run C.P w=.ok vs w/\K vs
 |[],K,w,h=>⟨[],rfl,h⟩
 | .tmp t::r,K,w,h=>by
  simp only[Eh]at h;split at h
  .rename_i v p;obtain⟨vs,k,g⟩:=Ek j d h;refine⟨v::vs,?_,g⟩;have i:a.tmps.getD t undef=v:=by simp[d.get t v p]
   rw[List.mapM_cons,Sem.run_bind,Sem.run_pure,Result.andThen_ok,Sem.run_bind,k,i];rfl
  grind
 | .cell x t::r,K,w,h=>by
  simp only[Eh]at h;split at h
  .rename_i q f;obtain⟨y,o,h⟩:=h;obtain⟨vs,k,g⟩:=Ek j d h;refine⟨q.ty.enc y::vs,?_,g⟩;have m:=abn j.toOk (e:=a.eval) (λx v h=>d.eval h) f o;have s:∃c,a.eval (.tmp x)=.pointer (some c):=by
    unfold vZ at f;simp only at f;split at f
    .rename_i c b;exact⟨c,d.eval b⟩
    grind
   obtain⟨c,b⟩:=s;have i:a.tmps.getD x undef=.pointer (some c):=b;rw[b]at m;rw[List.mapM_cons,Sem.run_bind];simp only[i];have l:(do loadVar t (<-asAddr (.pointer (some c)))).run C.P w=.ok (q.ty.enc y) w:=m;rw[l,Result.andThen_ok,Sem.run_bind,k];rfl
  grind
theorem TH{C:Ctx}(l:C.Ok){f:FuncId}{d:Func}(y:C.P.funcs[f]?=some d){a:Nat}{i:cO}{args:List Value}(z:args.length<=d.ntmps){R:Value->Heap->Prop}{h:Heap}
  (j:XH C d a i args R h):ai C.P f args.toArray h R:=by
 rintro w rfl;unfold XH at j;split at j
 .rename_i c s;refine calls_of_wp y s ?_;have b:Fits d.ntmps {tmps:=args.toArray++vL (d.ntmps-args.toArray.size) undef,defers:=[]} (Ej 0 args):=by refine⟨by simp;omega,rfl,λt v u=>?_⟩;obtain⟨_,g⟩:=IP u;rw[Nat.sub_zero]at g;have k:t<args.length:=(List.getElem?_eq_some_iff.1 g).1;simp only[Array.getElem?_append,List.size_toArray,k,if_true,List.getElem?_toArray];exact g
  refine wp_mono (Ot l a c i _ _ _ w b j) λe a' w' p=>?_;obtain⟨ρ',m,x2,x3,o⟩:=p;have fin:Eh C ρ' d.results.toList (λvs=>R (Ei vs) w'.heap) w'.heap->a'.defers=[]/\∃v,(results d a'.tmps).run C.P w'=.ok v w'/\(∃n,Ending.returned v=.returned n/\dC w w'/\R n w'.heap):=λq=>by
   obtain⟨vs,x,g⟩:=Ek l m q;refine⟨m.defers,Ei vs,?_,Ei vs,rfl,x3,g⟩;unfold results;rw[vC,map_eq_pure_bind,bind_assoc,Sem.run_bind];refine(congrArg (λr=>Result.andThen r _) x).trans ?_;simp only[Result.andThen_ok,pure_bind,Sem.run_pure];cases vs with
   |nil=>rfl
   |cons v r=>cases r<;>rfl
  cases e<;>first|exact fin o|exact o.elim
 .exact j.elim
theorem agu{C:Ctx}(d:C.Ok){f:FuncId}{b:Func}(g:C.P.funcs[f]?=some b)(a:cO){args:List Value}{R:Value->Heap->Prop}{h:Heap}{Q:Prop}(c:Q)
  (i:xB args.length b.ntmps=true:=by kernel_rfl) (e:XH C b 300 a args R h=Q:=by kernel_rfl):ai C.P f args.toArray h R:=TH d g (zC i) (cast e.symm c)
def bI(P:Program)(s:Sem Value)(r:Rt)(h:Heap)(K:r.den->Heap->Prop):Prop:=aj P s h λv h'=>∃x:r.den,v=r.enc x/\K x h'
def un(P:Program)(s:Sem Value)(h:Heap)(K:Addr->Heap->Prop):Prop:=aj P s h λv h'=>∃a:Addr,v=.pointer (some a)/\K a h'
def pH(P:Program)(f:FuncId)(args:Array Value)(r:Rt)(h:Heap)(K:r.den->Heap->Prop):Prop:=ai P f args h λv h'=>∃x:r.den,v=r.enc x/\K x h'
def tI(C:Ctx)(g:FuncId)(args:List Value)(r:Rt)(h:Heap)(K:r.den->Heap->Prop):Prop:=
 match C.fns[g]? with
 |some true=>pH C.P g args.toArray r h K
 |_=>False
theorem eJ{C:Ctx}{g:FuncId}{args:List Value}{r:Rt}{h:Heap}{K:r.den->Heap->Prop}(a:C.fns[g]?=some true)(b:pH C.P g args.toArray r h K):tI C g args r h K:=by unfold tI;rw[a];exact b
namespace Rk
open Go
inductive Er where
 |val (t:Nat) (v:Value)
 |tf (t:Nat) (b:Nat)
abbrev Ev:=List Er
def agv:Nat->Value
 |0=>.bool false
 |_+1=>.bool true
def UM:Bool->Value->Ev->Nat->Value
 |true,x,_,_=>x
 |false,_,[],_=>.tuple #[]
 |false,_,.val s x::r,t=>UM (s==t) x r t
 |false,_,.tf s n::r,t=>UM (s==t) (agv n) r t
abbrev Hw(ρ:Ev)(t:Nat):Value:=UM false (.tuple #[]) ρ t
inductive Gd where
 |k (n:Nat)
 |v (v:Value)
def NS:Bool->Gd->Ev->Nat->Gd
 |true,x,_,_=>x
 |false,_,[],_=>.k 0
 |false,_,.val s x::r,t=>NS (s==t) (.v x) r t
 |false,_,.tf s n::r,t=>NS (s==t) (.k n) r t
abbrev agw(ρ:Ev)(t:Nat):Gd:=NS false (.k 0) ρ t
def fw(ρ:Ev):Operand->Value
 | .tmp t=>Hw ρ t
 | .const v=>v
 | .global g=>.pointer (some ⟨g,0,none⟩)
 | .func f=>.func (.func f) #[] #[]
def IQ(ρ:Ev):List Operand->List Value
 |[]=>[]
 |x::r=>fw ρ x::IQ ρ r
def NT(ρ:Ev):List (Nat×Operand)->List (Nat×Value)
 |[]=>[]
 |(n,x)::r=>(n,fw ρ x)::NT ρ r
def IR(ρ:Ev):Option Operand->Option Value
 |none=>none
 |some x=>some (fw ρ x)
def UN:Bool->Bool
 |true=>false
 |false=>true
def agx:Bool->Bool->Bool
 |true,b=>b
 |false,_=>false
def abo:Bool->Bool->Bool
 |true,_=>true
 |false,b=>b
def Hx:Bool->Bool->Bool
 |true,b=>UN b
 |false,_=>false
def nP{α:Type}(d:α):List α->Nat->α
 |[],_=>d
 |a::_,0=>a
 |_::r,n+1=>nP d r n
def Ou{α:Type}:Nat->List α->List α
 |0,l=>l
 |_+1,[]=>[]
 |n+1,_::r=>Ou n r
def Ov{α:Type}:Nat->List α->List α
 |0,_=>[]
 |_+1,[]=>[]
 |n+1,a::r=>a::Ov n r
def sG{α:Type}:List α->List α->List α
 |[],m=>m
 |a::r,m=>a::sG r m
def abp{α:Type}:List α->Nat
 |[]=>0
 |_::r=>abp r+1
def UO:TI:=⟨.other,.sc .any,0,0,[]⟩
def agy(l:List TI)(t:Nat):TI:=nP UO l t
def UP:ot->Nat->Nat×TypeId
 | .struct fs,f=>nP (0,0) fs f
 | .int _,_| .bool,_| .str,_| .flt,_| .cpx,_| .mp,_| .fn,_| .other,_| .slice _,_| .array ..,_| .ptr _,_=>(0,0)
def IS:ot->TypeId
 | .slice e=>e
 | .array _ e=>e
 | .int _| .bool| .str| .flt| .cpx| .mp| .fn| .other| .struct _| .ptr _=>0
inductive Rz:Type 1 where
 |val (v:Value)
 |cond (c:Prop) (v:Value)
 |ex (X:Type) (c:X->Prop) (v:X->Value)
 |br (b:Bool) (x y:Value)
 |ld (a:Addr) (t:Ty) (n:Nat)
 |ru (α:Type) (s:Sem α)
 |ra (s:Sem Value)
 |rr (s:Sem Value) (t:Rt)
 |ca (f:FuncId) (l:List Value) (t:Rt)
 |dy (f:FuncId) (l:List Value) (t:Rt)
 |bad
def agz:Value->Value->Value->Rz
 | .bool b,x,y=>.br b x y
 |_,_,_=>.bad
def agA:Value->Rz
 | .pointer p=>.ex Addr (λa=>p=some a) (λa=>.pointer (some a))
 |_=>.bad
def agB:Value->Nat->Rz
 | .pointer (some a),n=>.val (.pointer (some (a.add n)))
 |_,_=>.bad
def agC:Value->Value->ot->Nat->Rz
 | .slice p len _,.int _ n,.slice _,z=>.ex Addr (λa=>p=some a/\0<=n/\n<(len:Int)) (λa=>.pointer (some (a.add (n.toNat*z))))
 | .pointer (some a),.int _ n,.array m _,z=>.cond (0<=n/\n<(m:Int)) (.pointer (some (a.add (n.toNat*z))))
 |_,_,_,_=>.bad
def adN:Ty->Nat->List Value->Int->Array Value->Rz
 | .sc s,m,_,n,cs=>.ex s.den (λy=>0<=n/\n<(m:Int)/\cs[n.toNat]?=some (s.enc y)) (λy=>s.enc y)
 |_,_,_,_,_=>.bad
def agD:Value->Value->ot->Ty->Rz
 | .string s,.int _ n,.str,_=>.ex UInt8 (λb=>0<=n/\s.data[n.toNat]?=some b) (λb=>.int .u8 b.toNat)
 | .agg cs,.int _ n,.array m _,t=>adN t m [] n cs
 |_,_,_,_=>.bad
def adO:ot->List Value->Nat->Nat->Value
 | .struct _,cs,o,z=>.agg (Ov z (Ou o cs)).toArray
 | .array ..,cs,o,z=>.agg (Ov z (Ou o cs)).toArray
 | .int _,cs,o,_| .bool,cs,o,_| .str,cs,o,_| .flt,cs,o,_| .cpx,cs,o,_| .mp,cs,o,_| .fn,cs,o,_| .other,cs,o,_| .slice _,cs,o,_| .ptr _,cs,o,_=>nP (.tuple #[]) cs o
def agE:Value->Nat->TI->Rz
 | .agg cs,o,i=>.val (adO i.cv cs.toList o i.size)
 |_,_,_=>.bad
def agF:Value->Nat->Rz
 | .tuple vs,n=>.val (nP (.tuple #[]) vs.toList n)
 |_,_=>.bad
def agG:Value->ot->Nat->Option Value->Option Value->Rz
 | .slice p n c,.slice _,_,none,none=>.val (.slice p n c)
 | .slice p _ c,.slice _,_,none,some (.int _ r)=>.cond (0<=r/\r<=(c:Int)) (.slice p r.toNat c)
 | .slice p n c,.slice _,z,some (.int _ l),none=>.cond (0<=l/\l<=(n:Int)) (.slice (if c=l.toNat then p else p.map (·.add (l.toNat*z))) (n-l.toNat) (c-l.toNat))
 | .slice p _ c,.slice _,z,some (.int _ l),some (.int _ r)=>.cond (0<=l/\l<=r/\r<=(c:Int)) (.slice (if c=l.toNat then p else p.map (·.add (l.toNat*z))) (r.toNat-l.toNat) (c-l.toNat))
 | .string s,.str,_,none,none=>.val (.string (s.extract 0 s.size))
 | .string s,.str,_,none,some (.int _ r)=>.cond (0<=r/\r<=(s.size:Int)) (.string (s.extract 0 r.toNat))
 | .string s,.str,_,some (.int _ l),none=>.cond (0<=l/\l<=(s.size:Int)) (.string (s.extract l.toNat s.size))
 | .string s,.str,_,some (.int _ l),some (.int _ r)=>.cond (0<=l/\l<=r/\r<=(s.size:Int)) (.string (s.extract l.toNat r.toNat))
 | .pointer (some a),.array n _,_,none,none=>.val (.slice (some a) n n)
 | .pointer (some a),.array n _,_,none,some (.int _ r)=>.cond (0<=r/\r<=(n:Int)) (.slice (some a) r.toNat n)
 | .pointer (some a),.array n _,z,some (.int _ l),none=>.cond (0<=l/\l<=(n:Int)) (.slice (some (if n=l.toNat then a else a.add (l.toNat*z))) (n-l.toNat) (n-l.toNat))
 | .pointer (some a),.array n _,z,some (.int _ l),some (.int _ r)=>.cond (0<=l/\l<=r/\r<=(n:Int)) (.slice (some (if n=l.toNat then a else a.add (l.toNat*z))) (r.toNat-l.toNat) (n-l.toNat))
 |_,_,_,_,_=>.bad
def agH(k:IntKind)(a b:Int):BinOp->Rz
 | .add=>.val (.int k (k.wrap (a+b)))
 | .sub=>.val (.int k (k.wrap (a-b)))
 | .mul=>.val (.int k (k.wrap (a*b)))
 | .quo=>.cond (b≠0) (.int k (k.wrap (a.tdiv b)))
 | .rem=>.cond (b≠0) (.int k (a.tmod b))
 | .and=>.val (.int k (k.wrap (qG k.bits a&&&qG k.bits b).toNat))
 | .or=>.val (.int k (k.wrap (qG k.bits a|||qG k.bits b).toNat))
 | .xor=>.val (.int k (k.wrap (qG k.bits a^^^qG k.bits b).toNat))
 | .andNot=>.val (.int k (k.wrap (qG k.bits a&&&~~~qG k.bits b).toNat))
 | .shl=>.cond (0<=b) (.int k (k.wrap (a*2^min b.toNat k.bits)))
 | .shr=>.cond (0<=b) (.int k (a.fdiv (2^min b.toNat k.bits)))
 | .eql=>.val (.bool (a==b))
 | .neq=>.val (.bool (a !=b))
 | .lss=>.val (.bool (decide (a<b)))
 | .leq=>.val (.bool (decide (a<=b)))
 | .gtr=>.val (.bool (decide (a>b)))
 | .geq=>.val (.bool (decide (a>=b)))
def agI(a b:ByteArray):BinOp->Rz
 | .eql=>.val (.bool (a.toList==b.toList))
 | .neq=>.val (.bool (!(a.toList==b.toList)))
 | .lss=>.val (.bool (Op.bytesLess a.toList b.toList))
 | .leq=>.val (.bool (Op.bytesLess a.toList b.toList||a.toList==b.toList))
 | .gtr=>.val (.bool (!(Op.bytesLess a.toList b.toList||a.toList==b.toList)))
 | .geq=>.val (.bool (!(Op.bytesLess a.toList b.toList)))
 | .add=>.cond (((a.size+b.size:Nat):Int)<=ka.max) (.string (a++b))
 |_=>.bad
def agJ(a b:Bool):BinOp->Rz
 | .eql=>.val (.bool (a==b))
 | .neq=>.val (.bool (!(a==b)))
 |_=>.bad
def agK(k:FloatKind)(a b:Nat):BinOp->Rz
 | .add=>.ex Nat (λr=>k.format.add a b=some r) (λr=>.float k r)
 | .sub=>.ex Nat (λr=>k.format.sub a b=some r) (λr=>.float k r)
 | .mul=>.ex Nat (λr=>k.format.mul a b=some r) (λr=>.float k r)
 | .quo=>.ex Nat (λr=>k.format.div a b=some r) (λr=>.float k r)
 | .eql=>.val (.bool (k.format.order a b==some .eq))
 | .neq=>.val (.bool (k.format.order a b !=some .eq))
 | .lss=>.val (.bool (k.format.order a b==some .lt))
 | .gtr=>.val (.bool (k.format.order a b==some .gt))
 |_=>.bad
def Ow{α:Type}(p:Option α):BinOp->Rz
 | .eql=>.val (.bool p.isNone)
 | .neq=>.val (.bool (!p.isNone))
 |_=>.bad
def agL(P:Program)(k:FloatKind)(op:BinOp)(t:TypeId)(x y:Operand)(a b:Value):BinOp->Rz
 | .eql=>.ex Bool (λr=>kU P op t x y a b (.bool r)) (λr=>.bool r)
 | .neq=>.ex Bool (λr=>kU P op t x y a b (.bool r)) (λr=>.bool r)
 |_=>.ex (Nat×Nat) (λr=>kU P op t x y a b (.complex k r.1 r.2)) (λr=>.complex k r.1 r.2)
def UQ(P:Program)(op:BinOp)(t:TypeId)(x y:Operand)(a b:Value):Rz:=.ex Bool (λr=>kU P op t x y a b (.bool r)) (λr=>.bool r)
def agM(P:Program)(op:BinOp)(t:TypeId)(x:Operand)(p q:Option Addr):Operand->Rz
 | .tmp n=>UQ P op t x (.tmp n) (.pointer p) (.pointer q)
 | .const _=>Ow p op
 | .global _=>Ow p op
 | .func _=>Ow p op
def adP(P:Program)(op:BinOp)(t:TypeId)(x y:Operand):Value->Value->Rz
 | .int k a,.int _ b=>agH k a b op
 | .float k a,.float _ b=>agK k a b op
 | .string a,.string b=>agI a b op
 | .bool a,.bool b=>agJ a b op
 | .pointer a,.pointer b=>agM P op t x a b y
 | .slice a _ _,.slice .. =>Ow a op
 | .agg a,.agg b=>UQ P op t x y (.agg a) (.agg b)
 | .complex k a b,.complex k' c e=>agL P k op t x y (.complex k a b) (.complex k' c e) op
 |a,.nilIface=>UQ P op t x y a .nilIface
 |_,_=>.bad
def agN:UnOp->Value->Rz
 | .not,.bool b=>.val (.bool !b)
 | .neg,.int k n=>.val (.int k (k.wrap (0-n)))
 | .xor,.int k n=>.val (.int k (k.wrap (qG k.bits (if k.signed then-1 else k.max)^^^qG k.bits n).toNat))
 |_,_=>.bad
def agO(s d:TypeId)(v:Value)(a:Ty):ot->ot->Value->Rz
 | .int _,.int k,.int _ n=>.val (.int k (k.wrap n))
 |_,_,_=>.rr (convert s d v) (.one a)
def TJ:Value->List Value
 | .agg cs=>cs.toList
 | .bool b=>[.bool b]
 | .int k n=>[.int k n]
 | .float k n=>[.float k n]
 | .complex k a b=>[.complex k a b]
 | .string s=>[.string s]
 | .pointer a=>[.pointer a]
 | .slice a l c=>[.slice a l c]
 | .map r=>[.map r]
 | .chan r=>[.chan r]
 | .func f a c=>[.func f a c]
 | .nilFunc=>[.nilFunc]
 | .iface t v=>[.iface t v]
 | .nilIface=>[.nilIface]
 | .tuple vs=>[.tuple vs]
def adQ(l:List Value)(o:Nat)(c:List Value):List Value:=sG (Ov o l) (sG c (Ou (o+abp c) l))
def XI:ot->Nat->Nat->Nat
 | .struct fs,_,n=>(nP (0,0) fs n).1
 | .array _ _,z,n=>n*z
 | .int _,_,_| .bool,_,_| .str,_,_| .flt,_,_| .cpx,_,_| .mp,_,_| .fn,_,_| .other,_,_| .slice _,_,_| .ptr _,_,_=>0
def UR(d:ot)(z:Nat):List Value->List (Nat×Value)->List Value
 |l,[]=>l
 |l,(n,v)::r=>UR d z (adQ l (XI d z n) (TJ v)) r
def agP:Nat->Bool
 |0=>false
 |_+1=>true
def adR(P:Program)(t:TypeId)(i:TI)(z:Nat)(vs:List (Nat×Value)):Bool->Rz
 |true=>.ex Value (λv=>aH P (vT t vs.toArray) v) (λv=>v)
 |false=>.val (.agg (UR i.cv z i.zero vs).toArray)
def US:Value->TI->Rz
 | .pointer (some a),i=>.ld a i.ty i.size
 |_,_=>.bad
def XJ(a:Array TypeId)(ty:TypeId):Value->Rz
 | .slice _ n _=>.val (.int .i64 n)
 | .string s=>.val (.int .i64 s.size)
 | .map r=>.rr (vV a ty #[.map r]) (.one (.sc (.int .i64)))
 |_=>.bad
def XK:Value->Rz
 | .slice _ _ n=>.val (.int .i64 n)
 |_=>.bad
def abq:Bool->List Value->Rz
 |true,[.int k a,.int _ b]=>.val (.int k (if b>a then b else a))
 |false,[.int k a,.int _ b]=>.val (.int k (if b<a then b else a))
 |_,_=>.bad
def UT:Bool->List Value->Rz
 |true,[.complex k a _]=>.val (.float k a)
 |false,[.complex k _ b]=>.val (.float k b)
 |_,_=>.bad
def abr(T:Nat->TI)(t:TypeId):Bool->List Ty->List (TypeId×List Ty)->Rt
 |true,l,_=>.many l
 |false,_,[]=>.one (T t).ty
 |false,_,(k,l)::r=>abr T t (k==t) l r
abbrev UU(T:Nat->TI)(t:TypeId)(l:List (TypeId×List Ty)):Rt:=abr T t false [] l
def adS:Value->List Value->Rt->Rz
 | .func (.func g) a c,l,t=>.dy g (a.toList++l++c.toList) t
 |_,_,_=>.bad
def adT(a:Array TypeId)(ty:TypeId)(vs:List Value):Builtin->Rz
 | .append=>.rr (zo a ty vs.toArray) (.one (.sc .slc))
 | .copy=>.rr (yV a ty vs.toArray) (.one (.sc (.int .i64)))
 | .clear=>.ru Value (vW a ty vs.toArray)
 | .delete=>.ru Value (vK a ty vs.toArray)
 | .unsafeString=>.rr (Builtin.unsafeString_ a ty vs.toArray) (.one (.sc .str))
 | .len=>XJ a ty (nP (.tuple #[]) vs 0)
 | .cap=>XK (nP (.tuple #[]) vs 0)
 | .min=>abq false vs
 | .max=>abq true vs
 | .real=>UT true vs
 | .imag=>UT false vs
 |_=>.bad
def adU(T:Nat->TI)(tup:List (TypeId×List Ty))(ρ:Ev)(ty:TypeId)(vs:List Value)(a:Array TypeId):Callee->Rz
 | .value (.func f)=>.ca f vs (UU T ty tup)
 | .value (.tmp t)=>adS (Hw ρ t) vs (UU T ty tup)
 | .builtin b=>adT a ty vs b
 |_=>.bad
def adV(P:Program)(T:Nat->TI)(tup:List (TypeId×List Ty))(ty:TypeId)(ρ:Ev):Op->Rz
 | .move x=>.val (fw ρ x)
 | .assign x=>.val (fw ρ x)
 | .pick c a b=>agz (fw ρ c) (fw ρ a) (fw ρ b)
 | .nilCheck x=>agA (fw ρ x)
 | .fieldAddr s x f=>agB (fw ρ x) (UP (T s).cv f).1
 | .indexAddr t x i=>agC (fw ρ x) (fw ρ i) (T t).cv (T (IS (T t).cv)).size
 | .index t x i=>agD (fw ρ x) (fw ρ i) (T t).cv (T (IS (T t).cv)).ty
 | .field s x f=>agE (fw ρ x) (UP (T s).cv f).1 (T (UP (T s).cv f).2)
 | .slice t x Hx hi none=>agG (fw ρ x) (T t).cv (T (IS (T t).cv)).size (IR ρ Hx) (IR ρ hi)
 | .slice t x Hx hi (some m)=>.rr (ya t (fw ρ x) (IR ρ Hx) (IR ρ hi) (some (fw ρ m))) (.one (.sc .slc))
 | .extract x n=>agF (fw ρ x) n
 | .binOp op t x y _=>adP P op t x y (fw ρ x) (fw ρ y)
 | .unOp op _ x=>agN op (fw ρ x)
 | .convert s d x=>agO s d (fw ρ x) (T ty).ty (T s).cv (T d).cv (fw ρ x)
 | .build t ps=>adR P t (T t) (T (IS (T t).cv)).size (NT ρ ps.toList) (agP ((T t).size-24))
 | .makeFunc f a c=>.val (.func f (IQ ρ a.toList).toArray (IQ ρ c.toList).toArray)
 | .load t x=>US (fw ρ x) (T t)
 | .store t a x=>.ru Unit (qF t (fw ρ a) (fw ρ x))
 | .alloc t=>.ra (yR t true (.tuple #[]))
 | .box t x=>.ra (vU t (fw ρ x))
 | .makeSlice t l c=>.rr (zx t (fw ρ l) (fw ρ c)) (.one (.sc .slc))
 | .buildSlice t n ps=>.rr (zE t n (NT ρ ps.toList).toArray) (.one (.sc .slc))
 | .makeMap t none=>.rr (vF t none) (.one (.sc .mp))
 | .lookup t x i ok=>.rr (xD t (fw ρ x) (fw ρ i) ok) (UU T ty tup)
 | .mapUpdate t m k x=>.ru Unit (yj t (fw ρ m) (fw ρ k) (fw ρ x))
 | .insert t m k x=>.ru Unit (yj t (fw ρ m) (fw ρ k) (fw ρ x))
 | .call ⟨c,as,tys⟩=>adU T tup ρ ty (IQ ρ as.toList) tys c
 |_=>.bad
inductive Kt:Type 1 where
 |top (rs:List ResultVar)
 |seq (c:Code) (a:cO) (k:Kt)
 |fy (id:Nat) (k:Kt)
 |jn (σ:dN) (K:σ.den->Heap->Prop) (k:Kt)
 |back (l:Nat) (σ:dN) (K:σ.den->Heap->Prop) (k:Kt)
 |lst (cs:List Code) (as:List cO) (k:Kt)
 |jmp (c:Code) (fwd:List (Nat×List cO)) (k:Kt)
 |hd (l:Nat) (σ:dN) (r:List Code) (as:List cO) (fwd:List (Nat×List cO)) (c:Code) (k:Kt)
def Ox:cO->cO
 | .two a _=>a
 | .n| .inn _| .loop .. | .join .. | .scope .. | .fwd .. =>.n
def Oy:cO->cO
 | .two _ b=>b
 | .n| .inn _| .loop .. | .join .. | .scope .. | .fwd .. =>.n
def XL:cO->cO
 | .inn a=>a
 | .n| .two .. | .loop .. | .join .. | .scope .. | .fwd .. =>.n
def adW(a b:Code):Option (List Code×List Code)->Option (List Code×List Code)->Option (List Code×List Code)
 |some (p,r),_=>some (p,sG r [b])
 |none,some (p,r)=>some (a::p,r)
 |none,none=>none
def adX:Bool->Option (List Code×List Code)
 |true=>some ([],[])
 |false=>none
def IT:Code->Nat->Option (List Code×List Code)
 | .seq a b,l=>adW a b (IT a l) (IT b l)
 | .label k,l=>adX (k==l)
 | .skip,_| .region ..,_| .cond ..,_| .block ..,_| .loop _,_| .rangeFunc ..,_| .exit _,_| .scope _,_| .goto _,_| .ret,_| .refuse _,_=>none
def UV:Bool->List cO->List (Nat×List cO)->Nat->Option (List cO)
 |true,x,_,_=>some x
 |false,_,[],_=>none
 |false,_,(k,x)::r,l=>UV (k==l) x r l
abbrev adY(w:List (Nat×List cO))(l:Nat):Option (List cO):=UV false [] w l
def IU:(s:Sc)->Value->Option s.den
 | .int _,.int _ n=>some n
 | .bool,.bool x=>some x
 | .str,.string x=>some x
 | .ptr,.pointer a=>some a
 | .slc,.slice a l c=>some ⟨a,l,c⟩
 | .flt _,.float _ n=>some n
 | .cpx _,.complex _ a b=>some (a,b)
 | .mp,.map r=>some r
 | .fn,.func (.func g) f c=>some (g,f,c)
 | .any,v=>some v
 | .adr,.pointer (some a)=>some a
 |_,_=>none
def abs{α β:Type}:Option α->Option β->Option (α×β)
 |some a,some b=>some (a,b)
 |some _,none=>none
 |none,_=>none
def KH:(l:List Sc)->List Value->Option (Bw l)
 |[],_=>some ()
 |[s],[v]=>IU s v
 |s::t::r,v::vs=>abs (IU s v) (KH (t::r) vs)
 |_::_,_=>none
def Oz:(t:Ty)->Value->Option t.den
 | .sc s,v=>IU s v
 | .agg l,.agg cs=>KH l cs.toList
 |_,_=>none
def KI:(σ:dN)->Ev->Option σ.den
 |[],_=>some ()
 |[(t,y)],ρ=>Oz y (Hw ρ t)
 |(t,y)::x::r,ρ=>abs (Oz y (Hw ρ t)) (KI (x::r) ρ)
def IV:(σ:dN)->σ.den->Ev->Ev
 |[],_,ρ=>ρ
 |[(t,y)],x,ρ=>.val t (y.enc x)::ρ
 |(t,y)::z::r,x,ρ=>.val t (y.enc x.1)::IV (z::r) x.2 ρ
def abt{α:Type}(K:α->Heap->Prop)(h:Heap):Option α->Prop
 |some s=>K s h
 |none=>False
def KJ{σ:Type}(B:σ->(σ->Heap->Prop)->Heap->Prop)(h:Heap):Option σ->Prop
 |some s=>iu B s h
 |none=>False
inductive Hd where
 |l (c:bQ)
 |a (a:Addr) (vs:List Value)
abbrev Hi:=List (Nat×Hd)
def IW:List Oper->Nat->List (Nat×Oper)
 |[],_=>[]
 |o::r,n=>(n,o)::IW r (n+1)
def IX(l:List (Nat×Oper)):List Nat->List (Nat×Oper)
 |[]=>[]
 |n::r=>nP (0,⟨none,.ready 0,0, "",#[],none⟩) l n::IX l r
inductive Sd where
 |l (ns:List Nat)
 |y (ns:List Nat) (a b:Sd)
def abu(id:Nat):Bool->Sd->List (Nat×Sd)->Option Sd
 |true,x,_=>some x
 |false,_,[]=>none
 |false,_,(k,x)::r=>abu id (k==id) x r
def abv:Nat×Oper->Nat
 |(_,⟨some d,_,_,_,_,_⟩)=>d
 |(_,⟨none,_,_,_,_,_⟩)=>0
def adZ:Ground->Bool
 | .data| .chain| .guard| .phase=>true
 | .textOnly _| .gcOnly _=>false
def abw:List Edge->Nat->Bool
 |[],_=>false
 |⟨n,g⟩::r,i=>abo (agx (adZ g) (n==i)) (abw r i)
def UW:Bool->Nat×Hd->Hi->Hi
 |true,_,r=>r
 |false,p,r=>p::r
def OA(e:List Edge):Hi->Hi
 |[]=>[]
 |p::r=>UW (abw e p.1) p (OA e r)
def NU:Hi->bQ
 |[]=>[]
 |(_,.l c)::r=>sG c (NU r)
 |(_,.a x vs)::r=>oO x 0 vs (NU r)
def Hy(e:List Edge)(L:Hi)(h:Heap):Bool->Prop->Prop
 |true,X=>bQ.ok (NU (OA e L)) h/\X
 |false,X=>X
def aea(e:List Edge)(L:Hi):Bool->Hi
 |true=>OA e L
 |false=>L
def KK(e:List Edge)(L:Hi):Bool->Hi
 |true=>OA e L
 |false=>[]
def oQ:Option Tmp->Value->Ev->Ev
 |some d,v,ρ=>.val d v::ρ
 |none,_,ρ=>ρ
def UX(dr:Bool)(n:Nat)(c:Hd)(L:Hi):Hi:=UW (UN dr) (n,c) L
def abx(a:Addr):Nat->List Value->bQ
 |_,[]=>[]
 |n,v::r=>(a.add n,v)::abx a (n+1) r
def UY:Ty->Bool
 | .sc .slc=>true
 |_=>false
def UZ(T:Nat->TI):Op->Bool
 | .convert s d _=>UN (abo (UY (T s).ty) (UY (T d).ty))
 | .move _| .assign _| .pick .. | .nilCheck _| .fieldAddr .. | .indexAddr .. | .index .. | .field .. | .extract .. | .binOp .. | .unOp .. | .build .. | .makeFunc .. | .load .. =>true
 | .slice _ _ _ _ none=>true
 | .call ⟨.builtin .len,_,_⟩| .call ⟨.builtin .cap,_,_⟩| .call ⟨.builtin .min,_,_⟩| .call ⟨.builtin .max,_,_⟩| .call ⟨.builtin .real,_,_⟩| .call ⟨.builtin .imag,_,_⟩=>true
 |_=>false
inductive Al where
 |n
 |y (a b:Sd)
structure Rg where
 all:List (Nat×Oper)
 dr:Bool
 al:Al
inductive St:Type 1 where
 |ex (c:Code) (a:cO) (k:Kt) (ρ:Ev)
 |e2 (c:Code) (a:cO) (k:Kt) (ρ:Ev)
 |cd (v:Value) (c d:Code) (a:cO) (k:Kt) (ρ:Ev)
 |ap (e:Exit) (k:Kt) (ρ:Ev)
 |bO (b:Bool) (x y:St)
 |fin (σ:dN) (K:σ.den->Heap->Prop) (ρ:Ev)
 |jp (o:Option (List cO)) (q:Option (List Code×List Code)) (l:Nat) (c:Code) (fwd:List (Nat×List cO)) (k:Kt) (ρ:Ev)
 |sc (q:Option (List Code×List Code)) (l:Nat) (σ:dN) (pre rest:List cO) (fwd:List (Nat×List cO)) (c:Code) (k:Kt) (ρ:Ev)
 |rg (os:List (Nat×Oper)) (r:Rg) (L:Hi) (k:Kt) (ρ:Ev)
 |so (o:Option Sd) (all:List (Nat×Oper)) (k:Kt) (ρ:Ev)
 |st (s:Sd) (all:List (Nat×Oper)) (dr:Bool) (L:Hi) (k:Kt) (ρ:Ev)
 |gd (g:Gd) (w:Bool) (d n:Nat) (o:Oper) (os:List (Nat×Oper)) (r:Rg) (L:Hi) (k:Kt) (ρ:Ev)
 |on (n:Nat) (o:Oper) (os:List (Nat×Oper)) (r:Rg) (L:Hi) (k:Kt) (ρ:Ev)
 |sk (n:Nat) (o:Oper) (os:List (Nat×Oper)) (r:Rg) (L:Hi) (k:Kt) (ρ:Ev)
 |rs (z:Rz) (n:Nat) (d:Option Tmp) (e:List Edge) (os:List (Nat×Oper)) (r:Rg) (L:Hi) (k:Kt) (ρ:Ev)
 |re (rs:List ResultVar) (acc:List Value) (ρ:Ev)
 |rl (z:Rz) (rs:List ResultVar) (acc:List Value) (ρ:Ev)
def bn(C:Ctx)(T:Nat->TI)(S:List (Nat×Sd))(R:Value->Heap->Prop):Nat->St->Heap->Prop
 |0,_,_=>False
 |f+1,.ex c (.join σ _ a) k ρ,h=>AL (λs h=>bn C T S R f (.ap .normal k (IV σ s ρ)) h) (λK=>bn C T S R f (.e2 c a (.jn σ K k) ρ) h)
 |f+1,.ex c .n k ρ,h=>bn C T S R f (.e2 c .n k ρ) h
 |f+1,.ex c (.two a b) k ρ,h=>bn C T S R f (.e2 c (.two a b) k ρ) h
 |f+1,.ex c (.inn a) k ρ,h=>bn C T S R f (.e2 c (.inn a) k ρ) h
 |f+1,.ex c (.loop σ κ a) k ρ,h=>bn C T S R f (.e2 c (.loop σ κ a) k ρ) h
 |f+1,.ex c (.scope l σ κ p r w) k ρ,h=>bn C T S R f (.e2 c (.scope l σ κ p r w) k ρ) h
 |f+1,.ex c (.fwd a w) k ρ,h=>bn C T S R f (.e2 c (.fwd a w) k ρ) h
 |f+1,.e2 .skip _ k ρ,h=>bn C T S R f (.ap .normal k ρ) h
 |f+1,.e2 (.label _) _ k ρ,h=>bn C T S R f (.ap .normal k ρ) h
 |f+1,.e2 (.region id ops true) _ k ρ,h=>bn C T S R f (.so (abu id false (.l []) S) (IW ops.toList 0) k ρ) h
 |f+1,.e2 (.region _ ops false) _ k ρ,h=>bn C T S R f (.rg (IW ops.toList 0) ⟨IW ops.toList 0,false,.n⟩ [] k ρ) h
 |f+1,.e2 (.seq x y) a k ρ,h=>bn C T S R f (.ex x (Ox a) (.seq y (Oy a) k) ρ) h
 |f+1,.e2 (.cond x c d) a k ρ,h=>bn C T S R f (.cd (fw ρ x) c d a k ρ) h
 |f+1,.e2 (.block id c) a k ρ,h=>bn C T S R f (.ex c (XL a) (.fy id k) ρ) h
 |f+1,.e2 (.exit id) _ k ρ,h=>bn C T S R f (.ap (.exit id) k ρ) h
 |f+1,.e2 (.goto l) _ k ρ,h=>bn C T S R f (.ap (.goto l) k ρ) h
 |f+1,.e2 .ret _ k ρ,h=>bn C T S R f (.ap .ret k ρ) h
 |f+1,.e2 (.loop c) (.loop σ _ a) k ρ,h=>KJ (λs K h=>bn C T S R f (.ex c a (.jn σ K k) (IV σ s ρ)) h) h (KI σ ρ)
 |f+1,.e2 (.scope c) (.scope l σ _ pre rest fwd) k ρ,h=>bn C T S R f (.sc (IT c l) l σ pre rest fwd c k ρ) h
 |f+1,.e2 (.scope c) (.fwd a fwd) k ρ,h=>bn C T S R f (.ex c a (.jmp c fwd k) ρ) h
 |f+1,.cd (.bool t) c d a k ρ,h=>Br t (bn C T S R f (.ex c (Ox a) k ρ) h) (bn C T S R f (.ex d (Oy a) k ρ) h)
 |f+1,.sc (some (p,r)) l σ pre rest fwd c k ρ,h=>bn C T S R f (.ap .normal (.lst p pre (.hd l σ r rest fwd c k)) ρ) h
 |f+1,.bO true x _,h=>bn C T S R f x h
 |f+1,.bO false _ y,h=>bn C T S R f y h
 |f+1,.fin σ K ρ,h=>abt K h (KI σ ρ)
 |f+1,.jp (some xs) (some (_,r)) _ c fwd k ρ,h=>bn C T S R f (.ap .normal (.lst r xs (.jmp c fwd k)) ρ) h
 |f+1,.jp none _ l _ _ k ρ,h=>bn C T S R f (.ap (.goto l) k ρ) h
 |f+1,.ap .normal (.top rs) ρ,h=>bn C T S R f (.re rs [] ρ) h
 |f+1,.ap .ret (.top rs) ρ,h=>bn C T S R f (.re rs [] ρ) h
 |f+1,.ap .normal (.seq c a k) ρ,h=>bn C T S R f (.ex c a k ρ) h
 |f+1,.ap (.exit i) (.seq _ _ k) ρ,h=>bn C T S R f (.ap (.exit i) k ρ) h
 |f+1,.ap (.goto i) (.seq _ _ k) ρ,h=>bn C T S R f (.ap (.goto i) k ρ) h
 |f+1,.ap .ret (.seq _ _ k) ρ,h=>bn C T S R f (.ap .ret k ρ) h
 |f+1,.ap .normal (.fy _ k) ρ,h=>bn C T S R f (.ap .normal k ρ) h
 |f+1,.ap (.exit i) (.fy id k) ρ,h=>bn C T S R f (.bO (i==id) (.ap .normal k ρ) (.ap (.exit i) k ρ)) h
 |f+1,.ap (.goto i) (.fy _ k) ρ,h=>bn C T S R f (.ap (.goto i) k ρ) h
 |f+1,.ap .ret (.fy _ k) ρ,h=>bn C T S R f (.ap .ret k ρ) h
 |f+1,.ap .normal (.jn σ K _) ρ,h=>abt K h (KI σ ρ)
 |f+1,.ap (.exit i) (.jn _ _ k) ρ,h=>bn C T S R f (.ap (.exit i) k ρ) h
 |f+1,.ap (.goto i) (.jn _ _ k) ρ,h=>bn C T S R f (.ap (.goto i) k ρ) h
 |f+1,.ap .ret (.jn _ _ k) ρ,h=>bn C T S R f (.ap .ret k ρ) h
 |f+1,.ap .normal (.back _ _ _ k) ρ,h=>bn C T S R f (.ap .normal k ρ) h
 |f+1,.ap (.exit i) (.back _ _ _ k) ρ,h=>bn C T S R f (.ap (.exit i) k ρ) h
 |f+1,.ap (.goto i) (.back l σ K k) ρ,h=>bn C T S R f (.bO (i==l) (.fin σ K ρ) (.ap (.goto i) k ρ)) h
 |f+1,.ap .ret (.back _ _ _ k) ρ,h=>bn C T S R f (.ap .ret k ρ) h
 |f+1,.ap .normal (.lst [] _ k) ρ,h=>bn C T S R f (.ap .normal k ρ) h
 |f+1,.ap .normal (.lst (c::cs) [] k) ρ,h=>bn C T S R f (.ex c .n (.lst cs [] k) ρ) h
 |f+1,.ap .normal (.lst (c::cs) (x::xs) k) ρ,h=>bn C T S R f (.ex c x (.lst cs xs k) ρ) h
 |f+1,.ap (.exit i) (.lst _ _ k) ρ,h=>bn C T S R f (.ap (.exit i) k ρ) h
 |f+1,.ap (.goto i) (.lst _ _ k) ρ,h=>bn C T S R f (.ap (.goto i) k ρ) h
 |f+1,.ap .ret (.lst _ _ k) ρ,h=>bn C T S R f (.ap .ret k ρ) h
 |f+1,.ap .normal (.jmp _ _ k) ρ,h=>bn C T S R f (.ap .normal k ρ) h
 |f+1,.ap (.exit i) (.jmp _ _ k) ρ,h=>bn C T S R f (.ap (.exit i) k ρ) h
 |f+1,.ap (.goto l) (.jmp c fwd k) ρ,h=>bn C T S R f (.jp (adY fwd l) (IT c l) l c fwd k ρ) h
 |f+1,.ap .ret (.jmp _ _ k) ρ,h=>bn C T S R f (.ap .ret k ρ) h
 |f+1,.ap .normal (.hd l σ r as fwd c k) ρ,h=>KJ (λs K h=>bn C T S R f (.ap .normal (.lst r as (.jmp c fwd (.back l σ K k))) (IV σ s ρ)) h) h (KI σ ρ)
 |f+1,.ap (.exit i) (.hd _ _ _ _ _ _ k) ρ,h=>bn C T S R f (.ap (.exit i) k ρ) h
 |f+1,.ap (.goto i) (.hd _ _ _ _ _ _ k) ρ,h=>bn C T S R f (.ap (.goto i) k ρ) h
 |f+1,.ap .ret (.hd _ _ _ _ _ _ k) ρ,h=>bn C T S R f (.ap .ret k ρ) h
 |f+1,.so none all k ρ,h=>bn C T S R f (.rg all ⟨all,true,.n⟩ [] k ρ) h
 |f+1,.so (some s) all k ρ,h=>bn C T S R f (.st s all true [] k ρ) h
 |f+1,.st (.l ns) all dr L k ρ,h=>bn C T S R f (.rg (IX all ns) ⟨all,dr,.n⟩ L k ρ) h
 |f+1,.st (.y ns a b) all dr L k ρ,h=>bn C T S R f (.rg (IX all ns) ⟨all,dr,.y a b⟩ L k ρ) h
 |f+1,.rg [] ⟨_,_,.n⟩ _ k ρ,h=>bn C T S R f (.ap .normal k ρ) h
 |f+1,.rg [] ⟨all,dr,.y a b⟩ L k ρ,h=>bn C T S R f (.st a all dr L k ρ) h/\bn C T S R f (.st b all dr L k ρ) h
 |f+1,.rg ((n,⟨d,o,t,p,e,none⟩)::os) r L k ρ,h=>bn C T S R f (.on n ⟨d,o,t,p,e,none⟩ os r L k ρ) h
 |f+1,.rg ((n,⟨d,o,t,p,e,some (j,w)⟩)::os) r L k ρ,h=>bn C T S R f (.gd (agw ρ (abv (nP (0,⟨none,.ready 0,0, "",#[],none⟩) r.all j))) w (abv (nP (0,⟨none,.ready 0,0, "",#[],none⟩) r.all j)) n ⟨d,o,t,p,e,some (j,w)⟩ os r L k ρ) h
 |f+1,.gd (.k 0) true _ n o os r L k ρ,h=>bn C T S R f (.sk n o os r L k ρ) h
 |f+1,.gd (.k 0) false _ n o os r L k ρ,h=>bn C T S R f (.on n o os r L k ρ) h
 |f+1,.gd (.k (_+1)) true _ n o os r L k ρ,h=>bn C T S R f (.on n o os r L k ρ) h
 |f+1,.gd (.k (_+1)) false _ n o os r L k ρ,h=>bn C T S R f (.sk n o os r L k ρ) h
 |f+1,.gd (.v (.tuple _)) _ _ n o os r L k ρ,h=>bn C T S R f (.sk n o os r L k ρ) h
 |f+1,.gd (.v (.bool b)) true d n o os r L k ρ,h=>Br b (bn C T S R f (.on n o os r L k (.tf d 1::ρ)) h) (bn C T S R f (.sk n o os r L k (.tf d 0::ρ)) h)
 |f+1,.gd (.v (.bool b)) false d n o os r L k ρ,h=>Br b (bn C T S R f (.sk n o os r L k (.tf d 1::ρ)) h) (bn C T S R f (.on n o os r L k (.tf d 0::ρ)) h)
 |f+1,.on n ⟨d,o,t,_,e,_⟩ os r L k ρ,h=>bn C T S R f (.rs (adV C.P T C.tup t ρ o) n d e.toList os r L k ρ) h
 |f+1,.sk _ ⟨d,o,_,_,e,_⟩ os r L k ρ,h=>Hy e.toList L h (Hx r.dr (UZ T o)) (bn C T S R f (.rg os r (aea e.toList L (Hx r.dr (UZ T o))) k (oQ d undef ρ)) h)
 |f+1,.rs (.val v) _ d _ os r L k ρ,h=>bn C T S R f (.rg os r L k (oQ d v ρ)) h
 |f+1,.rs (.cond c v) _ d _ os r L k ρ,h=>c/\bn C T S R f (.rg os r L k (oQ d v ρ)) h
 |f+1,.rs (.ex X c v) _ d _ os r L k ρ,h=>∃x:X,c x/\bn C T S R f (.rg os r L k (oQ d (v x) ρ)) h
 |f+1,.rs (.br b x y) _ d _ os r L k ρ,h=>Br b (bn C T S R f (.rg os r L k (oQ d x ρ)) h) (bn C T S R f (.rg os r L k (oQ d y ρ)) h)
 |f+1,.rs (.ld a (.sc s) _) n d _ os r L k ρ,h=>∃x:s.den,cellOf h a=some (s.enc x)/\bn C T S R f (.rg os r (UX r.dr n (.l [(a,s.enc x)]) L) k (oQ d (s.enc x) ρ)) h
 |f+1,.rs (.ld a (.agg l) _) n d _ os r L k ρ,h=>∃x:Bw l,bt h a 0 (oN l x)/\bn C T S R f (.rg os r (UX r.dr n (.l (abx a 0 (oN l x))) L) k (oQ d (.agg (oN l x).toArray) ρ)) h
 |f+1,.rs (.ld a (.arr s) m) n d _ os r L k ρ,h=>∃x:List s.den,(x.length=m/\bt h a 0 (x.map s.enc))/\bn C T S R f (.rg os r (UX r.dr n (.a a (x.map s.enc)) L) k (oQ d (.agg (x.map s.enc).toArray) ρ)) h
 |f+1,.rs (.ru _ s) _ d e os r L k ρ,h=>aj C.P s h λ_ h'=>Hy e L h' r.dr (bn C T S R f (.rg os r (KK e L r.dr) k (oQ d undef ρ)) h')
 |f+1,.rs (.ra s) _ d e os r L k ρ,h=>un C.P s h λa h'=>Hy e L h' r.dr (bn C T S R f (.rg os r (KK e L r.dr) k (oQ d (.pointer (some a)) ρ)) h')
 |f+1,.rs (.rr s t) _ d e os r L k ρ,h=>bI C.P s t h λx h'=>Hy e L h' r.dr (bn C T S R f (.rg os r (KK e L r.dr) k (oQ d (t.enc x) ρ)) h')
 |f+1,.rs (.ca g l t) _ d e os r L k ρ,h=>pH C.P g l.toArray t h λx h'=>Hy e L h' r.dr (bn C T S R f (.rg os r (KK e L r.dr) k (oQ d (t.enc x) ρ)) h')
 |f+1,.rs (.dy g l t) _ d e os r L k ρ,h=>tI C g l t h λx h'=>Hy e L h' r.dr (bn C T S R f (.rg os r (KK e L r.dr) k (oQ d (t.enc x) ρ)) h')
 |f+1,.re [] [] _,h=>R (.tuple #[]) h
 |f+1,.re [] [v] _,h=>R v h
 |f+1,.re [] (v::w::r) _,h=>R (.tuple (v::w::r).toArray) h
 |f+1,.re (.tmp t::r) acc ρ,h=>bn C T S R f (.re r (sG acc [Hw ρ t]) ρ) h
 |f+1,.re (.cell a t::r) acc ρ,h=>bn C T S R f (.rl (US (Hw ρ a) (T t)) r acc ρ) h
 |f+1,.rl (.ld a (.sc s) _) r acc ρ,h=>∃x:s.den,cellOf h a=some (s.enc x)/\bn C T S R f (.re r (sG acc [s.enc x]) ρ) h
 |f+1,.rl (.ld a (.agg l) _) r acc ρ,h=>∃x:Bw l,bt h a 0 (oN l x)/\bn C T S R f (.re r (sG acc [.agg (oN l x).toArray]) ρ) h
 |f+1,.rl (.ld a (.arr s) m) r acc ρ,h=>∃x:List s.den,(x.length=m/\bt h a 0 (x.map s.enc))/\bn C T S R f (.re r (sG acc [.agg (x.map s.enc).toArray]) ρ) h
 |_+1,_,_=>False
def Va:Nat->List Value->Ev
 |_,[]=>[]
 |n,v::r=>.val n v::Va (n+1) r
theorem aiJ{α:Type}(l:List α):(l.toArray).toList=l:=rfl
theorem aiK(a:Addr):a.add 0=a:=rfl
theorem aiL(s:Sl):Sl.mk s.ptr s.len s.cap=s:=rfl
theorem agQ(A B:Prop):Br true A B=A:=rfl
theorem agR(A B:Prop):Br false A B=B:=rfl
end Rk
abbrev ct:=List (List UInt8)
abbrev aL:=List UInt8
abbrev bX:=List (List Int)
abbrev av:=List Int
abbrev bL:=Option Go.Addr
abbrev aW:=List Go.Value
abbrev tJ:=Go.Value->Qw.Heap->Prop
abbrev Hz:=Go.FuncId×Array Go.Value×Array Go.Value
abbrev cO.tn(a:Qw.cO):Qw.cO:=.two .n a
abbrev cO.lp(L:Qw.dN)(S:Qw.dG):Qw.cO:=.two (.two .n (.inn (.loop L S .n))) .n
abbrev cO.jn(L:Qw.dN)(S:Qw.dG)(a:Qw.cO):Qw.cO:=.two (.join L S .n) a
universe u
theorem g0{c:Prop}{h:Decidable c}(hc:c){α:Sort u}{t e:α}:ite c t e=t:=if_pos hc
theorem g9{c:Prop}{h:Decidable c}(hnc:¬c){α:Sort u}{t e:α}:ite c t e=e:=if_neg hnc
theorem hU{p:Prop}[inst:Decidable p]:p->decide p=true:=decide_eq_true
theorem ii{p:Prop}[inst:Decidable p]:¬p->decide p=false:=decide_eq_false
theorem i0{p:Prop}[inst:Decidable p]:decide p=true->p:=of_decide_eq_true
theorem i5{α:Sort u}{a:α}:a=a:=rfl
theorem A0:True:=trivial
theorem z6{α:Sort u}(a:α):∃b,b=a:=⟨_,rfl⟩
theorem i6{p:Prop}(h:p:=by omega):p:=h
theorem i7{p:Prop}(h:p:=by decide):p:=h
theorem i9{p:Prop}(h:p:=by dsimp only;omega):p:=h
theorem jj{p:Prop}(h:p:=by simp;omega):p:=h
theorem js{p:Prop}(h:p:=by simp):p:=h
theorem j0{p:Prop}(h:p:=by dsimp only;rw[af _];rfl):p:=h
theorem j1{p:Prop}(h:p:=by grind):p:=h
theorem j3{p:Prop}(h:p:=by cases e):p:=h
theorem j4{p:Prop}(h:p:=by rw[af _];rfl):p:=h
theorem j5{p:Prop}(h:p:=by decide+kernel):p:=h
theorem j6{p:Prop}(h:p:=by kernel_rfl):p:=h
theorem j7{p:Prop}(h:p:=by rw[af _];omega):p:=h
theorem j8{p:Prop}(h:p:=by cases h):p:=h
theorem j9{p:Prop}(h:p:=by rw[bR (by omega)];omega):p:=h
theorem kt{p:Prop}(h:p:=by rw[addr_add];exact hb.cell i5):p:=h
theorem k7{p:Prop}(h:p:=by simp[Value.cells]):p:=h
theorem k8{p:Prop}(h:p:=by rfl):p:=h
theorem k9{p:Prop}(h:p:=by rw[e1];decide):p:=h
theorem lb{p:Prop}(h:p:=by simp[aN]):p:=h
theorem ln{p:Prop}(h:p:=by rw[qH];omega):p:=h
theorem l0{p:Prop}(h:p:=by simpa using h):p:=h
theorem l4{p:Prop}(h:p:=by simp[fQ]):p:=h
theorem l5{p:Prop}(h:p:=by dsimp only;simp;omega):p:=h
theorem l6{p:Prop}(h:p:=by simp[bE];omega):p:=h
theorem l7{p:Prop}(h:p:=by simpa using a):p:=h
theorem l9{p:Prop}(h:p:=by simpa using e):p:=h
theorem mn{p:Prop}(h:p:=by rw[q9];omega):p:=h
theorem m4{p:Prop}(h:p:=by rw[ii b];rfl):p:=h
theorem m5{p:Prop}(h:p:=by simpa using H):p:=h
theorem m6{p:Prop}(h:p:=by simpa using b):p:=h
theorem m7{p:Prop}(h:p:=by rw[e];rfl):p:=h
theorem m8{p:Prop}(h:p:=by rw[gD];omega):p:=h
theorem m9{p:Prop}(h:p:=by simp[cK];omega):p:=h
theorem nq{p:Prop}(h:p:=by rw[qp];omega):p:=h
theorem n4{p:Prop}(h:p:=by simp[dV];omega):p:=h
theorem n5{p:Prop}(h:p:=by simp[dT];omega):p:=h
theorem n7{p:Prop}(h:p:=by simp at d;omega):p:=h
theorem n8{p:Prop}(h:p:=by unfold jq;rw[o.refl];rfl):p:=h
theorem n9{p:Prop}(h:p:=by rw[<-y];exact w.cell0 i5):p:=h
theorem oi{p:Prop}(h:p:=by rw[pB (by simp)];omega):p:=h
theorem oj{p:Prop}(h:p:=by simp[iH]):p:=h
theorem oo{p:Prop}(h:p:=by simpa using e2):p:=h
theorem o0{p:Prop}(h:p:=by simp[bj];omega):p:=h
theorem o1{p:Prop}(h:p:=by rw[tq d];omega):p:=h
theorem o4{p:Prop}(h:p:=by rw[qh (qi _)]):p:=h
theorem o5{p:Prop}(h:p:=by rw[wrap_u64];omega):p:=h
theorem o6{p:Prop}(h:p:=by simpa using y):p:=h
theorem o7{p:Prop}(h:p:=by unfold ga;simp;omega):p:=h
theorem o8{p:Prop}(h:p:=by rw[ok.la];omega):p:=h
theorem o9{p:Prop}(h:p:=by rw[m]):p:=h
theorem pa{p:Prop}(h:p:=by simp[g]):p:=h
theorem pb{p:Prop}(h:p:=by simp[cK]):p:=h
theorem pt{p:Prop}(h:p:=by rw[gP];omega):p:=h
theorem p0{p:Prop}(h:p:=by simp[c]):p:=h
theorem p5{p:Prop}(h:p:=by simp at h):p:=h
theorem p6{p:Prop}(h:p:=by simpa using q):p:=h
theorem p7{p:Prop}(h:p:=by rw[w];rfl):p:=h
theorem p8{p:Prop}(h:p:=by simp at f;omega):p:=h
theorem p9{p:Prop}(h:p:=by simp[iR];omega):p:=h
theorem qa{p:Prop}(h:p:=by simp[gj];omega):p:=h
theorem qb{p:Prop}(h:p:=by simp[b]):p:=h
theorem qs{p:Prop}(h:p:=by simpa using l):p:=h
theorem q0{p:Prop}(h:p:=by rw[L];exact r):p:=h
theorem q6{p:Prop}(h:p:=by simpa using w):p:=h
theorem rb{p:Prop}(h:p:=by simpa using d):p:=h
theorem rc{p:Prop}(h:p:=by simpa using c):p:=h
theorem sb{p:Prop}(h:p:=by rw[oT];omega):p:=h
theorem sp{p:Prop}(h:p:=by rw[a];rfl):p:=h
theorem sz{p:Prop}(h:p:=by simpa using t):p:=h
theorem sL{p:Prop}(h:p:=by rw[z];decide):p:=h
theorem s8{p:Prop}(h:p:=by rw[J];decide):p:=h
theorem tg{p:Prop}(h:p:=by simpa using g):p:=h
theorem tr{p:Prop}(h:p:=by simp[h]):p:=h
theorem t6{p:Prop}(h:p:=by simp[e]):p:=h
theorem t7{p:Prop}(h:p:=by simpa using f):p:=h
theorem t8{p:Prop}(h:p:=by rw[d];omega):p:=h
theorem u5{p:Prop}(h:p:=by cases a):p:=h
theorem u6{p:Prop}(h:p:=by rw[eK,e];rfl):p:=h
theorem u7{p:Prop}(h:p:=by simp[a]):p:=h
abbrev qi:=@Nat.le_refl
abbrev qx:=@Bool.and_eq_true
abbrev zh:=@Bool.false_eq_true
abbrev zB:=@List.cons_append
abbrev qR:=@List.getElem?_map
abbrev q8:=@List.length_cons
abbrev wC:=@List.mem_append_right
abbrev qX:=@List.mem_cons
abbrev qC:=@List.mem_cons_of_mem
abbrev qw:=@List.mem_singleton
abbrev qW:=@Option.map_some
abbrev wX:=@Nat.add_assoc
abbrev yc:=@Nat.add_zero
abbrev qM:=@Nat.le_trans
abbrev qT:=@Nat.lt_of_lt_of_le
abbrev qZ:=@Nat.lt_succ_iff_lt_or_eq
abbrev yW:=@Nat.mod_lt
abbrev zK:=@Nat.mul_le_mul
abbrev zi:=@Nat.mul_le_mul_right
abbrev za:=@Nat.sub_self
abbrev zW:=@Nat.succ_mul
abbrev wo:=@Nat.zero_add
abbrev qS:=@List.all_eq_true
abbrev wi:=@List.any_eq_false
abbrev qm:=@List.append_assoc
abbrev zD:=@List.drop_drop
abbrev qJ:=@List.drop_eq_getElem_cons
abbrev qY:=@List.drop_of_length_le
abbrev qU:=@List.eq_nil_of_length_eq_zero
abbrev wh:=@List.ext_getElem
abbrev zp:=@List.ext_getElem?
abbrev zk:=@List.filter_append
abbrev wT:=@List.filter_eq_nil_iff
abbrev zb:=@List.flatMap_append
abbrev zg:=@List.flatMap_cons
abbrev zH:=@List.foldl_append
abbrev zA:=@List.foldl_cons
abbrev wu:=@List.foldl_nil
abbrev qg:=@List.getD_eq_getElem?_getD
abbrev qq:=@List.getElem?_append_left
abbrev qk:=@List.getElem?_append_right
abbrev qO:=@List.getElem?_cons_succ
abbrev w7:=@List.getElem?_cons_zero
abbrev wZ:=@List.getElem?_drop
abbrev qc:=@List.getElem?_eq_getElem
abbrev zd:=@List.getElem?_eq_none
abbrev ql:=@List.getElem?_eq_some_iff
abbrev qV:=@List.getElem?_set
abbrev wk:=@List.getElem?_set_ne
abbrev zy:=@List.getElem?_set_self
abbrev wb:=@List.getElem?_toArray
abbrev wc:=@List.getElem?_zipWith
abbrev z8:=@List.getElem_drop
abbrev qe:=@List.getElem_mem
abbrev qA:=@List.getElem_of_mem
abbrev qu:=@List.length_append
abbrev q9:=@List.length_drop
abbrev qp:=@List.length_map
abbrev wD:=@List.length_mergeSort
abbrev zq:=@List.length_range
abbrev zf:=@List.length_set
abbrev qH:=@List.length_take
abbrev qt:=@List.mem_append
abbrev qQ:=@List.mem_cons_self
abbrev qB:=@List.mem_filter
abbrev zM:=@List.mem_flatMap
abbrev qo:=@List.mem_map
abbrev zn:=@List.mem_of_mem_take
abbrev zQ:=@List.mem_or_eq_of_mem_set
abbrev qK:=@List.mem_range
abbrev we:=@List.mergeSort_perm
abbrev wK:=@List.pairwise_append
abbrev zu:=@List.pairwise_cons
abbrev q7:=@List.pairwise_iff_getElem
abbrev wF:=@List.pairwise_mergeSort
abbrev yS:=@List.range_eq_range'
abbrev zt:=@List.range_succ
abbrev yx:=@List.set_set
abbrev qy:=@List.take_append_drop
abbrev vY:=@List.take_left
abbrev qh:=@List.take_of_length_le
abbrev zl:=@List.take_succ_eq_append_getElem
abbrev ym:=@Array.getElem?_modify
abbrev yB:=@Bool.not_eq_true'
abbrev yb:=@Bool.not_false
abbrev vf:=@Int.tmod_lt_of_pos
abbrev qj:=@Int.toNat_natCast
abbrev zV:=@UInt8.xor_zero
abbrev wv:=@UInt8.zero_xor
abbrev w8:=@BitVec.ofInt_natCast
abbrev zT:=@List.any_eq_true
abbrev qI:=@List.append_nil
abbrev zN:=@List.filter_cons
abbrev wA:=@List.filter_eq_self
abbrev wq:=@List.findIdx_lt_length
abbrev wY:=@List.getElem_append_left
abbrev zS:=@List.map_cons
abbrev yf:=@List.map_map
abbrev zm:=@List.mem_append_left
abbrev w5:=@List.mem_replicate
abbrev wN:=@List.nodup_cons
abbrev yA:=@Nat.pow_le_pow_right
abbrev wV:=@UInt8.ofNat_toNat
abbrev zR:=@UInt8.toNat_lt
abbrev vu:=@UInt8.xor_comm
abbrev xp:=@Option.getD_some
abbrev yh:=@Int.mul_le_mul
abbrev v8:=@Int.mul_nonneg
abbrev wy:=@Int.natCast_mul
abbrev vi:=@Int.ofNat_inj
abbrev xf:=@Int.ofNat_lt
abbrev yN:=@Int.tmod_eq_emod_of_nonneg
abbrev wO:=@UInt8.toNat_inj
abbrev yH:=@List.all_append
abbrev yD:=@List.all_eq_false
abbrev yI:=@List.any_append
abbrev vN:=@List.filter_nil
abbrev wg:=@List.flatMap_nil
abbrev zI:=@List.getElem?_range
abbrev zX:=@List.getElem?_replicate
abbrev yi:=@List.getElem_take
abbrev y8:=@List.getElem_zip
abbrev qE:=@List.length_filter_le
abbrev yk:=@List.length_nil
abbrev y6:=@List.length_zipWith
abbrev qP:=@List.map_append
abbrev vS:=@List.map_mergeSort
abbrev wz:=@List.replicate_succ
abbrev qN:=@List.set_append_right
abbrev zO:=@List.set_cons_succ
abbrev ze:=@List.set_cons_zero
abbrev wm:=@List.take_append_of_le_length
abbrev qL:=@List.take_length
abbrev wG:=@Nat.add_sub_cancel_left
abbrev wQ:=@Nat.mod_eq_of_lt
abbrev zG:=@Nat.mul_one
abbrev zj:=@Nat.zero_le
abbrev w6:=@BitVec.toNat_ofNat
abbrev xx:=@Bool.false_or
abbrev wP:=@Bool.true_and
abbrev y9:=@Prod.ext
abbrev zU:=@List.getElem_map
abbrev vA:=@List.map_nil
abbrev yE:=@List.pairwise_map
abbrev vy:=@List.set_append_left
abbrev yZ:=@List.zipWith_append
abbrev wL:=@Int.emod_lt_of_pos
abbrev zP:=@Int.natCast_nonneg
abbrev yU:=@Int.ofNat_le
abbrev zY:=@List.getElem_append_right
abbrev yq:=@List.getElem_set_self
abbrev xL:=@Int.not_lt
abbrev w4:=@List.find?_eq_none
abbrev vq:=@Int.le_refl
end Go.Qw
