/- Lemmas for the proof of the law; no condition. -/
import Derived.Calls
import Derived.Orders
import Derived.Scope
import Derived.KernelRfl
import Derived.Laws.Sem
import Derived.OrdersHeld
set_option linter.unusedVariables false
set_option linter.unusedSimpArgs false
open Nat renaming beq -> wO, ble -> xr, blt -> xi, eq_of_beq_eq_true -> zP, le_of_ble_eq_true -> zK, le_refl -> qm
open Bool renaming and_eq_true -> qy, false_eq_true -> zh, or_eq_false_iff -> yB, or_eq_true -> wb, or_false -> xy
open List renaming cons_append -> zu, getElem?_eq_some_iff -> qk, getElem?_map -> qO, length_cons -> za, mem_append_right -> zH, mem_cons -> qT, mem_cons_of_mem -> qA, mem_cons_self -> qF, mem_singleton -> qp
open BitVec renaming ofInt -> qP
open Go.IntKind renaming i64 -> xP
open Go.Instr renaming alloc -> yQ, box -> vD, build -> xm, buildSlice -> zO, fill -> wK, loadAt -> xt, lookup -> xF, makeMap -> xj, makeSlice -> zD, mapUpdate -> yZ, slice -> xn, sliceAt -> w5, sliceBound -> vC, sliceBounds -> wo, storeAt -> qH
open Option renaming map_eq_some_iff -> vh, map_some -> qS, some -> zX
open Array renaming ext' -> yI, getElem?_toList -> vp, mapM_eq_mapM_toList -> vJ, replicate -> vO, toList_map -> xf
open Go.Builtin renaming append_ -> zA, clear_ -> vS, copy_ -> yh, len_ -> xE
namespace Go.Qw
abbrev Heap:=Array Obj
def cellOf(h:Heap)(a:Addr):Option Value:=
 match h[a.block]? with
 |some (.cells c _ _)=>if a.spot.isSome then none else c[a.off]?
 |_=>none
def Us(h:Heap)(a:Addr):Bool:=
 match h[a.block]? with
 |some (.cells _ _ (lo,hi))=>lo<=a.off&&a.off<hi
 |_=>false
def Ut(h:Heap)(a:Addr)(v:Value):Heap:=
 h.modify a.block λ
  | .cells c elem frozen=>.cells (if a.spot.isSome then c else c.setIfInBounds a.off v) elem frozen
  |o=>o
def shapeOf(h:Heap)(r:Nat):Option (TypeId×Nat):=match h[r]? with|some (.cells c elem _)=>some (elem,c.size)|_=>none
theorem aaU(w:World)(r:Nat):w.shape? r=shapeOf w.heap r:=rfl
theorem Kq(w:World)(a:Addr):w.cell? a=cellOf w.heap a:=rfl
theorem aeS(w:World)(a:Addr):w.frozen? a=Us w.heap a:=rfl
theorem aeT(w:World)(a:Addr)(v:Value):(w.setCell a v).heap=Ut w.heap a v:=rfl
structure dh (w w':World):Prop where
 os:w'.os=w.os
 tape:w'.tape=w.tape
 output:w'.output=w.output
 drawn:w.drawn<=w'.drawn
theorem dh.refl(w:World):dh w w:=⟨rfl,rfl,rfl,qm _⟩
theorem dh.trans{a b c:World}(h:dh a b)(k:dh b c):dh a c:=⟨k.os.trans h.os,k.tape.trans h.tape,k.output.trans h.output,Nat.le_trans h.drawn k.drawn⟩
def ai(P:Program)(f:FuncId)(args:Array Value)(h:Heap)(R:Value->Heap->Prop):Prop:=
 ∀w,w.heap=h->Calls P f args w λe w'=>∃v,e=.returned v/\dh w w'/\R v w'.heap
theorem ai.mono{P:Program}{f:FuncId}{args:Array Value}{h:Heap}{R a:Value->Heap->Prop}(d:ai P f args h R)
  (c:∀v h',R v h'->a v h'):ai P f args h a:=λw g=>
 (d w g).mono λ_ _ ⟨v,b,e,r⟩=>⟨v,b,e,c _ _ r⟩
theorem ai.xa{P:Program}{f:FuncId}{args:Array Value}{h:Heap}{R:Value->Heap->Prop}{t:Heap}{c:Value}(e:ai P f args h λv h'=>v=c/\h'=t) (k:R c t):ai P f args h R:=e.mono (by rintro _ _ ⟨rfl,rfl⟩;exact k)
theorem ai.xc{P:Program}{f:FuncId}{args:Array Value}{h:Heap}{R:Value->Heap->Prop}{c:Value}{Q:Heap->Prop}(e:ai P f args h λv h'=>v=c/\Q h') (k:∀t,Q t->R c t):ai P f args h R:=e.mono (by rintro _ t ⟨rfl,q⟩;exact k t q)
theorem ai.x0{P:Program}{f:FuncId}{args:Array Value}{h:Heap}{R:Value->Heap->Prop}{α:Type}{g:α->Value}{Q:α->Heap->Prop}(e:ai P f args h λv h'=>∃x,v=g x/\Q x h') (k:∀x t,Q x t->R (g x) t):ai P f args h R:=e.mono (by rintro _ t ⟨x,rfl,q⟩;exact k x t q)
def au{α:Type}(P:Program)(s:Sem α)(h:Heap)(K:α->Heap->Prop):Prop:=
 ∀w,w.heap=h->∃v w',s.run P w=.ok v w'/\dh w w'/\K v w'.heap
variable {α β:Type} {P:Program} {h:Heap}
theorem au.pure'{K:α->Heap->Prop}{a:α}(b:K a h):au P (Pure.pure a) h K:=λw c=>⟨a,w,rfl,dh.refl w,by rw[c];exact b⟩
theorem au.bind{s:Sem α}{f:α->Sem β}{K:β->Heap->Prop}(j:au P s h λv h'=>au P (f v) h' K):au P (s>>=f) h K:=by intro w l;obtain⟨v,w',g,k,e⟩:=j w l;obtain⟨i,d,b,c,a⟩:=e w' rfl;exact⟨i,d,by rw[Sem.run_bind,g];exact b,k.trans c,a⟩
theorem au.mono{s:Sem α}{K d:α->Heap->Prop}(f:au P s h K)(e:∀v h',K v h'->d v h'):au P s h d:=λw g=>
 let⟨v,w',a,b,c⟩:=f w g;⟨v,w',a,b,e _ _ c⟩
theorem au.aaV{K:Program->Heap->Prop}(a:K P h):au P program h K:=λw b=>⟨P,w,rfl,dh.refl w,by rw[b];exact a⟩
theorem au.agl{a:Addr}{v v0:Value}{m:Mode}{K:Unit->Heap->Prop}(f:v.oneCell'=true)(c:cellOf h a=some v0)(d:Us h a=false)(e:K () (Ut h a v)):
  au P (store a v m) h K:=λw b=>
 ⟨(),w.setCell a v,by rw[run_store _ _ _ _ _ f,Kq,b,c];simp[aeS,b,d],⟨rfl,rfl,rfl,qm _⟩,by rw[aeT,b];exact e⟩
theorem au.oV{o:Obj}{K:Nat->Heap->Prop}(a:K h.size (h.push o)):au P (newObj o) h K:=λw b=>
 ⟨w.heap.size,_,run_newObj P w o,⟨rfl,rfl,rfl,qm _⟩,by simp only[b];exact a⟩
theorem au.Hb{n:Nat}{K:Unit->Heap->Prop}(a:K () h):au P (askRoom n) h K:=λw b=>⟨(),w,run_askRoom P w n,dh.refl w,by rw[b];exact a⟩
theorem au.Kr{q:Question}{K:Nat->Heap->Prop}(a:(q.forced=true->K 0 h)/\(q.forced=false->∀n,K (q.cut n) h)):au P (choose q) h K:=by
 intro w b;cases hq:q.forced with
 |true=>exact⟨0,w,by rw[run_choose,hq];rfl,dh.refl w,by rw[b];exact a.1 hq⟩
 |false=>exact⟨q.cut (w.tape w.drawn q),{w with drawn:=w.drawn+1},by rw[run_choose,hq];rfl,⟨rfl,rfl,rfl,Nat.le_succ _⟩,by show K _ w.heap;rw[b];exact a.2 hq _⟩
theorem au.Tr{r:Nat}{o:Obj}{K:Obj->Heap->Prop}(b:h[r]?=some o)(g:∀c e f,o≠.cells c e f)(d:K o h):au P (getObj r) h K:=λw a=>by
 refine⟨o,w,?_,dh.refl w,by rw[a];exact d⟩;simp only[getObj,Sem.run,a,b]
theorem au.Ts{r:Nat}{o a:Obj}{K:Unit->Heap->Prop}(d:h[r]?=some o)(i:∀c e f,o≠.cells c e f)(g:K () (h.setIfInBounds r a)):au P (setObj r a) h K:=λw b=>by
 refine⟨(),{w with heap:=w.heap.setIfInBounds r a},?_,⟨rfl,rfl,rfl,qm _⟩,by show K () (w.heap.setIfInBounds r a);rw[b];exact g⟩;simp only[setObj,Sem.run,b,d]
theorem au.agm{r:Nat}{K:Option (TypeId×Nat)->Heap->Prop}(b:K (shapeOf h r) h):au P (shape r) h K:=λw a=>
 ⟨_,w,run_shape P w r,dh.refl w,by rw[a,aaU,a];exact b⟩
def BF(P:Program)(s:Sem Next)(h:Heap)(K:Value->Heap->Prop):Prop:=
 au P s h λa h'=>match a with
  | .value v=>K v h'
  | .skip=>K undef h'
  | .enter f args=>ai P f args h' K
  |_=>False
theorem aiw{P:Program}{o:Oper}{a:Act}{w:World}{K:Value->Heap->Prop}{Q:Exit->Act->World->Prop}
  (h:BF P (execOp a.eval o) w.heap K) {next:Act->World->Prop}
  (c:∀v w',dh w w'->K v w'.heap->next (a.put o.dst v) w'):o.wp P a w next Q:=by
 obtain⟨i,w',j,d,b⟩:=h w rfl;unfold Oper.wp;rw[j];cases i<;>simp only at b<;>simp only[Oper.upon]
 case value v=>exact c _ _ d b
 case skip=>exact c _ _ d b
 case enter f args=>
  refine(b w' rfl).mono ?_;rintro e k ⟨v,rfl,g,r⟩;exact c _ _ (d.trans g) r
structure Sl where
 ptr:Option Addr
 len:Nat
 cap:Nat
 deriving Inhabited
inductive Sc where
 |int (k:IntKind)|bool|str|ptr|slc|flt (k:FloatKind)|cpx (k:FloatKind)|mp|fn|any|adr
@[reducible] def Sc.den:Sc->Type
 | .int _=>Int
 | .bool=>Bool
 | .str=>ByteArray
 | .ptr=>Option Addr
 | .slc=>Sl
 | .flt _=>Nat
 | .cpx _=>Nat×Nat
 | .mp=>Option Nat
 | .fn=>FuncId×Array Value×Array Value
 | .any=>Value
 | .adr=>Addr
@[reducible] def Sc.enc:(s:Sc)->s.den->Value
 | .int k,n=>.int k n
 | .bool,x=>.bool x
 | .str,x=>.string x
 | .ptr,a=>.pointer a
 | .slc,x=>.slice x.ptr x.len x.cap
 | .flt k,n=>.float k n
 | .cpx k,x=>.complex k x.1 x.2
 | .mp,r=>.map r
 | .fn,x=>.func (.func x.1) x.2.1 x.2.2
 | .any,v=>v
 | .adr,a=>.pointer (some a)
def BG:IntKind->IntKind->Bool
 | .i8,.i8| .i16,.i16| .i32,.i32| .i64,.i64| .u8,.u8| .u16,.u16| .u32,.u32| .u64,.u64=>true
 |_,_=>false
theorem Gz:∀{a b:IntKind},BG a b=true->a=b:=by intro a b;cases a<;>cases b<;>simp[BG]
def DP:FloatKind->FloatKind->Bool
 | .f32,.f32| .f64,.f64=>true
 |_,_=>false
theorem DQ:∀{a b:FloatKind},DP a b=true->a=b:=by intro a b;cases a<;>cases b<;>simp[DP]
def Sc.dec:(s:Sc)->Value->Option s.den
 | .int k,.int k' n=>bif BG k k' then some n else none
 | .bool,.bool x=>some x
 | .str,.string x=>some x
 | .ptr,.pointer a=>some a
 | .slc,.slice a l c=>some ⟨a,l,c⟩
 | .flt k,.float k' n=>bif DP k k' then some n else none
 | .cpx k,.complex k' a b=>bif DP k k' then some (a,b)else none
 | .mp,.map r=>some r
 | .fn,.func (.func g) f c=>some (g,f,c)
 | .any,v=>some v
 | .adr,.pointer (some a)=>some a
 |_,_=>none
theorem Sc.rz{s:Sc}{v:Value}{x:s.den}(h:s.dec v=some x):v=s.enc x:=by
 cases s<;>cases v<;>simp only[Sc.dec]at h<;>try(first|(cases h;done)|(cases h;rfl))
 case int.int k k' n=>
  cases hk:BG k k'<;>simp[hk]at h;have:=Gz hk;subst this;subst h;rfl
 case flt.float k k' n=>
  cases hk:DP k k'<;>simp[hk]at h;have:=DQ hk;subst this;subst h;rfl
 case cpx.complex k k' a b=>
  cases hk:DP k k'<;>simp[hk]at h;have:=DQ hk;subst this;subst h;rfl
 case fn.func g f c=>
  cases g<;>first|(cases h;done)|skip
  obtain⟨l⟩:=f;cases l<;>first|(cases h;done)|(cases h;rfl)
 case adr.pointer a=>
  cases a<;>first|(cases h;done)|(cases h;rfl)
@[reducible] def AZ:List Sc->Type
 |[]=>Unit
 |[s]=>s.den
 |s::t::r=>s.den×AZ (t::r)
@[reducible] def nX:(l:List Sc)->AZ l->List Value
 |[],_=>[]
 |[s],x=>[s.enc x]
 |s::t::r,x=>s.enc x.1::nX (t::r) x.2
def Uu:(l:List Sc)->List Value->Option (AZ l)
 |[],[]=>some ()
 |[s],[v]=>s.dec v
 |s::t::r,v::vs=>match s.dec v with
  |some x=>match Uu (t::r) vs with
   |some y=>some (x,y)
   |none=>none
  |none=>none
 |_,_=>none
theorem Xp:∀{l:List Sc} {vs:List Value} {x:AZ l},Uu l vs=some x->vs=nX l x:=by
 intro l vs
 fun_induction Uu l vs with
 |case1=>intro x _;rfl
 |case2 s v=>intro x h;simp only[nX];rw[Sc.rz h]
 |case3 s t r v vs x hx y hy ih=>intro z h;cases h;simp only[nX];rw[Sc.rz hx,ih hy]
 |case4=>intro x h;cases h
 |case5=>intro x h;cases h
 |case6=>intro x h;cases h
inductive Ty where
 |sc (s:Sc)
 |agg (l:List Sc)
 |arr (s:Sc)
@[reducible] def Ty.den:Ty->Type
 | .sc s=>s.den
 | .agg l=>AZ l
 | .arr s=>List s.den
@[reducible] def Ty.enc:(t:Ty)->t.den->Value
 | .sc s,x=>s.enc x
 | .agg l,x=>.agg (nX l x).toArray
 | .arr s,x=>.agg (x.map s.enc).toArray
def Ty.dec:(t:Ty)->Value->Option t.den
 | .sc s,v=>s.dec v
 | .agg l,.agg ⟨cs⟩=>Uu l cs
 |_,_=>none
theorem Ty.rz{t:Ty}{v:Value}{x:t.den}(h:t.dec v=some x):v=t.enc x:=by
 unfold Ty.dec at h;split at h
 .exact Sc.rz h
 .have:=Xp h;subst this;rfl
 .cases h
@[reducible] def NB:List Ty->Type
 |[]=>Unit
 |[s]=>s.den
 |s::t::r=>s.den×NB (t::r)
@[reducible] def Uv:(l:List Ty)->NB l->List Value
 |[],_=>[]
 |[s],x=>[s.enc x]
 |s::t::r,x=>s.enc x.1::Uv (t::r) x.2
inductive Rt where
 |one (t:Ty)
 |many (l:List Ty)
@[reducible] def Rt.den:Rt->Type
 | .one t=>t.den
 | .many l=>NB l
@[reducible] def Rt.enc:(r:Rt)->r.den->Value
 | .one t,x=>t.enc x
 | .many l,x=>.tuple (Uv l x).toArray
inductive rC where
 |val (t:Nat) (x:Value)
 |kil (lo hi:Nat)
abbrev Env:=List rC
def rC.fo:rC->Nat->Bool
 | .val s _,t=>wO s t
 | .kil lo hi,t=>xr lo t&&xi t hi
def Env.get:Env->Nat->Option Value
 |[],_=>none
 | .val s x::r,t=>bif wO s t then some x else Env.get r t
 | .kil lo hi::r,t=>bif xr lo t&&xi t hi then none else Env.get r t
def Env.fo:Env->Nat->Bool
 |[],_=>false
 |e::r,t=>e.fo t||Env.fo r t
theorem Env.aaW(e:rC)(r:Env)(t:Nat)(h:e.fo t=false):Env.get (e::r) t=Env.get r t:=by
 cases e<;>simp only[rC.fo]at h<;>simp[Env.get,h]
theorem Env.get_append{δ ρ:Env}{t:Nat}(h:δ.fo t=false):Env.get (δ++ρ) t=Env.get ρ t:=by
 induction δ with
 |nil=>rfl
 |cons e r ih=>
  simp only[Env.fo,yB]at h;rw[zu,Env.aaW _ _ _ h.1,ih h.2]
theorem Env.Ba{δ ρ:Env}{t:Nat}:Env.fo (δ++ρ) t=(δ.fo t||ρ.fo t):=by
 induction δ with
 |nil=>simp[Env.fo]
 |cons e r ih=>simp[Env.fo,ih,Bool.or_assoc]
structure Fits (n:Nat) (a:Act) (ρ:Env):Prop where
 size:a.tmps.size=n
 defers:a.defers=[]
 get:∀t x,ρ.get t=some x->a.tmps[t]?=some x
def Ext(ρ c:Env)(a b:Act):Prop:=∃δ:Env,c=δ++ρ/\∀t,δ.fo t=false->b.tmps[t]?=a.tmps[t]?
theorem Ext.refl(ρ:Env)(a:Act):Ext ρ ρ a a:=⟨[],rfl,λ_ _=>rfl⟩
theorem Ext.trans{ρ f c:Env}{a e b:Act}(h:Ext ρ f a e)(k:Ext f c e b):Ext ρ c a b:=by obtain⟨δ,rfl,h⟩:=h;obtain⟨g,rfl,k⟩:=k;refine⟨g++δ,by simp,λt d=>?_⟩;rw[Env.Ba,yB]at d;rw[k t d.1,h t d.2]
def Env.eval(ρ:Env):Operand->Option Value
 | .tmp t=>ρ.get t
 | .const v=>some v
 | .global g=>some (.pointer (some ⟨g,0,none⟩))
 | .func f=>some (.func (.func f) #[] #[])
theorem Fits.eval{n:Nat}{a:Act}{ρ:Env}(h:Fits n a ρ){x:Operand}{v:Value}(b:ρ.eval x=some v):a.eval x=v:=by
 cases x<;>simp only[Env.eval]at b<;>simp only[Act.eval]
 case tmp t=>have:=h.get t v b;simp[Array.getD_eq_getD_getElem?,this]
 all_goals (injection b)
theorem Fits.put{n:Nat}{a:Act}{ρ:Env}(h:Fits n a ρ){d:Nat}(f:xi d n=true)(v:Value):Fits n (a.put (some d) v) (.val d v::ρ):=by
 have c:d<n:=zK f;refine⟨by simp[Act.put,h.size],h.defers,λt x b=>?_⟩;simp only[Env.get]at b;simp only[Act.put,Array.getElem?_setIfInBounds];cases hb:wO d t with
 |true=>
  rw[hb]at b;have:d=t:=zP hb;subst this;simp at b;simp[h.size,c,b]
 |false=>
  rw[hb]at b;have:d≠t:=λe=>by subst e;simp at hb
  simp only[this,if_false];exact h.get t x b
theorem Ext.put{ρ:Env}{a:Act}{d:Nat}(v u:Value):Ext ρ (.val d u::ρ) a (a.put (some d) v):=by
 refine⟨[.val d u],rfl,λt b=>?_⟩;simp only[Env.fo,rC.fo,xy]at b;have:d≠t:=λe=>by subst e;simp at b
 simp[Act.put,this]
abbrev dF:=List (Nat×Ty)
@[reducible] def dF.den:dF->Type
 |[]=>Unit
 |[s]=>s.2.den
 |s::t::r=>s.2.den×dF.den (t::r)
def dF.vals:(σ:dF)->σ.den->Env->Env
 |[],_,ρ=>ρ
 |[s],x,ρ=>.val s.1 (s.2.enc x)::ρ
 |s::t::r,x,ρ=>.val s.1 (s.2.enc x.1)::dF.vals (t::r) x.2 ρ
def dF.read:(σ:dF)->Env->Option σ.den
 |[],_=>some ()
 |[s],ρ=>match ρ.get s.1 with
  |some v=>s.2.dec v
  |none=>none
 |s::t::r,ρ=>match ρ.get s.1 with
  |some v=>match s.2.dec v with
   |some x=>match dF.read (t::r) ρ with
    |some y=>some (x,y)
    |none=>none
   |none=>none
  |none=>none
def dF.has:dF->Nat->Bool
 |[],_=>false
 |s::r,t=>wO s.1 t||dF.has r t
abbrev dt:=List (Nat×Nat)
def dt.over:dt->Env->Env
 |[],ρ=>ρ
 |(lo,hi)::r,ρ=>.kil lo hi::dt.over r ρ
def dt.has:dt->Nat->Nat->Bool
 |[],_,_=>false
 |(lo,hi)::r,a,b=>(xr lo a&&xr b hi)||dt.has r a b
def within(σ:dF)(κ:dt):Env->Nat->Bool
 |_,0=>true
 |[],_+1=>true
 | .val t _::r,n+1=>(dF.has σ t||dt.has κ t (t+1))&&within σ κ r n
 | .kil lo hi::r,n+1=>dt.has κ lo hi&&within σ κ r n
theorem dt.aaX{κ:dt}{a b:Nat}(h:κ.has a b=true){t:Nat}(e:a<=t)(f:t<b)(ρ:Env):∃δ:Env,κ.over ρ=δ++ρ/\δ.fo t=true:=by
 induction κ with
 |nil=>simp[dt.has]at h
 |cons p r ih=>
  obtain⟨c,d⟩:=p;simp only[dt.has,wb,qy]at h;obtain⟨δ,j⟩:∃δ:Env,dt.over r ρ=δ++ρ:=by
   clear ih h
   induction r with
   |nil=>exact⟨[],rfl⟩
   |cons q r ih=>obtain⟨δ,h⟩:=ih;exact⟨.kil q.1 q.2::δ,by show rC.kil q.1 q.2::dt.over r ρ=_;rw[h];rfl⟩
  rcases h with h|h
  .have l:=zK h.1;have k:=zK h.2;refine⟨.kil c d::δ,by simp[dt.over,j],?_⟩;have g:xr c t=true:=Nat.ble_eq_true_of_le (by omega);have x2:xi t d=true:=by unfold xi;exact Nat.ble_eq_true_of_le (by omega)
   simp[Env.fo,rC.fo,g,x2]
  .obtain⟨i,e,f⟩:=ih h;exact⟨.kil c d::i,by simp[dt.over,e],by simp[Env.fo,f]⟩
theorem dt.NM(κ:dt)(ρ:Env):κ.over ρ=κ.over []++ρ:=by
 induction κ with
 |nil=>rfl
 |cons p r ih=>obtain⟨a,b⟩:=p;simp[dt.over,ih]
theorem dF.He:∀(σ:dF) (x:σ.den) (ρ:Env),σ.vals x ρ=σ.vals x []++ρ
 |[],_,ρ=>rfl
 |[s],x,ρ=>rfl
 |s::t::r,x,ρ=>by simp only[dF.vals];rw[dF.He (t::r) x.2 ρ];rfl
theorem dF.Aj:∀(σ:dF) (x:σ.den) (t:Nat),(σ.vals x []).fo t=σ.has t
 |[],_,_=>rfl
 |[s],x,t=>by simp[dF.vals,Env.fo,rC.fo,dF.has]
 |s::u::r,x,t=>by
  have:=dF.Aj (u::r) x.2 t;simp only[dF.vals,Env.fo,rC.fo,this];rfl
theorem dF.NN:∀(σ:dF) (x:σ.den) (e:Env) (t:Nat),σ.has t=true->((σ.vals x [])++e).get t=(σ.vals x []).get t
 |[],_,_,_,h=>by cases h
 |[s],x,e,t,h=>by
  simp only[dF.has,xy]at h;simp[dF.vals,Env.get,h]
 |s::u::r,x,e,t,h=>by
  simp only[dF.vals,zu,Env.get];cases hb:wO s.1 t with
  |true=>rfl
  |false=>
   have h':dF.has (u::r) t=true:=by have a:(wO s.1 t||dF.has (u::r) t)=true:=h;rw[hb]at a;exact a
   simpa using dF.NN (u::r) x.2 e t h'
theorem dt.LA{κ:dt}{a b t:Nat}(h:κ.has a b=true)(c:a<=t)(f:t<b):(κ.over []).fo t=true:=by obtain⟨δ,e,d⟩:=dt.aaX h c f [];rw[e];simpa using d
theorem rD{σ:dF}{κ:dt}:∀{δ ρ:Env},within σ κ (δ++ρ) δ.length=true->∀t,σ.has t=false->(κ.over []).fo t=false->δ.fo t=false
 |[],_,_,_,_,_=>rfl
 | .val s x::r,ρ,h,t,h1,h2=>by
  simp only[zu,za,within,qy,wb]at h;simp only[Env.fo,rC.fo,yB];refine⟨?_,rD h.2 t h1 h2⟩;cases hb:wO s t with
  |false=>rfl
  |true=>
   have:s=t:=zP hb;subst this;rcases h.1 with h|h
   .rw[h]at h1;cases h1
   .rw[dt.LA h (qm _) (Nat.lt_succ_self _)]at h2;cases h2
 | .kil lo hi::r,ρ,h,t,h1,h2=>by
  simp only[zu,za,within,qy]at h;simp only[Env.fo,rC.fo,yB];refine⟨?_,rD h.2 t h1 h2⟩;cases hb:(xr lo t&&xi t hi)with
  |false=>rfl
  |true=>
   simp only[qy]at hb;have b:=zK hb.1;have a:t<hi:=zK hb.2;rw[dt.LA h.1 b a]at h2;cases h2
theorem dF.NO:∀{σ:dF} {ρ:Env} {x:σ.den} {t:Nat} {v:Value},σ.read ρ=some x->(σ.vals x []).get t=some v->ρ.get t=some v∨False
 |[],_,_,_,_,_,h=>by simp[dF.vals,Env.get]at h
 |[s],ρ,x,t,v,h,hv=>by
  simp only[dF.read]at h;split at h
  .rename_i u c;simp only[dF.vals,Env.get]at hv;cases hb:wO s.1 t with
   |true=>
    rw[hb]at hv;have:=zP hb;simp at hv;subst hv;rw[<-Ty.rz h,<-this];exact .inl c
   |false=>rw[hb]at hv;simp at hv
  .cases h
 |s::u::r,ρ,x,t,v,h,hv=>by
  simp only[dF.read]at h;split at h
  .rename_i z b;split at h
   .rename_i y a;split at h
    .rename_i w d;cases h;simp only[dF.vals,Env.get]at hv;cases hb:wO s.1 t with
     |true=>
      rw[hb]at hv;have:=zP hb;simp at hv;subst hv;rw[<-Ty.rz a,<-this];exact .inl b
     |false=>
      rw[hb]at hv;exact dF.NO (σ:=u::r) d hv
    .cases h
   .cases h
  .cases h
theorem Fits.rE{n:Nat}{a d:Act}{σ:dF}{κ:dt}{ρ g:Env}{x:σ.den}(k:Fits n a ρ)(h:Fits n d g)
  (b:∀t,σ.has t=false->(κ.over []).fo t=false->d.tmps[t]?=a.tmps[t]?) (i:σ.read g=some x):
  Fits n d (σ.vals x (κ.over ρ))/\Ext ρ (σ.vals x (κ.over ρ)) a d:=by
 rw[dF.He,dt.NM];refine⟨⟨h.size,h.defers,λt v c=>?_⟩,⟨σ.vals x []++κ.over [],by simp,λt f=>?_⟩⟩
 .cases h1:σ.has t with
  |true=>
   have:∀(e:Env),((σ.vals x [])++e).get t=(σ.vals x []).get t:=λe=>dF.NN σ x e t h1;rw[this]at c;rcases dF.NO i c with h2|h2
   .exact h.get t v h2
   .exact h2.elim
  |false=>
   rw[Env.get_append (by rw[dF.Aj];exact h1)]at c;cases h2:(κ.over []).fo t with
   |true=>
    have:∀(e:Env),((κ.over [])++e).get t=none:=by
     intro e;clear b c
     induction κ with
     |nil=>simp[dt.over,Env.fo]at h2
     |cons p r ih=>
      obtain⟨l,j⟩:=p;simp only[dt.over,Env.fo,rC.fo]at h2;simp only[dt.over,zu,Env.get];cases hb:(xr l t&&xi t j)with
      |true=>rfl
      |false=>rw[hb]at h2;simp at h2;simpa using ih h2
    rw[this]at c;cases c
   |false=>
    rw[Env.get_append h2]at c;rw[b t h1 h2];exact k.get t v c
 .rw[Env.Ba,yB,dF.Aj]at f;exact b t f.1 f.2
theorem Ext.within{a d:Act}{σ:dF}{κ:dt}{ρ c:Env}(g:Ext ρ c a d)(e:within σ κ c (c.length-ρ.length)=true):
  ∀t,σ.has t=false->(κ.over []).fo t=false->d.tmps[t]?=a.tmps[t]?:=by
 obtain⟨δ,rfl,h⟩:=g;have b:(δ++ρ).length-ρ.length=δ.length:=by simp
 rw[b]at e;exactλt f i=>h t (rD e t f i)
theorem Ext.rE{a b:Act}{σ:dF}{κ:dt}{ρ:Env}{x:σ.den}(e:Ext ρ (σ.vals x (κ.over ρ)) a b):
  ∀t,σ.has t=false->(κ.over []).fo t=false->b.tmps[t]?=a.tmps[t]?:=by
 obtain⟨δ,c,f⟩:=e;rw[dF.He,dt.NM,<-List.append_assoc]at c;have:=List.append_cancel_right c;subst this;exactλt d g=>f t (by rw[Env.Ba,dF.Aj,d,g];rfl)
inductive nV where
 |int (k:IntKind)|bool|str|flt|cpx|mp|fn|other
 |slice (e:TypeId)|array (n:Nat) (e:TypeId)|struct (fs:List (Nat×TypeId))|ptr (e:TypeId)
def jv:Option TypeDesc->nV
 |some (.int k)=>.int k
 |some .bool=>.bool
 |some .string=>.str
 |some (.float _)=>.flt
 |some (.complex _)=>.cpx
 |some (.map ..)=>.mp
 |some (.func ..)=>.fn
 |some (.slice e)=>.slice e
 |some (.array n e)=>.array n e
 |some (.struct fs)=>.struct (fs.toList.map λf=>(f.offset,f.type))
 |some (.pointer e)=>.ptr e
 |_=>.other
structure TI where
 cD:nV
 ty:Ty
 size:Nat
 bytes:Nat
 zero:List Value
abbrev kL:=List TI
def kL.seen(P:Program)(t:TypeId):nV×Option (Nat×Nat×Option (List Value)):=
 (jv (P.underlying t),(P.info? t).map λi=>(i.size,i.bytes,i.zero.map (·.cells.toList)))
def kL.told(i:TI):nV×Option (Nat×Nat×Option (List Value)):=(i.cD,some (i.size,i.bytes,some i.zero))
def kL.get:kL->Nat->Option TI
 |[],_=>none
 |i::_,0=>some i
 |_::r,t+1=>kL.get r t
structure BH where
 P:Program
 T:kL
structure BH.Ok (C:BH):Prop where
 TS:(List.range C.T.length).map (kL.seen C.P)=C.T.map kL.told
 mixed:C.P.follows .mixedOrders=true
theorem kL.get_eq:∀(T:kL) (t:Nat),T.get t=T[t]?
 |[],_=>rfl
 |_::_,0=>rfl
 |_::r,t+1=>by simp[kL.get,kL.get_eq r t]
theorem BH.Ok.at{C:BH}(h:C.Ok){t:Nat}{i:TI}(a:C.T.get t=some i):kL.seen C.P t=kL.told i:=by rw[kL.get_eq]at a;have b:t<C.T.length:=(qk.1 a).1;have:=congrArg (·[t]?) h.TS;simp[b]at this;rw[this,(qk.1 a).2]
def Br(b:Bool)(A B:Prop):Prop:=match b with
 |true=>A
 |false=>B
inductive PV:Type 1 where
 |no
 |val (v:Value)
 |cond (c:Prop) (v:Value)
 |ex (X:Type) (c:X->Prop) (v:X->Value)
 |br (b:Bool) (x y:Value)
def PV.holds(p:PV)(K:Value->Prop):Prop:=match p with
 | .no=>False
 | .val v=>K v
 | .cond c v=>c/\K v
 | .ex _ c v=>∃x,c x/\K (v x)
 | .br b x y=>Br b (K x) (K y)
def sJ(P:Program)(s:Sem Next)(v:Value):Prop:=∀w,s.run P w=.ok (.value v) w
def aI{α:Type}(P:Program)(s:Sem α)(v:α):Prop:=∀w,s.run P w=.ok v w
def kM(P:Program)(op:BinOp)(t:TypeId)(x y:Operand)(a b r:Value):Prop:=aI P (do eqGuard op t x y a b;binOp op t a b) r
def adx:Operand->Bool
 | .tmp _=>true
 |_=>false
def aaY(P:Program)(t:TypeId)(x y:Operand)(d:Option nV)(op:BinOp):Value->Value->PV
 | .int k a,.int k' b=>
  match op with
  | .shl=>.cond (0<=b) (.int k (k.wrap (a*2^min b.toNat k.bits)))
  | .shr=>.cond (0<=b) (.int k (a.fdiv (2^min b.toNat k.bits)))
  |_=>bif BG k k' then
   match op with
   | .add=>.val (.int k (k.wrap (a+b)))
   | .sub=>.val (.int k (k.wrap (a-b)))
   | .mul=>.val (.int k (k.wrap (a*b)))
   | .quo=>.cond (b≠0) (.int k (k.wrap (a.tdiv b)))
   | .rem=>.cond (b≠0) (.int k (a.tmod b))
   | .and=>.val (.int k (k.wrap (qP k.bits a&&&qP k.bits b).toNat))
   | .or=>.val (.int k (k.wrap (qP k.bits a|||qP k.bits b).toNat))
   | .xor=>.val (.int k (k.wrap (qP k.bits a^^^qP k.bits b).toNat))
   | .andNot=>.val (.int k (k.wrap (qP k.bits a&&&~~~qP k.bits b).toNat))
   | .eql=>.val (.bool (a==b))
   | .neq=>.val (.bool (a !=b))
   | .lss=>.val (.bool (decide (a<b)))
   | .leq=>.val (.bool (decide (a<=b)))
   | .gtr=>.val (.bool (decide (a>b)))
   | .geq=>.val (.bool (decide (a>=b)))
   |_=>.no
  else .no
 | .float k a,.float k' b=>bif DP k k' then
   match op with
   | .add=>.ex Nat (λr=>k.format.add a b=some r) (λr=>.float k r)
   | .sub=>.ex Nat (λr=>k.format.sub a b=some r) (λr=>.float k r)
   | .mul=>.ex Nat (λr=>k.format.mul a b=some r) (λr=>.float k r)
   | .quo=>.ex Nat (λr=>k.format.div a b=some r) (λr=>.float k r)
   | .eql=>.val (.bool (k.format.order a b==some .eq))
   | .neq=>.val (.bool (k.format.order a b !=some .eq))
   | .lss=>.val (.bool (k.format.order a b==some .lt))
   | .gtr=>.val (.bool (k.format.order a b==some .gt))
   |_=>.no
  else .no
 | .string a,.string b=>
  match op with
  | .eql=>.val (.bool (a.toList==b.toList))
  | .neq=>.val (.bool (!(a.toList==b.toList)))
  | .lss=>.val (.bool (Op.bytesLess a.toList b.toList))
  | .leq=>.val (.bool (Op.bytesLess a.toList b.toList||a.toList==b.toList))
  | .gtr=>.val (.bool (!(Op.bytesLess a.toList b.toList||a.toList==b.toList)))
  | .geq=>.val (.bool (!(Op.bytesLess a.toList b.toList)))
  | .add=>.cond (((a.size+b.size:Nat):Int)<=xP.max) (.string (a++b))
  |_=>.no
 | .bool a,.bool b=>
  match d with
  |some .bool=>match op with
   | .eql=>.val (.bool (a==b))
   | .neq=>.val (.bool (!(a==b)))
   |_=>.no
  |_=>.no
 | .pointer a,.pointer b=>bif adx y then .ex Bool (λr=>kM P op t x y (.pointer a) (.pointer b) (.bool r)) (λr=>.bool r)else
  match b with
  |none=>match d with
   |some (.ptr _)=>match op with
    | .eql=>.val (.bool a.isNone)
    | .neq=>.val (.bool (!a.isNone))
    |_=>.no
   |_=>.no
  |some _=>.no
 | .slice a _ _,.slice none _ _=>
  match d with
  |some (.slice _)=>match op with
   | .eql=>.val (.bool a.isNone)
   | .neq=>.val (.bool (!a.isNone))
   |_=>.no
  |_=>.no
 | .agg a,.agg b=>.ex Bool (λr=>kM P op t x y (.agg a) (.agg b) (.bool r)) (λr=>.bool r)
 | .complex k a b,.complex k' c e=>
  match op with
  | .eql| .neq=>.ex Bool (λr=>kM P op t x y (.complex k a b) (.complex k' c e) (.bool r)) (λr=>.bool r)
  |_=>.ex (Nat×Nat) (λr=>kM P op t x y (.complex k a b) (.complex k' c e) (.complex k r.1 r.2)) (λr=>.complex k r.1 r.2)
 |_,_=>.no
def aaZ(P:Program)(t:TypeId)(x y:Operand)(d:Option nV)(op:BinOp)(a:Value):Value->PV
 | .nilIface=>.ex Bool (λr=>kM P op t x y a .nilIface (.bool r)) (λr=>.bool r)
 |b=>aaY P t x y d op a b
def unV(op:UnOp):Value->PV
 | .bool b=>match op with
  | .not=>.val (.bool !b)
  |_=>.no
 | .int k n=>match op with
  | .neg=>.val (.int k (k.wrap (0-n)))
  | .xor=>.val (.int k (k.wrap (qP k.bits (if k.signed then-1 else k.max)^^^qP k.bits n).toNat))
  |_=>.no
 |_=>.no
def rn(ev:Operand->Option Value):List Operand->Option (List Value)
 |[]=>some []
 |x::r=>match ev x with
  |some v=>match rn ev r with
   |some vs=>some (v::vs)
   |none=>none
  |none=>none
def DR(ev:Operand->Option Value):List (Nat×Operand)->Option (List (Nat×Value))
 |[]=>some []
 |(n,x)::r=>match ev x with
  |some v=>match DR ev r with
   |some vs=>some ((n,v)::vs)
   |none=>none
  |none=>none
def placesOf(T:kL):List (Nat×TypeId)->Option (List (Nat×Nat))
 |[]=>some []
 |(off,t)::r=>match T.get t with
  |some j=>match placesOf T r with
   |some ps=>some ((off,j.size)::ps)
   |none=>none
  |none=>none
def It(ev:Operand->Option Value):Option Operand->Option (Option Int)
 |none=>some none
 |some x=>match ev x with
  |some (.int _ n)=>some (some n)
  |_=>none
def agn(d:Option nV):Value->PV
 | .slice _ n _=>match d with
  |some (.slice _)=>.val (.int .i64 n)
  |_=>.no
 | .string s=>match d with
  |some .str=>.val (.int .i64 s.size)
  |_=>.no
 |_=>.no
def ago(d:Option nV):Value->PV
 | .slice _ _ n=>match d with
  |some (.slice _)=>.val (.int .i64 n)
  |_=>.no
 |_=>.no
def ady(d:Option nV):Value->PV
 | .int _ n=>match d with
  |some (.int k)=>.val (.int k (k.wrap n))
  |_=>.no
 |_=>.no
def BI(P:Program)(T:kL)(op:Op)(ev:Operand->Option Value):PV:=
 match op with
 | .move x| .assign x=>match ev x with
  |some v=>.val v
  |none=>.no
 | .pick c a b=>match ev c,ev a,ev b with
  |some (.bool t),some x,some y=>.br t x y
  |_,_,_=>.no
 | .nilCheck x=>match ev x with
  |some (.pointer p)=>.ex Addr (λa=>p=some a) (λa=>.pointer (some a))
  |_=>.no
 | .fieldAddr s x f=>match ev x with
  |some (.pointer (some a))=>match T.get s with
   |some i=>match i.cD with
    | .struct fs=>match fs[f]? with
     |some (off,t)=>match T.get t with
      |some j=>bif wO j.size 0 then .no else .val (.pointer (some (a.add off)))
      |none=>.no
     |none=>.no
    |_=>.no
   |none=>.no
  |_=>.no
 | .indexAddr t x ix=>match ev ix with
  |some (.int _ n)=>match ev x with
   |some (.slice p len _)=>match T.get t with
    |some i=>match i.cD with
     | .slice e=>match T.get e with
      |some j=>.ex Addr (λa=>p=some a/\0<=n/\n<(len:Int)) (λa=>.pointer (some (a.add (n.toNat*j.size))))
      |none=>.no
     |_=>.no
    |none=>.no
   |some (.pointer (some a))=>match T.get t with
    |some i=>match i.cD with
     | .array m e=>match T.get e with
      |some j=>.cond (0<=n/\n<(m:Int)) (.pointer (some (a.add (n.toNat*j.size))))
      |none=>.no
     |_=>.no
    |none=>.no
   |_=>.no
  |_=>.no
 | .index t x ix=>match ev ix with
  |some (.int _ n)=>match ev x with
   |some (.string s)=>match T.get t with
    |some i=>match i.cD with
     | .str=>.ex UInt8 (λb=>0<=n/\s.data[n.toNat]?=some b) (λb=>.int .u8 b.toNat)
     |_=>.no
    |none=>.no
   |some (.agg cs)=>match T.get t with
    |some i=>match i.cD with
     | .array m e=>match T.get e with
      |some j=>match j.ty with
       | .sc s=>match j.cD with
        | .struct _=>.no
        | .array _ _=>.no
        | .other=>.no
        |_=>bif wO j.size 1 then .ex s.den (λy=>0<=n/\n<(m:Int)/\cs[n.toNat]?=some (s.enc y)) (λy=>s.enc y)else .no
       |_=>.no
      |none=>.no
     |_=>.no
    |none=>.no
   |_=>.no
  |_=>.no
 | .field s x f=>match ev x with
  |some (.agg ⟨cs⟩)=>match T.get s with
   |some i=>match i.cD with
    | .struct fs=>match fs[f]? with
     |some (off,t)=>match T.get t with
      |some j=>match j.cD with
       | .struct _=>.val (.agg ((cs.drop off).take j.size).toArray)
       | .array _ _=>.val (.agg ((cs.drop off).take j.size).toArray)
       | .other=>.no
       |_=>match cs[off]? with
        |some v=>.val v
        |none=>.no
      |none=>.no
     |none=>.no
    |_=>.no
   |none=>.no
  |_=>.no
 | .slice t x lo hi mx=>match mx with
  |some _=>.no
  |none=>match It ev lo,It ev hi with
   |some l,some r=>match ev x with
    |some (.slice p len cap)=>match T.get t with
     |some i=>match i.cD with
      | .slice e=>match T.get e with
       |some j=>match l,r with
        |none,none=>.val (.slice p len cap)
        |none,some r=>.cond (0<=r/\r<=(cap:Int)) (.slice p r.toNat cap)
        |some l,none=>.cond (0<=l/\l<=(len:Int)) (.slice (if cap=l.toNat then p else p.map (·.add (l.toNat*j.size))) (len-l.toNat) (cap-l.toNat))
        |some l,some r=>.cond (0<=l/\l<=r/\r<=(cap:Int)) (.slice (if cap=l.toNat then p else p.map (·.add (l.toNat*j.size))) (r.toNat-l.toNat) (cap-l.toNat))
       |none=>.no
      |_=>.no
     |none=>.no
    |some (.string s)=>match T.get t with
     |some i=>match i.cD with
      | .str=>match l,r with
       |none,none=>.val (.string (s.extract 0 s.size))
       |none,some r=>.cond (0<=r/\r<=(s.size:Int)) (.string (s.extract 0 r.toNat))
       |some l,none=>.cond (0<=l/\l<=(s.size:Int)) (.string (s.extract l.toNat s.size))
       |some l,some r=>.cond (0<=l/\l<=r/\r<=(s.size:Int)) (.string (s.extract l.toNat r.toNat))
      |_=>.no
     |none=>.no
    |some (.pointer (some a))=>match T.get t with
     |some i=>match i.cD with
      | .array n e=>match T.get e with
       |some j=>match l,r with
        |none,none=>.val (.slice (some a) n n)
        |none,some r=>.cond (0<=r/\r<=(n:Int)) (.slice (some a) r.toNat n)
        |some l,none=>.cond (0<=l/\l<=(n:Int)) (.slice (some (if n=l.toNat then a else a.add (l.toNat*j.size))) (n-l.toNat) (n-l.toNat))
        |some l,some r=>.cond (0<=l/\l<=r/\r<=(n:Int)) (.slice (some (if n=l.toNat then a else a.add (l.toNat*j.size))) (r.toNat-l.toNat) (n-l.toNat))
       |none=>.no
      |_=>.no
     |none=>.no
    |_=>.no
   |_,_=>.no
 | .extract x n=>match ev x with
  |some (.tuple ⟨vs⟩)=>match vs[n]? with
   |some v=>.val v
   |none=>.no
  |_=>.no
 | .binOp op t x y _=>match ev x,ev y with
  |some a,some b=>aaZ P t x y ((T.get t).map (·.cD)) op a b
  |_,_=>.no
 | .unOp op _ x=>match ev x with
  |some v=>unV op v
  |none=>.no
 | .convert src dst x=>match ev x,(T.get src).map TI.cD with
  |some v,some (nV.int _)=>ady ((T.get dst).map (·.cD)) v
  |_,_=>.no
 | .build t parts=>match DR ev parts.toList with
  |some vs=>match T.get t with
   |some i=>bif xi 24 i.size then .ex Value (λv=>aI P (xm t vs.toArray) v) (λv=>v)else match i.cD with
    | .struct fs=>match placesOf T fs with
     |some ps=>match wK (λn=>ps[n]?) i.zero.toArray vs with
      |some cells=>.val (.agg cells)
      |none=>.no
     |none=>.no
    | .array _ e=>match T.get e with
     |some j=>match wK (λn=>some (n*j.size,j.size)) i.zero.toArray vs with
      |some cells=>.val (.agg cells)
      |none=>.no
     |none=>.no
    |_=>.no
   |none=>.no
  |none=>.no
 | .makeFunc fn first captured=>match rn ev first.toList,rn ev captured.toList with
  |some a,some b=>.val (.func fn a.toArray b.toArray)
  |_,_=>.no
 | .call c=>match c.callee with
  | .builtin b=>match b with
   | .len=>match c.argTypes.toList,c.args.toList with
    |t::_,[x]=>match ev x with
     |some v=>agn ((T.get t).map (·.cD)) v
     |none=>.no
    |_,_=>.no
   | .cap=>match c.argTypes.toList,c.args.toList with
    |t::_,[x]=>match ev x with
     |some v=>ago ((T.get t).map (·.cD)) v
     |none=>.no
    |_,_=>.no
   | .min=>match rn ev c.args.toList with
    |some [.int k a,.int _ b]=>.val (.int k (if b<a then b else a))
    |_=>.no
   | .max=>match rn ev c.args.toList with
    |some [.int k a,.int _ b]=>.val (.int k (if b>a then b else a))
    |_=>.no
   | .real=>match rn ev c.args.toList with
    |some [.complex k a _]=>.val (.float k a)
    |_=>.no
   | .imag=>match rn ev c.args.toList with
    |some [.complex k _ b]=>.val (.float k b)
    |_=>.no
   |_=>.no
  |_=>.no
 |_=>.no
theorem aI.next{P:Program}{s:Sem Value}{v:Value}(h:aI P s v):sJ P (do pure (.value (<-s))) v:=λw=>by
 rw[Sem.run_bind,h w];rfl
theorem aI.pure{α:Type}{P:Program}{v:α}:aI P (pure v) v:=λ_=>rfl
theorem aI.bind{α β:Type}{P:Program}{s:Sem α}{f:α->Sem β}{v:α}{u:β}(h:aI P s v)(k:aI P (f v) u):aI P (s>>=f) u:=λw=>by
 rw[Sem.run_bind,h w];exact k w
theorem FM{d:Option TypeDesc}{k:IntKind}(h:jv d=.int k):d=some (.int k):=by unfold jv at h;split at h<;>cases h;rfl
theorem aba{d:Option TypeDesc}(h:jv d=.bool):d=some .bool:=by unfold jv at h;split at h<;>cases h;rfl
theorem ul{d:Option TypeDesc}(h:jv d=.str):d=some .string:=by unfold jv at h;split at h<;>cases h;rfl
theorem jV{d:Option TypeDesc}{e:TypeId}(h:jv d=.slice e):d=some (.slice e):=by unfold jv at h;split at h<;>cases h;rfl
theorem sK{d:Option TypeDesc}{n:Nat}{e:TypeId}(h:jv d=.array n e):d=some (.array n e):=by unfold jv at h;split at h<;>cases h;rfl
theorem aeU{d:Option TypeDesc}{e:TypeId}(h:jv d=.ptr e):d=some (.pointer e):=by unfold jv at h;split at h<;>cases h;rfl
theorem pz{d:Option TypeDesc}{b:List (Nat×TypeId)}(h:jv d=.struct b):∃a,d=some (.struct a)/\b=a.toList.map λf=>(f.offset,f.type):=by unfold jv at h;split at h<;>cases h;exact⟨_,rfl,rfl⟩
variable {t:TypeId} {i:TI}
section
variable {C:BH}
theorem BH.Ok.cD(h:C.Ok)(a:C.T.get t=some i):jv (C.P.underlying t)=i.cD:=congrArg Prod.fst (h.at a)
theorem BH.Ok.info(h:C.Ok)(d:C.T.get t=some i):∃f,C.P.info? t=some f/\f.size=i.size/\f.bytes=i.bytes/\∃z,f.zero=some z/\z.cells.toList=i.zero:=by
 have:=congrArg Prod.snd (h.at d);simp only[kL.seen,kL.told]at this;cases hf:C.P.info? t with
 |none=>rw[hf]at this;cases this
 |some f=>
  rw[hf]at this;simp only[qS,zX.injEq,Prod.mk.injEq]at this;obtain⟨a,b,c⟩:=this;cases hz:f.zero with
  |none=>rw[hz]at c;cases c
  |some z=>rw[hz]at c;simp at c;exact⟨f,rfl,a,b,z,hz,by simpa using c⟩
theorem aF{P:Program}{t:TypeId}{d:TypeDesc}(h:P.underlying t=some d):aI P (underlying t) d:=λw=>by
 simp[underlying,h]
theorem dc{P:Program}{t:TypeId}{d:TypeInfo}(h:P.info? t=some d):aI P (typeInfo t) d:=λw=>by
 simp[typeInfo,h]
theorem eK(h:C.Ok)(c:C.T.get t=some i):aI C.P (sizeOf t) i.size:=by obtain⟨f,a,b,_⟩:=h.info c;rw[<-b];exact(dc a).bind .pure
theorem su(h:C.Ok)(d:C.T.get t=some i):∃z,aI C.P (zeroValue t) z/\z.cells.toList=i.zero:=by obtain⟨f,b,_,_,z,c,a⟩:=h.info d;refine⟨z,(dc b).bind ?_,a⟩;rw[c];exact .pure
theorem lH(h:C.Ok)(j:C.T.get t=some i):(∀b,i.cD=.struct b->aI C.P (isAgg t) true)/\(∀n e,i.cD=.array n e->aI C.P (isAgg t) true)/\
  ((∀b,i.cD≠.struct b)->(∀n e,i.cD≠.array n e)->i.cD≠.other->aI C.P (isAgg t) false):=by
 have a:=h.cD j;refine⟨λb c=>?_,λn e c=>?_,λf k h3=>?_⟩
 .rw[c]at a;obtain⟨l,g,_⟩:=pz a;exact(aF g).bind .pure
 .rw[c]at a;exact(aF (sK a)).bind .pure
 .cases hu:C.P.underlying t with
  |none=>rw[hu]at a;exact absurd a.symm h3
  |some d=>
   refine(aF hu).bind ?_;rw[hu]at a;cases d<;>first|exact .pure|(exfalso;simp only[jv]at a;first|exact f _ a.symm|exact k _ _ a.symm)
end
theorem Ch{ev:Operand->Option Value}{e:Operand->Value}(b:∀x v,ev x=some v->e x=v):∀{l:List Operand} {vs:List Value},rn ev l=some vs->l.map e=vs:=by
 intro l
 induction l with
 |nil=>intro vs h;cases h;rfl
 |cons x r ih=>
  intro vs h;simp only[rn]at h;split at h
  .rename_i v c;split at h
   .rename_i us a;cases h;simp[b _ _ c,ih a]
   .cases h
  .cases h
theorem GA{ev:Operand->Option Value}{e:Operand->Value}(b:∀x v,ev x=some v->e x=v):∀{l:List (Nat×Operand)} {vs:List (Nat×Value)},DR ev l=some vs->l.map (λp=>(p.1,e p.2))=vs:=by
 intro l
 induction l with
 |nil=>intro vs h;cases h;rfl
 |cons x r ih=>
  intro vs h;obtain⟨n,x⟩:=x;simp only[DR]at h;split at h
  .rename_i v c;split at h
   .rename_i us a;cases h;simp[b _ _ c,ih a]
   .cases h
  .cases h
theorem Hg(t:TypeId)(x y:Value):Op.equal t x y=Op.equalIn (9999+1) t x y:=rfl
theorem aeV{t:TypeId}(c:P.underlying t=some .bool)(d:Nat)(a b:Bool):aI P (Op.equalIn (d+1) t (.bool a) (.bool b)) (a==b):=λw=>by
 simp[Op.equalIn,underlying,c]
theorem agp{t e:TypeId}(b:P.underlying t=some (.pointer e))(d:Nat)(a:Option Addr):aI P (Op.equalIn (d+1) t (.pointer a) (.pointer none)) a.isNone:=λw=>by
 cases a<;>simp[Op.equalIn,underlying,b]
theorem abb{t e:TypeId}(f:P.underlying t=some (.slice e))(d:Nat)(a:Option Addr)(l c l' b:Nat):aI P (Op.equalIn (d+1) t (.slice a l c) (.slice none l' b)) a.isNone:=λw=>by
 cases a<;>simp[Op.equalIn,underlying,f]
theorem Uw{t:TypeId}{d:Option nV}{op:BinOp}{a b:Value}{x y:Operand}{K:Value->Prop}(o:∀q,d=some q->jv (P.underlying t)=q)
  (h:(aaY P t x y d op a b).holds K):∃v,aI P (do eqGuard op t x y a b;binOp op t a b) v/\K v:=by
 have j:∀{a b:Value},¬(a=.nilIface/\b=.nilIface)->(∀u v,¬(a=.agg u/\b=.agg v))->aI P (eqGuard op t x y a b) ():=by
  intro a b f i w;simp only[eqGuard];cases op<;>simp only[Bool.not_true,Bool.not_false,zh,if_true,if_false]<;>
   first
    |rfl
    |(split<;>first|exact absurd ⟨rfl,rfl⟩ f|exact absurd ⟨rfl,rfl⟩ (i _ _)|rfl)
 unfold aaY at h;split at h
 .rename_i k a m b;have g:=j (a:=.int k a) (b:=.int m b) (by simp) (by simp);cases op<;>simp only at h
  case shl=>exact⟨_,g.bind λw=>by simp only[binOp,Op.shift];rw[if_neg (by have:=h.1;omega)];rfl,h.2⟩
  case shr=>exact⟨_,g.bind λw=>by simp only[binOp,Op.shift];rw[if_neg (by have:=h.1;omega)];rfl,h.2⟩
  all_goals
   cases hk:BG k m with
   |false=>rw[hk]at h;simp[PV.holds]at h
   |true=>
    rw[hk]at h;simp only[cond_true,PV.holds]at h;have e:=Gz hk;subst e
    first
     |exact⟨_,g.bind λw=>by simp[binOp,Op.intArith,Op.intBits,Op.intCmp],h⟩
     |exact⟨_,g.bind λw=>by simp[binOp,Op.intDiv,h.1],h.2⟩
     |exact h.elim
 .rename_i k a m b;have g:=j (a:=.float k a) (b:=.float m b) (by simp) (by simp);cases hk:DP k m with
  |false=>rw[hk]at h;simp[PV.holds]at h
  |true=>
   rw[hk]at h;have e:=DQ hk;subst e;cases op<;>simp only[cond_true,PV.holds]at h<;>
    first
     |(obtain⟨r,f,i⟩:=h;exact⟨_,g.bind λw=>by simp[binOp,Op.floatArith,f],i⟩)
     |exact⟨_,g.bind λw=>by simp[binOp,Op.floatCmp],h⟩
     |exact h.elim
 .rename_i a b;have g:=j (a:=.string a) (b:=.string b) (by simp) (by simp);cases op<;>simp only[PV.holds]at h<;>
   first
    |exact⟨_,g.bind λw=>by simp[binOp,Op.stringOp],h⟩
    |exact⟨_,g.bind λw=>by simp only[binOp,Op.stringOp];rw[if_neg (by have:=h.1;omega)];rfl,h.2⟩
    |exact h.elim
 .rename_i a b;have g:=j (a:=.bool a) (b:=.bool b) (by simp) (by simp);split at h
  .have n:=aba (o _ rfl);cases op<;>simp only[PV.holds]at h<;>
    first
     |exact⟨_,g.bind (by simp only[binOp,Hg];exact(aeV n _ a b).bind .pure),h⟩
     |exact h.elim
  .exact h.elim
 .rename_i a b;cases hy:adx y with
  |true=>
   rw[hy]at h;obtain⟨r,f,i⟩:=h;exact⟨_,f,i⟩
  |false=>
   rw[hy]at h;cases b with
   |some _=>exact h.elim
   |none=>
    have g:=j (a:=.pointer a) (b:=.pointer none) (by simp) (by simp);simp only[cond_false]at h;split at h
    .rename_i e;have n:=aeU (o _ rfl);cases op<;>simp only[PV.holds]at h<;>
      first
       |exact⟨_,g.bind (by simp only[binOp,Hg];exact(agp n _ a).bind .pure),h⟩
       |exact h.elim
    .exact h.elim
 .rename_i a l c l' p;have g:=j (a:=.slice a l c) (b:=.slice none l' p) (by simp) (by simp);split at h
  .rename_i e;have n:=jV (o _ rfl);cases op<;>simp only[PV.holds]at h<;>
    first
     |exact⟨_,g.bind (by simp only[binOp,Hg];exact(abb n _ a l c l' p).bind .pure),h⟩
     |exact h.elim
  .exact h.elim
 .obtain⟨r,f,i⟩:=h;exact⟨_,f,i⟩
 .split at h
  .obtain⟨r,f,i⟩:=h;exact⟨_,f,i⟩
  .obtain⟨r,f,i⟩:=h;exact⟨_,f,i⟩
  .obtain⟨r,f,i⟩:=h;exact⟨_,f,i⟩
 .exact h.elim
theorem Ux{t:TypeId}{d:Option nV}{op:BinOp}{a b:Value}{x y:Operand}{K:Value->Prop}(e:∀q,d=some q->jv (P.underlying t)=q)
  (h:(aaZ P t x y d op a b).holds K):∃v,aI P (do eqGuard op t x y a b;binOp op t a b) v/\K v:=by
 unfold aaZ at h;split at h
 .obtain⟨r,c,f⟩:=h;exact⟨_,c,f⟩
 .exact Uw e h
theorem NP(a:List Value)(off n:Nat):((a.drop off).take n).toArray=(a.toArray).extract off (off+n):=by apply yI;simp[List.extract_eq_take_drop]
variable {e:Operand->Value}
section
variable {C:BH} {ev:Operand->Option Value}
theorem ux(b:C.Ok):∀{a:List Field} {ps:List (Nat×Nat)},placesOf C.T (a.map λf=>(f.offset,f.type))=some ps->
  aI C.P (a.mapM λf=>(do pure (f.offset,<-sizeOf f.type):Sem (Nat×Nat))) ps
 |[],ps,h=>by cases h;exact .pure
 |f::r,ps,h=>by
  simp only[List.map_cons,placesOf]at h;split at h
  .rename_i j c;split at h
   .rename_i e d;cases h;rw[List.mapM_cons];exact aI.bind ((eK b c).bind .pure) ((ux b d).bind .pure)
   .cases h
  .cases h
theorem GB(h:C.Ok){t:TypeId}{j:TI}(c:C.T.get t=some j)(b:∀f,j.cD≠.struct f)(g:∀n e,j.cD≠.array n e)(h3:j.cD≠.other)
  {a:Array Value} {off:Nat} {v:Value} (d:a[off]?=some v):aI C.P (part t a off) v:=by
 refine((lH h c).2.2 b g h3).bind ?_;rw[d];exact .pure
theorem NQ(c:C.Ok){t:TypeId}{j:TI}(a:C.T.get t=some j)(h:(∃b,j.cD=.struct b)∨∃n e,j.cD=.array n e)
  {d:Array Value} {off:Nat}:aI C.P (part t d off) (.agg (d.extract off (off+j.size))):=by
 have f:aI C.P (isAgg t) true:=by
  rcases h with⟨b,h⟩|⟨n,e,h⟩
  .exact(lH c a).1 b h
  .exact(lH c a).2.1 n e h
 exact f.bind ((eK c a).bind .pure)
theorem Iu(J:C.Ok)(G:∀x v,ev x=some v->e x=v){o:Oper}{K:Value->Prop}(h:(BI C.P C.T o.op ev).holds K):
  ∃v,sJ C.P (execOp e o) v/\K v:=by
 have M:∀t q,(C.T.get t).map (·.cD)=some q->jv (C.P.underlying t)=q:=λt q h=>by
  cases F:C.T.get t with
  |none=>rw[F]at h;cases h
  |some i=>rw[F]at h;cases h;exact J.cD F
 cases hop:o.op<;>rw[hop]at h<;>simp only[BI]at h<;>simp only[execOp,hop]
 case move x=>
  split at h
  .rename_i v A;rw[G _ _ A];exact⟨v,λ_=>rfl,h⟩
  .exact h.elim
 case assign x=>
  split at h
  .rename_i v A;rw[G _ _ A];exact⟨v,λ_=>rfl,h⟩
  .exact h.elim
 case pick c a b=>
  split at h
  .rename_i t x y N h2 h3;rw[G _ _ N,G _ _ h2,G _ _ h3];cases t
   .exact⟨y,λ_=>rfl,h⟩
   .exact⟨x,λ_=>rfl,h⟩
  .exact h.elim
 case nilCheck x=>
  split at h
  .rename_i p hp;obtain⟨a,rfl,B⟩:=h;rw[G _ _ hp];exact⟨_,λ_=>rfl,B⟩
  .exact h.elim
 case fieldAddr s x f=>
  split at h
  .rename_i a ha;rw[G _ _ ha];split at h
   .rename_i i F;split at h
    .rename_i fs Y;split at h
     .rename_i off t ad;split at h
      .rename_i j R;cases hz:wO j.size 0 with
       |true=>rw[hz]at h;exact h.elim
       |false=>
        rw[hz]at h;have E:=J.cD F;rw[Y]at E;obtain⟨gs,hg,rfl⟩:=pz E;simp only[qO,vh]at ad;obtain⟨g,ay,a0⟩:=ad;cases a0;refine⟨_,aI.next ((aF hg).bind ?_),h⟩;have ab:gs[f]?=some g:=by simpa using ay
        simp only[ab];refine aI.bind (v:=a) .pure (aI.bind (v:=a.add g.offset) ?_ .pure);unfold fieldPlace;refine(eK J R).bind ?_;have:j.size≠0:=λe=>by rw[e]at hz;cases hz
        rw[if_neg this];exact .pure
      .exact h.elim
     .exact h.elim
    .exact h.elim
   .exact h.elim
  .exact h.elim
 case indexAddr t x ix=>
  split at h
  .rename_i k n hn;rw[G _ _ hn];split at h
   .rename_i p len cap S;rw[G _ _ S];split at h
    .rename_i i F;split at h
     .rename_i el D;split at h
      .rename_i j R;obtain⟨a,⟨rfl,h0,N⟩,B⟩:=h;have E:=J.cD F;rw[D]at E;have H:=jV E;refine⟨_,aI.next ?_,B⟩;unfold Instr.indexAt;refine aI.bind (v:=(k,n)) .pure ?_;refine(aF H).bind ?_;refine aI.bind (v:=(some a,len,el)) .pure ?_;intro w;have:=eK J R w;simp only[Sem.run_bind,aF H w,Result.andThen_ok];cases hl:decide (len<=1)<;>simp[h0,N,this]
      .exact h.elim
     .exact h.elim
    .exact h.elim
   .rename_i a S;rw[G _ _ S];split at h
    .rename_i i F;split at h
     .rename_i m el D;split at h
      .rename_i j R;obtain⟨⟨h0,N⟩,B⟩:=h;have E:=J.cD F;rw[D]at E;have H:=sK E;refine⟨_,aI.next ?_,B⟩;unfold Instr.indexAt;refine aI.bind (v:=(k,n)) .pure ?_;refine(aF H).bind ?_;refine aI.bind (v:=(some a,m,el)) .pure ?_;intro w;have:=eK J R w;simp only[Sem.run_bind,aF H w,Result.andThen_ok];cases hl:decide (m<=1)<;>simp[h0,N,this]
      .exact h.elim
     .exact h.elim
    .exact h.elim
   .exact h.elim
  .exact h.elim
 case index t x ix=>
  split at h
  .rename_i k n hn;rw[G _ _ hn];split at h
   .rename_i s S;rw[G _ _ S];split at h
    .rename_i i F;split at h
     .rename_i D;obtain⟨b,⟨h0,N⟩,B⟩:=h;have E:=J.cD F;rw[D]at E;have H:=ul E;refine⟨_,aI.next ?_,B⟩;unfold Instr.index;refine aI.bind (v:=(k,n)) .pure ?_;refine(aF H).bind ?_;have hb:s[n.toNat]?=some b:=by rw[Array.getElem?_eq_some_iff]at N;obtain⟨a8,hg⟩:=N;have a4:n.toNat<s.size:=a8;rw[getElem?_pos s n.toNat a4];exact congrArg some hg
      simp only[h0,if_true,hb];exact .pure
     .exact h.elim
    .exact h.elim
   .rename_i cs S;rw[G _ _ S];split at h
    .rename_i i F;split at h
     .rename_i m el D;split at h
      .rename_i j R;split at h
       .rename_i s hs;have E:=J.cD F;rw[D]at E;have H:=sK E;have al:(∃y,(0<=n/\n<(m:Int)/\cs[n.toNat]?=some (s.enc y))/\K (s.enc y))->(∀fs,j.cD≠.struct fs)->(∀n e,j.cD≠.array n e)->j.cD≠.other->j.size=1->
          ∃v,sJ C.P (do pure (.value (<-Instr.index t (.agg cs) (.int k n)))) v/\K v:=by
         rintro⟨y,⟨h0,N,h2⟩,B⟩ d1 d2 d3 a6;refine⟨_,aI.next ?_,B⟩;unfold Instr.index;refine aI.bind (v:=(k,n)) .pure ?_;refine(aF H).bind ?_;simp only[h0,N,and_self,if_true];refine(eK J R).bind ?_;rw[a6,Nat.mul_one];exact GB J R d1 d2 d3 h2
        split at h
        .exact h.elim
        .exact h.elim
        .exact h.elim
        .rename_i d1 d2 d3;cases hz:wO j.size 1 with
         |false=>rw[hz]at h;exact h.elim
         |true=>
          rw[hz]at h;exact al h d1 d2 d3 (zP hz)
       .exact h.elim
      .exact h.elim
     .exact h.elim
    .exact h.elim
   .exact h.elim
  .exact h.elim
 case field s x f=>
  split at h
  .rename_i cs S;rw[G _ _ S];split at h
   .rename_i i F;split at h
    .rename_i fs Y;split at h
     .rename_i off t ad;split at h
      .rename_i j R;have E:=J.cD F;rw[Y]at E;obtain⟨gs,hg,rfl⟩:=pz E;simp only[qO,vh]at ad;obtain⟨g,ay,a0⟩:=ad;cases a0;have ab:gs[f]?=some g:=by simpa using ay
       have al:∀v,aI C.P (part g.type ⟨cs⟩ g.offset) v->K v->∃v,sJ C.P (do pure (.value (<-Instr.field s (.agg ⟨cs⟩) f))) v/\K v:=by intro v A B;refine⟨v,aI.next ((aF hg).bind ?_),B⟩;simp only[ab];exact aI.bind (v:=(⟨cs⟩:Array Value)) .pure A
       split at h
       .rename_i bq ap;refine al _ (NQ J R (.inl ⟨_,ap⟩)) ?_;rw[<-NP];exact h
       .rename_i n' e' ap;refine al _ (NQ J R (.inr ⟨_,_,ap⟩)) ?_;rw[<-NP];exact h
       .exact h.elim
       .rename_i d1 d2 d3;split at h
        .rename_i v A;exact al v (GB J R d1 d2 d3 (by simpa using A)) h
        .exact h.elim
      .exact h.elim
     .exact h.elim
    .exact h.elim
   .exact h.elim
  .exact h.elim
 case slice t x W hi0 mx=>
  split at h
  .exact h.elim
  .split at h
   .rename_i l r hl hr;have ax:(W=none/\l=none)∨∃y k m,W=some y/\e y=.int k m/\l=some m:=by
     cases W with
     |none=>cases hl;exact .inl ⟨rfl,rfl⟩
     |some y=>
      simp only[It]at hl;split at hl
      .rename_i k m hm;cases hl;exact .inr ⟨y,k,m,rfl,G _ _ hm,rfl⟩
      .cases hl
    have ao:(hi0=none/\r=none)∨∃y k m,hi0=some y/\e y=.int k m/\r=some m:=by
     cases hi0 with
     |none=>cases hr;exact .inl ⟨rfl,rfl⟩
     |some y=>
      simp only[It]at hr;split at hr
      .rename_i k m hm;cases hr;exact .inr ⟨y,k,m,rfl,G _ _ hm,rfl⟩
      .cases hr
    have I:∀(bb:Bool) (len cap:Nat) (W F:Option Value) (a b:Nat),(W=none->a=0)->(∀v,W=some v->∃k m,v=.int k m/\0<=m/\a=m.toNat/\m<=(b:Int))->
      (F=none->b=len)->(∀v,F=some v->∃k m,v=.int k m/\0<=m/\b=m.toNat/\m<=(cap:Int))->
      aI C.P (wo bb len cap W F none) (a,b,cap):=by
     intro bb len cap W F a b N h2 h3 h4 w;cases F with
     |none=>
      have e1:=h3 rfl;subst e1;cases W with
      |none=>rw[N rfl];simp[wo]
      |some v=>
       obtain⟨k,m,rfl,x1,rfl,x2⟩:=h2 v rfl;simp[wo,vC,asIntOf,x1,x2]
     |some u=>
      obtain⟨k',V,rfl,y1,rfl,y2⟩:=h4 u rfl;cases W with
      |none=>rw[N rfl];simp[wo,vC,asIntOf,y1,y2]
      |some v=>
       obtain⟨k,m,rfl,x1,rfl,x2⟩:=h2 v rfl;have x3:¬max V 0<m:=by omega
       simp[wo,vC,asIntOf,x1,y1,y2,x3]
    split at h
    .rename_i p len cap S;rw[G _ _ S];split at h
     .rename_i i F;split at h
      .rename_i el D;split at h
       .rename_i j R;have E:=J.cD F;rw[D]at E;have H:=jV E;have fin:∀(a b:Nat) (v:Value),aI C.P (wo true len cap (W.map e) (hi0.map e) none) (a,b,cap)->
          v=.slice (if cap=a then p else p.map (·.add (a*j.size))) (b-a) (cap-a)->K v->
          ∃v,sJ C.P (do pure (.value (<-w5 t (.slice p len cap) (W.map e) (hi0.map e) (Option.map e none)))) v/\K v:=by
         intro a b v hb A B;refine⟨v,aI.next ?_,B⟩;unfold w5;refine(aF H).bind ?_;simp only[xn,Option.map_none];refine(aF H).bind ?_;refine hb.bind ?_;subst A;exact(eK J R).bind .pure
        have ah:(if cap=0 then p else p.map (·.add (0*j.size)))=p:=by
         cases p<;>simp[Addr.add]
        rcases ax with⟨rfl,rfl⟩|⟨y,k,m,rfl,hy,rfl⟩<;>rcases ao with⟨rfl,rfl⟩|⟨y',k',V,rfl,hy',rfl⟩
        .exact fin 0 len _ (I _ _ _ _ _ _ _ (λ_=>rfl) (by simp) (λ_=>rfl) (by simp)) (by rw[ah];rfl) h
        .obtain⟨⟨U,Z⟩,B⟩:=h;exact fin 0 V.toNat _ (I _ _ _ _ _ _ _ (λ_=>rfl) (by simp) (by simp) λv A=>by cases A;exact⟨k',V,hy',U,rfl,Z⟩) (by rw[ah];rfl) B
        .obtain⟨⟨U,Z⟩,B⟩:=h;exact fin m.toNat len _ (I _ _ _ _ _ _ _ (by simp) (λv A=>by cases A;exact⟨k,m,hy,U,rfl,Z⟩) (λ_=>rfl) (by simp)) rfl B
        .obtain⟨⟨U,Z,a3⟩,B⟩:=h;exact fin m.toNat V.toNat _ (I _ _ _ _ _ _ _ (by simp) (λv A=>by cases A;exact⟨k,m,hy,U,rfl,by omega⟩) (by simp) λv A=>by cases A;exact⟨k',V,hy',by omega,rfl,a3⟩) rfl B
       .exact h.elim
      .exact h.elim
     .exact h.elim
    .rename_i s S;rw[G _ _ S];split at h
     .rename_i i F;split at h
      .rename_i D;have E:=J.cD F;rw[D]at E;have H:=ul E;have fin:∀(a b:Nat) (v:Value),aI C.P (wo false s.size s.size (W.map e) (hi0.map e) none) (a,b,s.size)->
         v=.string (s.extract a b)->K v->
         ∃v,sJ C.P (do pure (.value (<-w5 t (.string s) (W.map e) (hi0.map e) (Option.map e none)))) v/\K v:=by
        intro a b v hb A B;refine⟨v,aI.next ?_,B⟩;unfold w5;refine(aF H).bind ?_;simp only[xn,Option.map_none];refine(aF H).bind ?_;subst A;intro w;simp[hb w]
       rcases ax with⟨rfl,rfl⟩|⟨y,k,m,rfl,hy,rfl⟩<;>rcases ao with⟨rfl,rfl⟩|⟨y',k',V,rfl,hy',rfl⟩
       .exact fin 0 s.size _ (I _ _ _ _ _ _ _ (λ_=>rfl) (by simp) (λ_=>rfl) (by simp)) rfl h
       .obtain⟨⟨U,Z⟩,B⟩:=h;exact fin 0 V.toNat _ (I _ _ _ _ _ _ _ (λ_=>rfl) (by simp) (by simp) λv A=>by cases A;exact⟨k',V,hy',U,rfl,Z⟩) rfl B
       .obtain⟨⟨U,Z⟩,B⟩:=h;exact fin m.toNat s.size _ (I _ _ _ _ _ _ _ (by simp) (λv A=>by cases A;exact⟨k,m,hy,U,rfl,Z⟩) (λ_=>rfl) (by simp)) rfl B
       .obtain⟨⟨U,Z,a3⟩,B⟩:=h;exact fin m.toNat V.toNat _ (I _ _ _ _ _ _ _ (by simp) (λv A=>by cases A;exact⟨k,m,hy,U,rfl,by omega⟩) (by simp) λv A=>by cases A;exact⟨k',V,hy',by omega,rfl,a3⟩) rfl B
      .exact h.elim
     .exact h.elim
    .rename_i a S;rw[G _ _ S];split at h
     .rename_i i F;split at h
      .rename_i n el D;split at h
       .rename_i j R;have E:=J.cD F;rw[D]at E;have H:=sK E;have fin:∀(a' b:Nat) (v:Value),aI C.P (wo false n n (W.map e) (hi0.map e) none) (a',b,n)->
          v=.slice (some (if n=a' then a else a.add (a'*j.size))) (b-a') (n-a')->K v->
          ∃v,sJ C.P (do pure (.value (<-w5 t (.pointer (some a)) (W.map e) (hi0.map e) (Option.map e none)))) v/\K v:=by
         intro a' b v hb A B;refine⟨v,aI.next ?_,B⟩;unfold w5;refine(aF H).bind ?_;simp only[Option.map_none];refine aI.bind (v:=a) .pure ?_;refine hb.bind ?_;subst A;exact(eK J R).bind .pure
        have ah:(if n=0 then a else a.add (0*j.size))=a:=by simp[Addr.add]
        rcases ax with⟨rfl,rfl⟩|⟨y,k,m,rfl,hy,rfl⟩<;>rcases ao with⟨rfl,rfl⟩|⟨y',k',V,rfl,hy',rfl⟩
        .exact fin 0 n _ (I _ _ _ _ _ _ _ (λ_=>rfl) (by simp) (λ_=>rfl) (by simp)) (by rw[ah];rfl) h
        .obtain⟨⟨U,Z⟩,B⟩:=h;exact fin 0 V.toNat _ (I _ _ _ _ _ _ _ (λ_=>rfl) (by simp) (by simp) λv A=>by cases A;exact⟨k',V,hy',U,rfl,Z⟩) (by rw[ah];rfl) B
        .obtain⟨⟨U,Z⟩,B⟩:=h;exact fin m.toNat n _ (I _ _ _ _ _ _ _ (by simp) (λv A=>by cases A;exact⟨k,m,hy,U,rfl,Z⟩) (λ_=>rfl) (by simp)) rfl B
        .obtain⟨⟨U,Z,a3⟩,B⟩:=h;exact fin m.toNat V.toNat _ (I _ _ _ _ _ _ _ (by simp) (λv A=>by cases A;exact⟨k,m,hy,U,rfl,by omega⟩) (by simp) λv A=>by cases A;exact⟨k',V,hy',by omega,rfl,a3⟩) rfl B
       .exact h.elim
      .exact h.elim
     .exact h.elim
    .exact h.elim
   .exact h.elim
 case extract x n=>
  split at h
  .rename_i vs S;rw[G _ _ S];split at h
   .rename_i v A;refine⟨v,aI.next ?_,h⟩;have:(⟨vs⟩:Array Value)[n]?=some v:=by simpa using A
    simp only[Instr.extract,this];exact .pure
   .exact h.elim
  .exact h.elim
 case binOp op t x y u=>
  split at h
  .rename_i a b ha hb;rw[G _ _ ha,G _ _ hb];obtain⟨v,A,B⟩:=Ux (P:=C.P) (x:=x) (y:=y) (M t) h;exact⟨v,A.next,B⟩
  .exact h.elim
 case unOp op t x=>
  split at h
  .rename_i v A;rw[G _ _ A];unfold unV at h;split at h
   .split at h
    .exact⟨_,aI.next .pure,h⟩
    .exact h.elim
   .split at h
    .exact⟨_,aI.next .pure,h⟩
    .exact⟨_,aI.next .pure,h⟩
    .exact h.elim
   .exact h.elim
  .exact h.elim
 case convert s d x=>
  split at h
  .rename_i v ks A bl;rw[G _ _ A];have hs:=FM (M _ _ bl);unfold ady at h;split at h
   .split at h
    .rename_i n _ k B;have H:=FM (M _ _ B);refine⟨_,aI.next ?_,h⟩;unfold convert;refine(aF hs).bind ((aF H).bind ?_);exact .pure
    .exact h.elim
   .exact h.elim
  .exact h.elim
 case build t parts=>
  split at h
  .rename_i vs bk;have hp:(parts.map λ(i,x)=>(i,e x)).toList=vs:=by have:=GA G bk;simpa using this
   split at h
   .rename_i i F;obtain⟨z,hz,a9⟩:=su J F;have am:i.zero.toArray=z.cells:=by rw[<-a9]
    cases hbig:xi 24 i.size with
    |true=>
     rw[hbig]at h;obtain⟨v,A,B⟩:=h;have a5:(parts.map λ(i,x)=>(i,e x))=vs.toArray:=by rw[<-hp]
     refine⟨v,aI.next ?_,B⟩;show aI C.P (xm t (parts.map λ(i,x)=>(i,e x))) v;rw[a5];exact A
    |false=>
    rw[hbig]at h;simp only[cond_false]at h;split at h
    .rename_i fs Y;have E:=J.cD F;rw[Y]at E;obtain⟨gs,hg,rfl⟩:=pz E;split at h
     .rename_i ps a7;split at h
      .rename_i cells Q;refine⟨_,aI.next (hz.bind ((aF hg).bind ?_)),h⟩;have bd:aI C.P (gs.mapM λf=>(do pure (f.offset,<-sizeOf f.type):Sem (Nat×Nat))) ps.toArray:=by rw[vJ];intro w;have:=ux J a7 w;rw[map_eq_pure_bind,Sem.run_bind,this];rfl
       refine bd.bind ?_;have ar:wK (λn=>ps.toArray[n]?) z.cells (parts.map λ(i,x)=>(i,e x)).toList=some cells:=by rw[hp,<-am];simpa using Q
       rw[ar];exact .pure
      .exact h.elim
     .exact h.elim
    .rename_i n el Y;have E:=J.cD F;rw[Y]at E;have H:=sK E;split at h
     .rename_i j R;split at h
      .rename_i cells Q;refine⟨_,aI.next (hz.bind ((aF H).bind ((eK J R).bind ?_))),h⟩;have ar:wK (λi=>some (i*j.size,j.size)) z.cells (parts.map λ(i,x)=>(i,e x)).toList=some cells:=by rw[hp,<-am];exact Q
       rw[ar];exact .pure
      .exact h.elim
     .exact h.elim
    .exact h.elim
   .exact h.elim
  .exact h.elim
 case makeFunc fn first captured=>
  split at h
  .rename_i a b ha hb;have N:first.map e=a.toArray:=by apply yI;simpa using Ch G ha
   have h2:captured.map e=b.toArray:=by apply yI;simpa using Ch G hb
   refine⟨_,aI.next ?_,h⟩;rw[N,h2];exact .pure
  .exact h.elim
 case call c=>
  split at h
  .rename_i b hb;have L:∀{v:Value},aI C.P (builtin b c.argTypes o.type (c.args.map λ| .const _=>true|_=>false) (c.args.map e)) (.value v)->
     sJ C.P (do let d<-resolve e c o.type;invoke d.target d.args) v:=by
    intro v A w;have:=A w;unfold resolve;rw[hb];exact this
   have O:∀{vs:List Value},rn ev c.args.toList=some vs->c.args.map e=vs.toArray:=λA=>by
    apply yI;simpa using Ch G A
   have X:∀{s:Sem Value} {v:Value},aI C.P s v->aI C.P (do pure (Next.value (<-s))) (.value v):=λhs=>hs.bind .pure;split at h
   case h_1=>
    split at h
    .rename_i t ts x N h2;split at h
     .rename_i v A;have ha:c.args.map e=#[v]:=by apply yI;rw[xf,h2];simp[G _ _ A]
      have ht:c.argTypes[0]?=some t:=by rw[<-vp,N];rfl
      unfold agn at h;split at h
      .rename_i p n cap;split at h
       .rename_i el D;have H:=jV (M _ _ D);refine⟨_,L ?_,h⟩;rw[ha];refine X ?_;intro w;simp[xE,ht,underlying,H,goInt]
       .exact h.elim
      .rename_i s;split at h
       .rename_i D;have H:=ul (M _ _ D);refine⟨_,L ?_,h⟩;rw[ha];refine X ?_;intro w;simp[xE,ht,underlying,H,goInt]
       .exact h.elim
      .exact h.elim
     .exact h.elim
    .exact h.elim
   case h_2=>
    split at h
    .rename_i t ts x N h2;split at h
     .rename_i v A;have ha:c.args.map e=#[v]:=by apply yI;rw[xf,h2];simp[G _ _ A]
      have ht:c.argTypes[0]?=some t:=by rw[<-vp,N];rfl
      unfold ago at h;split at h
      .rename_i p n cap;split at h
       .rename_i el D;have H:=jV (M _ _ D);refine⟨_,L ?_,h⟩;rw[ha];refine X ?_;intro w;simp[Builtin.cap_,ht,underlying,H,goInt]
       .exact h.elim
      .exact h.elim
     .exact h.elim
    .exact h.elim
   case h_3=>
    split at h
    .rename_i k a k' b A;refine⟨_,L ?_,h⟩;rw[O A];refine X ?_;intro w;simp[Builtin.min_,Builtin.min2]
    .exact h.elim
   case h_4=>
    split at h
    .rename_i k a k' b A;refine⟨_,L ?_,h⟩;rw[O A];refine X ?_;intro w;simp[Builtin.max_,Builtin.max2]
    .exact h.elim
   case h_5=>
    split at h
    .rename_i k a b A;refine⟨_,L ?_,h⟩;rw[O A];exact X .pure
    .exact h.elim
   case h_6=>
    split at h
    .rename_i k a b A;refine⟨_,L ?_,h⟩;rw[O A];exact X .pure
    .exact h.elim
   all_goals exact h.elim
  .exact h.elim
 all_goals exact h.elim
end
def bj(h:Heap)(a:Addr):Nat->List Value->Prop
 |_,[]=>True
 |n,v::r=>cellOf h (a.add n)=some v/\bj h a (n+1) r
structure Ak where
 a:Addr
 ty:Ty
 n:Nat
def Ak.holds(r:Ak)(h:Heap)(y:r.ty.den):Prop:=
 match r.ty,y with
 | .sc s,y=>cellOf h r.a=some (s.enc y)
 | .agg l,y=>bj h r.a 0 (nX l y)
 | .arr s,y=>y.length=r.n/\bj h r.a 0 (y.map s.enc)
def uy(T:kL)(op:Op)(ev:Operand->Option Value):Option Ak:=
 match op with
 | .load t x=>match ev x with
  |some (.pointer (some a))=>match T.get t with
   |some i=>match i.cD with
    | .struct _=>match i.ty with
     | .agg l=>bif wO l.length i.size then some ⟨a,i.ty,i.size⟩else none
     |_=>none
    | .array _ _=>match i.ty with
     | .arr _=>some ⟨a,i.ty,i.size⟩
     |_=>none
    | .other=>none
    |_=>match i.ty with
     | .sc _=>some ⟨a,i.ty,1⟩
     |_=>none
   |none=>none
  |_=>none
 |_=>none
theorem GC:∀(l:List Sc) (x:AZ l),(nX l x).length=l.length
 |[],_=>rfl
 |[_],_=>rfl
 |_::t::r,x=>by simp only[nX,za];rw[GC (t::r) x.2];rfl
theorem run_loadCells{P:Program}{w:World}{a:Addr}:∀(vs:List Value) (i:Nat) (b:Array Value),bj w.heap a i vs->
  (loadCellsFrom a i vs.length b).run P w=.ok (b++vs.toArray) w
 |[],i,b,_=>by simp[loadCellsFrom]
 |v::r,i,b,h=>by
  simp only[za,loadCellsFrom,Sem.run_bind,run_load,Kq,h.1,Result.andThen_ok];rw[run_loadCells r (i+1) (b.push v) h.2];simp
theorem Ci{C:BH}(m:C.Ok){ev:Operand->Option Value}{e:Operand->Value}(F:∀x v,ev x=some v->e x=v){o:Oper}{r:Ak}
  (b:uy C.T o.op ev=some r) {y:r.ty.den} {w:World} (d:r.holds w.heap y):(execOp e o).run C.P w=.ok (.value (r.ty.enc y)) w:=by
 unfold uy at b;split at b
 .rename_i t x u;simp only[execOp,u];split at b
  .rename_i a D;rw[F _ _ D];split at b
   .rename_i i k;have h:(∀v,(loadVar t a).run C.P w=.ok v w->(do let s<-xt t (.pointer (some a));pure (Next.value s):Sem Next).run C.P w=.ok (.value v) w):=by intro v E;have:xt t (.pointer (some a))=loadVar t a:=rfl;rw[this,Sem.run_bind,E];rfl
    split at b
    .rename_i H g;split at b
     .rename_i l f;cases hb:wO l.length i.size with
      |false=>rw[hb]at b;cases b
      |true=>
       rw[hb]at b;simp only[cond_true,zX.injEq]at b;subst b;have p:=zP hb;have c:∀(ty:Ty) (y:ty.den),ty=.agg l->Ak.holds ⟨a,ty,i.size⟩ w.heap y->(loadVar t a).run C.P w=.ok (ty.enc y) w:=by rintro ty y rfl d;unfold loadVar;rw[Sem.run_bind,(lH m k).1 H g w];simp only[Result.andThen_ok,if_true,Sem.run_bind,eK m k w];have j:=run_loadCells (P:=C.P) (w:=w) (a:=a) (nX l y) 0 #[] d;rw[GC,p]at j;unfold loadCells;rw[j];simp
       exact h _ (c i.ty y f d)
     .cases b
    .rename_i n B g;split at b
     .rename_i s f;cases b;have c:∀(ty:Ty) (y:ty.den),ty=.arr s->Ak.holds ⟨a,ty,i.size⟩ w.heap y->(loadVar t a).run C.P w=.ok (ty.enc y) w:=by rintro ty y rfl ⟨f,d⟩;unfold loadVar;rw[Sem.run_bind,(lH m k).2.1 n B g w];simp only[Result.andThen_ok,if_true,Sem.run_bind,eK m k w];have j:=run_loadCells (P:=C.P) (w:=w) (a:=a) (y.map s.enc) 0 #[] d;rw[List.length_map,f]at j;unfold loadCells;rw[j];simp
      exact h _ (c i.ty y f d)
     .cases b
    .cases b
    .rename_i G z A;split at b
     .rename_i s f;cases b;have c:∀(ty:Ty) (y:ty.den),ty=.sc s->Ak.holds ⟨a,ty,1⟩ w.heap y->(loadVar t a).run C.P w=.ok (ty.enc y) w:=by rintro ty y rfl d;have q:cellOf w.heap a=some (s.enc y):=d;unfold loadVar;rw[Sem.run_bind,(lH m k).2.2 G z A w];simp[Kq,q]
      exact h _ (c i.ty y f d)
     .cases b
   .cases b
  .cases b
 .cases b
def Typed(t:Ty)(K:Value->Heap->Prop)(v:Value)(h:Heap):Prop:=∃x:t.den,v=t.enc x/\K (t.enc x) h
def Iv(t:Rt)(K:Value->Heap->Prop)(v:Value)(h:Heap):Prop:=∃x:t.den,v=t.enc x/\K (t.enc x) h
def Iw(K:Value->Heap->Prop)(v:Value)(h:Heap):Prop:=∃a:Addr,v=.pointer (some a)/\K (.pointer (some a)) h
def agq(T:kL)(t:TypeId)(tup:List (TypeId×List Ty)):Option Rt:=
 match tup.find? (λp=>wO p.1 t)with
 |some p=>some (.many p.2)
 |none=>match T.get t with
  |some i=>some (.one i.ty)
  |none=>none
structure Ctx extends BH where
 tup:List (TypeId×List Ty)
 fns:List Bool
structure Ctx.Ok (C:Ctx):Prop extends BH.Ok C.toBH where
 fns:(C.P.funcs.toList.map λf=>!(f.name== "runtime.NumGoroutine")&&f.body.isSome)=C.fns
def Uy(C:Ctx)(g:FuncId)(args:List Value)(t:TypeId)(K:Value->Heap->Prop)(h:Heap):Prop:=
 match C.fns[g]? with
 |some true=>match agq C.T t C.tup with
  |some r=>ai C.P g args.toArray h (Iv r K)
  |none=>False
 |_=>False
def Ix(C:Ctx)(o:Oper)(ev:Operand->Option Value)(K:Value->Heap->Prop)(h:Heap):Prop:=
 match o.op with
 | .store t a x=>match ev a,ev x with
  |some p,some v=>au C.P (qH t p v) h λ_ h'=>K undef h'
  |_,_=>False
 | .alloc t=>au C.P (yQ t true (.tuple #[])) h (Iw K)
 | .box t x=>match ev x with
  |some v=>au C.P (vD t v) h (Iw K)
  |none=>False
 | .makeSlice t l c=>match ev l,ev c with
  |some l,some c=>au C.P (zD t l c) h (Typed (.sc .slc) K)
  |_,_=>False
 | .buildSlice t n parts=>match DR ev parts.toList with
  |some ps=>au C.P (zO t n ps.toArray) h (Typed (.sc .slc) K)
  |none=>False
 | .makeMap t none=>au C.P (xj t none) h (Typed (.sc .mp) K)
 | .lookup t x ix ok=>match ev x,ev ix,agq C.T o.type C.tup with
  |some m,some k,some r=>au C.P (xF t m k ok) h (Iv r K)
  |_,_,_=>False
 | .mapUpdate t m k x=>match ev m,ev k,ev x with
  |some m,some k,some v=>au C.P (yZ t m k v) h λ_ h'=>K undef h'
  |_,_,_=>False
 | .insert t m k x=>match ev m,ev k,ev x with
  |some m,some k,some v=>au C.P (yZ t m k v) h λ_ h'=>K undef h'
  |_,_,_=>False
 | .convert s d x=>match ev x,C.T.get o.type with
  |some v,some i=>au C.P (convert s d v) h (Typed i.ty K)
  |_,_=>False
 | .binOp op t x y _=>match ev x,ev y,C.T.get o.type with
  |some a,some b,some i=>au C.P (do eqGuard op t x y a b;binOp op t a b) h (Typed i.ty K)
  |some a,some b,none=>au C.P (do eqGuard op t x y a b;binOp op t a b) h (Typed (.sc .bool) K)
  |_,_,_=>False
 | .slice t x lo hi mx=>match optVal ev lo,optVal ev hi,optVal ev mx,ev x with
  |some l,some r,some m,some v=>au C.P (w5 t v l r m) h (Typed (.sc .slc) K)
  |_,_,_,_=>False
 | .call c=>match c.callee with
  | .builtin .append=>match rn ev c.args.toList with
   |some vs=>au C.P (zA c.argTypes o.type vs.toArray) h (Typed (.sc .slc) K)
   |none=>False
  | .builtin .copy=>match rn ev c.args.toList with
   |some vs=>au C.P (yh c.argTypes o.type vs.toArray) h (Typed (.sc (.int .i64)) K)
   |none=>False
  | .builtin .clear=>match rn ev c.args.toList with
   |some vs=>au C.P (vS c.argTypes o.type vs.toArray) h K
   |none=>False
  | .builtin .len=>match rn ev c.args.toList with
   |some vs=>au C.P (xE c.argTypes o.type vs.toArray) h (Typed (.sc (.int .i64)) K)
   |none=>False
  | .builtin .unsafeString=>match rn ev c.args.toList with
   |some vs=>au C.P (Builtin.unsafeString_ c.argTypes o.type vs.toArray) h (Typed (.sc .str) K)
   |none=>False
  | .builtin .delete=>match rn ev c.args.toList with
   |some vs=>au C.P (Builtin.delete_ c.argTypes o.type vs.toArray) h K
   |none=>False
  | .value f=>match ev f,rn ev c.args.toList with
   |some (.func (.func g) ⟨first⟩ ⟨caps⟩),some vs=>Uy C g (first++vs++caps) o.type K h
   |_,_=>False
  |_=>False
 |_=>False
where
 optVal (ev:Operand->Option Value):Option Operand->Option (Option Value)
  |none=>some none
  |some x=>match ev x with
   |some v=>some (some v)
   |none=>none
variable {K:Value->Heap->Prop}
theorem gE{s:Sem Value}(b:au P s h K):BF P (do pure (.value (<-s))) h K:=
 au.bind (b.mono λ_ _ a=>au.pure' a)
theorem Hj{s:Sem Unit}(b:au P s h λ_ h'=>K undef h'):BF P (do s;pure .skip) h K:=
 au.bind (b.mono λ_ _ a=>au.pure' a)
theorem Typed.out{t:Ty}{v:Value}{h:Heap}(x:Typed t K v h):K v h:=by obtain⟨y,rfl,a⟩:=x;exact a
theorem Iv.out{t:Rt}{v:Value}{h:Heap}(x:Iv t K v h):K v h:=by obtain⟨y,rfl,a⟩:=x;exact a
theorem Iw.out{v:Value}{h:Heap}(x:Iw K v h):K v h:=by obtain⟨y,rfl,a⟩:=x;exact a
theorem Rp{C:Ctx}(e:C.Ok){g:FuncId}{args:List Value}{t:TypeId}{K:Value->Heap->Prop}{h:Heap}(b:Uy C g args t K h):
  BF C.P (callFunc g args.toArray) h K:=by
 unfold Uy at b;split at b
 .rename_i f;split at b
  .rename_i r i;have a:=congrArg (·[g]?) e.fns;simp only[qO,f]at a;cases hf:C.P.funcs.toList[g]? with
   |none=>rw[hf]at a;cases a
   |some fn=>
    rw[hf]at a;simp only[qS,zX.injEq,qy,Bool.not_eq_true']at a;have c:C.P.funcs[g]?=some fn:=by simpa using hf
    have d:fn.body.isNone=false:=by cases hbb:fn.body<;>simp[hbb]at a⊢
    unfold callFunc;refine au.bind (au.aaV ?_);simp only[c,a.1,d];exact au.pure' (b.mono λv h' x=>x.out)
  .exact b.elim
 .exact b.elim
theorem Uz{C:Ctx}(X:C.Ok){ev:Operand->Option Value}{e:Operand->Value}(A:∀x v,ev x=some v->e x=v){o:Oper}
  {K:Value->Heap->Prop} {h:Heap} (j:Ix C o ev K h):BF C.P (execOp e o) h K:=by
 have G:∀{x:Option Operand} {r:Option Value},Ix.optVal ev x=some r->x.map e=r:=by
  intro x r I;cases x with
  |none=>cases I;rfl
  |some y=>
   simp only[Ix.optVal]at I;split at I
   .rename_i v B;cases I;rw[qS,A _ _ B]
   .cases I
 unfold Ix at j;split at j
 .rename_i t a x q;simp only[execOp,q];split at j
  .rename_i p v W B;rw[A _ _ W,A _ _ B];exact Hj j
  .exact j.elim
 .rename_i t q;simp only[execOp,q];exact gE (j.mono λ_ _ x=>x.out)
 .rename_i t x q;simp only[execOp,q];split at j
  .rename_i v B;rw[A _ _ B];exact gE (j.mono λ_ _ x=>x.out)
  .exact j.elim
 .rename_i t l c q;simp only[execOp,q];split at j
  .rename_i v u B U;rw[A _ _ B,A _ _ U];exact gE (j.mono λ_ _ x=>x.out)
  .exact j.elim
 .rename_i t n parts q;simp only[execOp,q];split at j
  .rename_i ps Q;have:(parts.map λ(i,x)=>(i,e x))=ps.toArray:=by apply yI;have:=GA A Q;simpa using this
   rw[this];exact gE (j.mono λ_ _ x=>x.out)
  .exact j.elim
 .rename_i t q;simp only[execOp,q];exact gE (j.mono λ_ _ x=>x.out)
 .rename_i t x Z ok q;simp only[execOp,q];split at j
  .rename_i m k r H E R;rw[A _ _ H,A _ _ E];exact gE (j.mono λ_ _ x=>x.out)
  .exact j.elim
 .rename_i t m k x q;simp only[execOp,q];split at j
  .rename_i V T v H E B;rw[A _ _ H,A _ _ E,A _ _ B];exact Hj j
  .exact j.elim
 .rename_i t m k x q;simp only[execOp,q];split at j
  .rename_i V T v H E B;rw[A _ _ H,A _ _ E,A _ _ B];exact Hj j
  .exact j.elim
 .rename_i s d x q;simp only[execOp,q];split at j
  .rename_i v i B L;rw[A _ _ B];exact gE (j.mono λ_ _ x=>x.out)
  .exact j.elim
 .rename_i op t x y u q;simp only[execOp,q];split at j
  .rename_i a b i M N L;rw[A _ _ M,A _ _ N];exact gE (j.mono λ_ _ x=>x.out)
  .rename_i a b M N L;rw[A _ _ M,A _ _ N];exact gE (j.mono λ_ _ x=>x.out)
  .exact j.elim
 .rename_i t x lo L mx q;simp only[execOp,q];split at j
  .rename_i l r m v Y R H B;rw[G Y,G R,G H,A _ _ B];exact gE (j.mono λ_ _ x=>x.out)
  .exact j.elim
 .rename_i c q;simp only[execOp,q];have w:∀{vs:List Value},rn ev c.args.toList=some vs->c.args.map e=vs.toArray:=λB=>by
   apply yI;simpa using Ch A B
  split at j
  .rename_i D;split at j
   .rename_i vs z;unfold resolve;rw[D,w z];exact gE (j.mono λ_ _ x=>x.out)
   .exact j.elim
  .rename_i D;split at j
   .rename_i vs z;unfold resolve;rw[D,w z];exact gE (j.mono λ_ _ x=>x.out)
   .exact j.elim
  .rename_i D;split at j
   .rename_i vs z;unfold resolve;rw[D,w z];exact gE j
   .exact j.elim
  .rename_i D;split at j
   .rename_i vs z;unfold resolve;rw[D,w z];exact gE (j.mono λ_ _ x=>x.out)
   .exact j.elim
  .rename_i D;split at j
   .rename_i vs z;unfold resolve;rw[D,w z];exact gE (j.mono λ_ _ x=>x.out)
   .exact j.elim
  .rename_i D;split at j
   .rename_i vs z;unfold resolve;rw[D,w z];exact gE j
   .exact j.elim
  .rename_i f D;split at j
   .rename_i g first F vs S z
    unfold resolve;rw[D,w z];simp only[A _ _ S];have:=Rp X j;have J:(⟨first⟩:Array Value)++vs.toArray++(⟨F⟩:Array Value)=(first++vs++F).toArray:=by simp
    have O:BF C.P (callFunc g ((⟨first⟩:Array Value)++vs.toArray++(⟨F⟩:Array Value))) h K:=by rw[J];exact this
    simp only[Deferred.ofValue];exact O
   .exact j.elim
  .exact j.elim
 .exact j.elim
def put(n:Nat)(a:Option Tmp)(K:Env->Heap->Prop)(ρ:Env)(v:Value)(h:Heap):Prop:=
 match a with
 |some d=>bif xi d n then K (.val d v::ρ) h else False
 |none=>K ρ h
theorem uz{n:Nat}{b:Option Tmp}{K:Env->Heap->Prop}{ρ:Env}{v:Value}{h:Heap}(c:put n b K ρ v h){a:Act}(e:Fits n a ρ):
  ∃ρ',Fits n (a.put b v) ρ'/\Ext ρ ρ' a (a.put b v)/\K ρ' h:=by
 unfold put at c;cases b with
 |none=>exact⟨ρ,e,Ext.refl _ _,c⟩
 |some d=>
  simp only at c;cases hb:xi d n with
  |false=>rw[hb]at c;exact c.elim
  |true=>rw[hb]at c;exact⟨_,e.put hb v,Ext.put v v,c⟩
def abc(C:Ctx)(n:Nat)(o:Oper)(K:Env->Heap->Prop)(ρ:Env)(h:Heap):Prop:=
 match BI C.P C.T o.op ρ.eval with
 | .no=>match uy C.T o.op ρ.eval with
  |some r=>∃y:r.ty.den,r.holds h y/\put n o.dst K ρ (r.ty.enc y) h
  |none=>Ix C o ρ.eval (put n o.dst K ρ) h
 |p=>p.holds λv=>put n o.dst K ρ v h
def Iy(ops:Array Oper)(o:Oper)(ρ:Env)(a skip:Env->Prop):Prop:=
 match o.guard with
 |none=>a ρ
 |some (j,want)=>match(ops[j]?).bind (·.dst)with
  |some d=>match ρ.get d with
   |some (.bool b)=>Br b (bif want then a (.val d (.bool true)::ρ)else skip (.val d (.bool true)::ρ)) (bif want then skip (.val d (.bool false)::ρ)else a (.val d (.bool false)::ρ))
   |some (.tuple _)=>skip ρ
   |_=>False
  |none=>False
theorem Fits.known{n:Nat}{a:Act}{ρ:Env}(c:Fits n a ρ){d:Nat}{v:Value}(e:ρ.get d=some v):Fits n a (.val d v::ρ)/\Ext ρ (.val d v::ρ) a a:=by
 refine⟨⟨c.size,c.defers,λt x b=>?_⟩,⟨[.val d v],rfl,λ_ _=>rfl⟩⟩;simp only[Env.get]at b;cases hb:wO d t with
 |false=>rw[hb]at b;exact c.get t x b
 |true=>
  rw[hb]at b;have:=zP hb;subst this;rw[cond_true]at b;exact c.get _ x (e.trans b)
theorem GD{ops:Array Oper}{o:Oper}{ρ:Env}{g skip:Env->Prop}{n:Nat}{a:Act}(e:Fits n a ρ)(c:Iy ops o ρ g skip):
  ∃ρ',Fits n a ρ'/\Ext ρ ρ' a a/\((Region.wanted o (yielded ops a.tmps)=true/\g ρ')∨(Region.wanted o (yielded ops a.tmps)=false/\skip ρ')):=by
 unfold Iy at c;unfold Region.wanted;split at c
 .rename_i l;rw[l];exact⟨ρ,e,Ext.refl _ _,.inl ⟨rfl,c⟩⟩
 .rename_i j f l;rw[l];split at c
  .rename_i d p;split at c
   .rename_i b k;have m:yielded ops a.tmps j=some b:=by unfold yielded;rw[p];simp[e.get _ _ k]
    simp only[m];obtain⟨h,i⟩:=e.known k;cases b<;>cases f<;>simp only[Br,cond_true,cond_false]at c
    .exact⟨_,h,i,.inl ⟨rfl,c⟩⟩
    .exact⟨_,h,i,.inr ⟨rfl,c⟩⟩
    .exact⟨_,h,i,.inr ⟨rfl,c⟩⟩
    .exact⟨_,h,i,.inl ⟨rfl,c⟩⟩
   .rename_i vs k;have m:yielded ops a.tmps j=none:=by unfold yielded;rw[p];simp[e.get _ _ k]
    simp only[m];exact⟨ρ,e,Ext.refl _ _,.inr ⟨by simp,c⟩⟩
   .exact c.elim
  .exact c.elim
theorem Xq{C:Ctx}(f:C.Ok){n:Nat}{o:Oper}{K:Env->Heap->Prop}{ρ:Env}{a:Act}{w:World}(j:Fits n a ρ)(d:abc C n o K ρ w.heap)
  {Q:Exit->Act->World->Prop} {next:Act->World->Prop}
  (l:∀a' w' ρ',Fits n a' ρ'->Ext ρ ρ' a a'->dh w w'->K ρ' w'.heap->next a' w'):o.wp C.P a w next Q:=by
 have g:∀x v,ρ.eval x=some v->a.eval x=v:=λx v h=>j.eval h;have b:∀v w',dh w w'->put n o.dst K ρ v w'.heap->next (a.put o.dst v) w':=λv w' t q=>by
  obtain⟨ρ',k,m,h3⟩:=uz q j;exact l _ _ _ k m t h3
 have c:(BI C.P C.T o.op ρ.eval).holds (λv=>put n o.dst K ρ v w.heap)->o.wp C.P a w next Q:=λh=>by
  obtain⟨v,s,i⟩:=Iu f.toOk g h;unfold Oper.wp;rw[s w];exact b v w (dh.refl w) i
 unfold abc at d;split at d
 .split at d
  .rename_i r e;obtain⟨y,p,i⟩:=d;unfold Oper.wp;rw[Ci f.toOk g e p];exact b _ w (dh.refl w) i
  .exact aiw (Uz f g d) b
 .exact c d
def FN(C:Ctx)(n:Nat)(ops:Array Oper)(o:Oper)(K:Env->Heap->Prop)(ρ:Env)(h:Heap):Prop:=
 Iy ops o ρ (λρ=>abc C n o K ρ h) (λρ=>put n o.dst K ρ undef h)
theorem Iz{C:Ctx}(l:C.Ok){n:Nat}{ops:Array Oper}{o:Oper}{i:Nat}(j:ops[i]?=some o){K:Env->Heap->Prop}{ρ:Env}{a:Act}{w:World}
  (f:Fits n a ρ) (m:FN C n ops o K ρ w.heap) {Q:Exit->Act->World->Prop} {next:Act->World->Prop}
  (d:∀a' w' ρ',Fits n a' ρ'->Ext ρ ρ' a a'->dh w w'->K ρ' w'.heap->next a' w'):wpOp C.P ops Q i next a w:=by
 obtain⟨ρ',c,e,h3⟩:=GD f m;unfold wpOp;simp only[j];rcases h3 with⟨hw,hr⟩|⟨hw,hr⟩
 .simp only[hw,if_true];exact .inl (Xq l c hr λa' w' b g x2 x3 h=>d _ _ _ g (e.trans x2) x3 h)
 .simp only[hw,zh,if_false];obtain⟨b,q,k,p⟩:=uz hr c;exact d _ _ _ q (e.trans k) (dh.refl w) p
def abd(C:Ctx)(n:Nat)(ops:Array Oper)(K:Env->Heap->Prop):List Oper->Env->Heap->Prop
 |[],ρ,h=>K ρ h
 |o::r,ρ,h=>FN C n ops o (abd C n ops K r) ρ h
def Out(n:Nat)(Q:Exit->Env->Heap->Prop)(ρ:Env)(a:Act)(w:World):Exit->Act->World->Prop:=λe a' w'=>
 ∃ρ',Fits n a' ρ'/\Ext ρ ρ' a a'/\dh w w'/\Q e ρ' w'.heap
theorem LB{C:Ctx}(c:C.Ok){n:Nat}{ops:Array Oper}{K:Env->Heap->Prop}{Q:Exit->Act->World->Prop}{ρ0:Env}{a0:Act}{w0:World}
  (b:∀a w ρ,Fits n a ρ->Ext ρ0 ρ a0 a->dh w0 w->K ρ w.heap->Q .normal a w):
  ∀(r:List Oper) (i:Nat),(∀j,r[j]?=ops[i+j]?)->∀(ρ:Env) (a:Act) (w:World),Fits n a ρ->Ext ρ0 ρ a0 a->dh w0 w->abd C n ops K r ρ w.heap->
   wpOps C.P ops Q (List.range' i r.length) a w
 |[],i,_,ρ,a,w,hf,hx,hl,hs=>b a w ρ hf hx hl hs
 |o::r,i,hr,ρ,a,w,hf,hx,hl,hs=>by
  have f:ops[i]?=some o:=by simpa using(hr 0).symm
  rw[za,List.range'_succ,wpOps_cons];refine Iz c f hf hs λa' w' ρ' d e h3 g=>?_;exact LB c b r (i+1) (λj=>by have:=hr (j+1);simpa[Nat.add_assoc,Nat.add_comm 1 j]using this) ρ' a' w' d (hx.trans e) (hl.trans h3) g
abbrev bR:=List (Addr×Value)
def bR.ok:bR->Heap->Prop
 |[],_=>True
 |p::r,h=>cellOf h p.1=some p.2/\bR.ok r h
def oF(a:Addr):Nat->List Value->bR->bR
 |_,[],L=>L
 |n,v::r,L=>(a.add n,v)::oF a (n+1) r L
theorem oe{a:Addr}{h:Heap}:∀{vs:List Value} {n:Nat} {L:bR},(oF a n vs L).ok h↔bj h a n vs/\L.ok h
 |[],_,L=>by simp[oF,bj]
 |v::r,n,L=>by simp only[oF,bR.ok,bj,oe (vs:=r),and_assoc]
def Ak.held(r:Ak)(y:r.ty.den)(L:bR):bR:=
 match r.ty,y with
 | .sc s,y=>(r.a,s.enc y)::L
 | .agg l,y=>oF r.a 0 (nX l y) L
 | .arr s,y=>oF r.a 0 (y.map s.enc) L
theorem Ak.aeW{r:Ak}{y:r.ty.den}{L:bR}{b:Heap}(c:r.holds b y){m:Heap}:(r.held y L).ok m↔r.holds m y/\L.ok m:=by
 obtain⟨a,ty,n⟩:=r;cases ty with
 |sc s=>exact Iff.rfl
 |agg l=>exact oe
 |arr s=>exact oe.trans ⟨λx=>⟨⟨c.1,x.1⟩,x.2⟩,λx=>⟨x.1.2,x.2⟩⟩
structure gJ where
 op:Nat
 r:Ak
 y:r.ty.den
def flat:List gJ->bR
 |[]=>[]
 |p::r=>p.r.held p.y (flat r)
def gJ.ok(p:gJ)(w:World):Prop:=p.r.holds w.heap p.y
def waits(ops:Array Oper)(j i:Nat):Bool:=match ops[j]? with
 |some o=>o.after.any λe=>Region.binds .any e&&wO e.on i
 |none=>false
def keep(ops:Array Oper)(j:Nat):List gJ->List gJ
 |[]=>[]
 |p::r=>bif waits ops j p.op then keep ops j r else p::keep ops j r
theorem rF{ops:Array Oper}{j:Nat}:∀{L:List gJ},∀p∈keep ops j L,p∈L
 |[],p,h=>by cases h
 |q::r,p,h=>by
  unfold keep at h;cases hw:waits ops j q.op with
  |true=>rw[hw]at h;exact qA _ (rF p h)
  |false=>
   rw[hw]at h;rcases qT.1 h with rfl|h
   .exact qF
   .exact qA _ (rF p h)
theorem Cj{ops:Array Oper}{j:Nat}:∀{L:List gJ} {p:gJ},p∈L->waits ops j p.op=false->p∈keep ops j L
 |q::r,p,h,hw=>by
  unfold keep;rcases qT.1 h with rfl|h
  .rw[hw];exact qF
  .cases hq:waits ops j q.op with
   |true=>exact Cj h hw
   |false=>exact qA _ (Cj h hw)
theorem Hk{ops:Array Oper}{j:Nat}{p:gJ}:∀{M:List gJ},p∈keep ops j M->waits ops j p.op=false
 |[],h=>by cases h
 |q::r,h=>by
  unfold keep at h;cases hq:waits ops j q.op with
  |true=>rw[hq]at h;exact Hk h
  |false=>
   rw[hq]at h;rcases qT.1 h with rfl|h
   .exact hq
   .exact Hk h
theorem DS{ops:Array Oper}{j:Nat}{L a:List gJ}(c:∀p∈a,p∈L):∀p∈keep ops j a,p∈keep ops j L:=
 λp b=>Cj (c p (rF p b)) (Hk b)
def mC(P:Program)(ops:Array Oper)(Q:Exit->Act->World->Prop):Nat->List gJ->Array Bool->Act->World->Prop
 |0,_,listed,a,w=>Region.ready .any ops listed=[]/\Q .normal a w
 |fuel+1,L,listed,a,w=>
  (Region.ready .any ops listed=[]->Q .normal a w)/\
  ∀i∈Region.ready .any ops listed,wpOp P ops Q i (λa' w'=>(∀p∈keep ops i L,p.ok w')/\mC P ops Q fuel (keep ops i L) (listed.setIfInBounds i true) a' w') a w
theorem IA{P:Program}{ops:Array Oper}{Q:Exit->Act->World->Prop}:∀(c:Nat) (L:List gJ) (b:Array Bool) (a:Act) (w:World),mC P ops Q c L b a w->wpAny P .any ops Q c b a w
 |0,_,_,_,_,h=>h
 |c+1,_,_,_,_,h=>⟨h.1,λi d=>wpOp_mono (λa' w' h'=>IA c _ _ a' w' h'.2) (h.2 i d)⟩
theorem Ck{P:Program}{ops:Array Oper}{Q:Exit->Act->World->Prop}:∀(c:Nat) {L d:List gJ} (b:Array Bool) (a:Act) (w:World),(∀p∈d,p∈L)->mC P ops Q c L b a w->mC P ops Q c d b a w
 |0,_,_,_,_,_,_,h=>h
 |c+1,_,_,_,_,_,hs,h=>⟨h.1,λi f=>wpOp_mono (λa' w' h'=>⟨λp e=>h'.1 p (DS hs p e),Ck c _ a' w' (DS hs) h'.2⟩) (h.2 i f)⟩
theorem NR{P:Program}{ops:Array Oper}{Q:Exit->Act->World->Prop}{i:Nat}{r:Oper}{v:Value}{T:World->Prop}{N:List gJ}(Y:ops[i]?=some r)(z:∀(j:Nat) (o:Oper) cs b,ops[j]?=some o->o.op≠.select cs b)
  (hQ:∀c a w,Q (.panic c) (a.put r.dst v) w->Q (.panic c) a w) (hN:∀p∈N,p.op=i) (hT:∀w,(∀p∈N,p.ok w)->T w):
  ∀(f:Nat) (L:List gJ) (d:Array Bool) (a:Act) (w:World),
   (∀j t,ops[j]?=some t->j≠i->d.getD j true=false->(∀e∈t.after,Region.binds .any e=true->e.on≠i)->r.apart ops t=true)->
   i∈Region.ready .any ops d->YieldsIf P ops T r v a->(∀p∈N,p.ok w)->(∀p∈L,p.ok w)->
   mC P ops Q f (N++L) (d.setIfInBounds i true) (a.put r.dst v) w->mC P ops Q (f+1) L d a w:=by
 intro f;have x:∀(f:Nat) (L:List gJ) (d:Array Bool) (a:Act) (w:World),YieldsIf P ops T r v a->(∀p∈N,p.ok w)->(∀p∈L,p.ok w)->
   mC P ops Q f (N++L) (d.setIfInBounds i true) (a.put r.dst v) w->
   wpOp P ops Q i (λa' w'=>(∀p∈keep ops i L,p.ok w')/\mC P ops Q f (keep ops i L) (d.setIfInBounds i true) a' w') a w:=λf L d a w G q K H=>
  G.wpOp Y (hT w q) ⟨λp g=>K p (rF p g),Ck f _ _ _ (λp g=>zH _ (rF p g)) H⟩
 induction f with
 |zero=>
  intro L d a w _ E G q K H;refine⟨λh=>(by rw[h]at E;cases E),λj S=>?_⟩;by_cases l:j=i
  .subst l;exact x 0 L d a w G q K H
  .have:=ready_mono S l;rw[H.1]at this;cases this
 |succ f ih=>
  intro L d a w n E G q K H;refine⟨λh=>(by rw[h]at E;cases E),λj S=>?_⟩;by_cases l:j=i
  .subst l;exact x (f+1) L d a w G q K H
  .have D:=H.2 j (ready_mono S l);obtain⟨A,t,s,O⟩:=mem_ready.1 S;have B:∀e∈t.after,Region.binds .any e=true->e.on≠i:=λe he R U=>by
    have D:=O e he R;have Z:=(mem_ready.1 E).1;rw[U]at D;rcases Nat.lt_or_ge i d.size with h'|h'
    .simp[h']at Z D;rw[Z]at D;cases D
    .simp[Array.getElem?_eq_none h']at D
   have I:(t.after.any λe=>Region.binds .any e&&wO e.on i)=false:=by
    cases hc:t.after.any λe=>Region.binds .any e&&wO e.on i with
    |false=>rfl
    |true=>
     obtain⟨k,V,R⟩:=Array.any_eq_true.1 hc;simp only[qy]at R;exact absurd (zP R.2) (B _ (Array.getElem_mem V) R.1)
   have F:waits ops j i=false:=by unfold waits;rw[s];exact I
   have y:∀p,p∈N->p∈keep ops j (N++L):=λp g=>Cj (List.mem_append_left _ g) (by rw[hN p g];exact F);have m:∀p,p∈keep ops j L->p∈keep ops j (N++L):=DS λp g=>zH _ g;have h2:=wpOp_putIf s (n j t s l A B) (λcs b=>z i r cs b Y) (λcs b=>z j t cs b s) hQ G D;have u:∀k ok,ops[k]?=some ok->k≠i->(d.setIfInBounds j true).getD k true=false->
     (∀e∈ok.after,Region.binds .any e=true->e.on≠i)->r.apart ops ok=true:=λk ok V X M W=>by
    refine n k ok V X ?_ W;by_cases J:j=k
    .subst J;exact A
    .rw[getD_set_ne true J]at M;exact M
   refine wpOp_mono (λa' w' h3=>⟨λp g=>h3.2.1 p (m p g),ih (keep ops j L) (d.setIfInBounds j true) a' w' u (ready_mono E (Ne.symm l)) h3.1 (λp g=>h3.2.1 p (y p g)) (λp g=>h3.2.1 p (m p g)) ?_⟩) h2;rw[Array.setIfInBounds_comm _ _ l];refine Ck _ _ _ _ (λp g=>?_) h3.2.2;rcases List.mem_append.1 g with g|g
   .exact y p g
   .exact m p g
theorem Bb{P:Program}{ops:Array Oper}{Q:Exit->Act->World->Prop}{i:Nat}{e:Oper}{v:Value}{T:World->Prop}{N:List gJ}{d:Nat}{L:List gJ}{b:Array Bool}{a:Act}{w:World}(g:ops[i]?=some e)
  (r:Region.noSelect ops=true) (j:Region.free .any ops b i=true) (k:(Region.ready .any ops b).contains i=true)
  (l:∀c a w,Q (.panic c) (a.put e.dst v) w->Q (.panic c) a w) (m:∀p∈N,p.op=i) (n:∀w,(∀p∈N,p.ok w)->T w) (o:YieldsIf P ops T e v a) (f:∀p∈N,p.ok w) (q:∀p∈L,p.ok w)
  (h:mC P ops Q d (N++L) (b.setIfInBounds i true) (a.put e.dst v) w):mC P ops Q (d+1) L b a w:=
 NR g (Region.noSelect_spec r) l m n d L b a w (Region.free_spec g j) (by simpa using k) o f q h
theorem Ks:∀{L:List gJ} {w0:World},(∀p∈L,p.ok w0)->∀{m:Heap},(flat L).ok m->∀p∈L,p.r.holds m p.y
 |[],_,_,_,_,p,a=>by cases a
 |q::r,w0,h0,m,h,p,a=>by
  have h:=(Ak.aeW (h0 q qF)).1 h;rcases qT.1 a with rfl|a
  .exact h.1
  .exact Ks (λp a=>h0 p (qA _ a)) h.2 p a
def adz(T:kL)(t:TypeId):Bool:=match T.get t with
 |some i=>match i.ty with
  | .sc .slc=>true
  |_=>false
 |none=>false
def adA(T:kL):Op->Bool
 | .convert s d _=>!(adz T s||adz T d)
 | .move _| .assign _| .pick .. | .nilCheck _| .fieldAddr .. | .indexAddr .. | .index .. | .field .. | .extract .. | .binOp .. | .unOp .. | .build .. | .makeFunc .. | .load .. =>true
 | .slice _ _ _ _ none=>true
 | .call c=>match c.callee with
  | .builtin .len| .builtin .cap| .builtin .min| .builtin .max| .builtin .real| .builtin .imag=>true
  |_=>false
 |_=>false
def oG(T:kL)(ops:Array Oper)(a:Array Bool):List Nat->Option Nat
 |[]=>none
 |i::r=>match ops[i]? with
  |some o=>bif adA T o.op&&Region.free .any ops a i then some i else oG T ops a r
  |none=>oG T ops a r
def UA(C:Ctx)(n:Nat)(ops:Array Oper)(i:Nat)(o:Oper)(L:List gJ)(K:List gJ->Env->Heap->Prop)(ρ:Env)(h:Heap):Prop:=
 Iy ops o ρ (λρ=>match BI C.P C.T o.op ρ.eval with
  | .no=>match uy C.T o.op ρ.eval with
   |some r=>∃y:r.ty.den,r.holds h y/\put n o.dst (K (⟨i,r,y⟩::L)) ρ (r.ty.enc y) h
   |none=>False
  |p=>p.holds λv=>put n o.dst (K L) ρ v h) (λρ=>put n o.dst (K L) ρ undef h)
def NS(C:Ctx)(n:Nat)(ops:Array Oper)(K:Nat->Env->Heap->Prop)(ρ:Env)(h:Heap):List Nat->Prop
 |[]=>True
 |[i]=>match ops[i]? with
  |some o=>FN C n ops o (K i) ρ h
  |none=>False
 |i::j::r=>(match ops[i]? with
  |some o=>FN C n ops o (K i) ρ h
  |none=>False)/\NS C n ops K ρ h (j::r)
def uA(C:Ctx)(n:Nat)(ops:Array Oper)(K:Env->Heap->Prop):Nat->Array Bool->List gJ->Env->Heap->Prop
 |0,listed,_,ρ,h=>bif (Region.ready .any ops listed).isEmpty then K ρ h else False
 |k+1,listed,L,ρ,h=>match oG C.T ops listed (Region.ready .any ops listed)with
  |some i=>match ops[i]? with
   |some o=>UA C n ops i o L (uA C n ops K k (listed.setIfInBounds i true)) ρ h
   |none=>False
  |none=>match Region.ready .any ops listed with
   |[]=>K ρ h
   |i::r=>NS C n ops (λi ρ h=>(flat (keep ops i L)).ok h/\uA C n ops K k (listed.setIfInBounds i true) (keep ops i L) ρ h) ρ h (i::r)
theorem ta{T:kL}{ops:Array Oper}{a:Array Bool}:∀{rs:List Nat} {i:Nat},oG T ops a rs=some i->i∈rs/\Region.free .any ops a i=true
 |[],_,h=>by cases h
 |j::r,i,h=>by
  simp only[oG]at h;split at h
  .rename_i o b;cases hb:(adA T o.op&&Region.free .any ops a j)with
   |true=>
    rw[hb]at h;cases h;simp only[qy]at hb;exact⟨qF,hb.2⟩
   |false=>
    rw[hb]at h;have:=ta h;exact⟨qA _ this.1,this.2⟩
  .have:=ta h;exact⟨qA _ this.1,this.2⟩
theorem LC{C:Ctx}{n:Nat}{ops:Array Oper}{K:Nat->Env->Heap->Prop}{ρ:Env}{h:Heap}:∀{l:List Nat},NS C n ops K ρ h l->∀i∈l,∃o,ops[i]?=some o/\FN C n ops o (K i) ρ h
 |[],_,i,hi=>by cases hi
 |[j],ha,i,hi=>by
  simp only[qp]at hi;subst hi;simp only[NS]at ha;split at ha
  .rename_i o b;exact⟨o,b,ha⟩
  .exact ha.elim
 |j::k::r,ha,i,hi=>by
  obtain⟨a,c⟩:=ha;rcases qT.1 hi with rfl|hi
  .split at a
   .rename_i o b;exact⟨o,b,a⟩
   .exact a.elim
  .exact LC c i hi
variable {n:Nat} {ops:Array Oper} {Q:Exit->Act->World->Prop} {ρ0:Env} {a0:Act} {w0:World}
section
variable {C:Ctx} {K:Env->Heap->Prop}
theorem LD(I:C.Ok)(J:Region.noSelect ops=true)
  (O:∀a w ρ,Fits n a ρ->Ext ρ0 ρ a0 a->dh w0 w->K ρ w.heap->Q .normal a w) (u:∀c a w,¬Q (.panic c) a w):
  ∀(k:Nat) (b:Array Bool) (L:List gJ) (ρ:Env) (a:Act) (w:World),Fits n a ρ->Ext ρ0 ρ a0 a->dh w0 w->(∀p∈L,p.ok w)->
   uA C n ops K k b L ρ w.heap->mC C.P ops Q k L b a w
 |0,b,L,ρ,a,w,hf,hx,hl,hL,h=>by
  simp only[uA]at h;cases hb:(Region.ready .any ops b).isEmpty with
  |false=>rw[hb]at h;exact h.elim
  |true=>rw[hb]at h;exact⟨by simpa using hb,O _ _ _ hf hx hl h⟩
 |k+1,b,L,ρ,a,w,hf,hx,hl,hL,h=>by
  have M:=LD I J O u k;simp only[uA]at h;split at h
  .rename_i i H;obtain⟨z,f⟩:=ta H;have e:(Region.ready .any ops b).contains i=true:=by simpa using z
   split at h
   .rename_i o D;unfold UA at h;obtain⟨ρ',G,R,h3⟩:=GD hf h;have q:∀c a w (v:Value),Q (.panic c) (Act.put a o.dst v) w->Q (.panic c) a w:=λc a w v hq=>absurd hq (u c _ w);have Z:∀x v,Env.eval ρ' x=some v->a.eval x=v:=λx v h=>G.eval h;rcases h3 with⟨t,g⟩|⟨t,g⟩
    .have s:(BI C.P C.T o.op (Env.eval ρ')).holds (λv=>put n o.dst (uA C n ops K k (b.setIfInBounds i true) L) ρ' v w.heap)->
       mC C.P ops Q (k+1) L b a w:=λd=>by
      obtain⟨v,hv,V⟩:=Iu I.toOk Z d;obtain⟨m,F,A,E⟩:=uz V G;exact Bb (N:=[]) (T:=λ_=>True) D J f e (λc a w=>q c a w v) (λp d=>by cases d) (λ_ _=>trivial) (.inl ⟨t,λw _=>hv w⟩) (λp d=>by cases d) hL
       (M _ L m _ w F (hx.trans (R.trans A)) hl hL E)
     split at g
     .split at g
      .rename_i r B;obtain⟨y,Y,V⟩:=g;obtain⟨m,F,A,E⟩:=uz V G;have W:∀p∈[(⟨i,r,y⟩:gJ)],p.ok w:=λp d=>by rw[qp]at d;subst d;exact Y
       refine Bb (N:=[⟨i,r,y⟩]) (T:=λw=>r.holds w.heap y) D J f e (λc a w=>q c a w _) (λp d=>by rw[qp]at d;subst d;rfl)
        (λw h=>h ⟨i,r,y⟩ (qp.2 rfl)) (.inl ⟨t,λw t=>Ci I.toOk Z B t⟩) W hL ?_
       refine M _ (⟨i,r,y⟩::L) m _ w F (hx.trans (R.trans A)) hl (λp d=>?_) E;rcases qT.1 d with rfl|d
       .exact Y
       .exact hL p d
      .exact g.elim
     .exact s g
    .obtain⟨m,F,A,E⟩:=uz g G;exact Bb (N:=[]) (T:=λ_=>True) D J f e (λc a w=>q c a w undef) (λp d=>by cases d) (λ_ _=>trivial) (.inr ⟨t,rfl⟩) (λp d=>by cases d) hL
      (M _ L m _ w F (hx.trans (R.trans A)) hl hL E)
   .exact h.elim
  .split at h
   .rename_i g;exact⟨λ_=>O _ _ _ hf hx hl h,λi H=>by rw[g]at H;cases H⟩
   .rename_i i r g;refine⟨λh0=>absurd (g▸h0) (by simp),λj X=>?_⟩;rw[g]at X;obtain⟨o,D,U⟩:=LC h j X;have l:∀p∈keep ops j L,p.ok w:=λp d=>hL p (rF p d);exact Iz I D hf U λa' w' ρ' x1 x2 x3 S=>⟨Ks l S.1,M _ (keep ops j L) ρ' a' w' x1 (hx.trans x2) (hl.trans x3) (Ks l S.1) S.2⟩
end
def sched(T:kL)(ops:Array Oper):Nat->Array Bool->Option (List (Nat×Bool))
 |0,listed=>bif (Region.ready .any ops listed).isEmpty then some []else none
 |k+1,listed=>match oG T ops listed (Region.ready .any ops listed)with
  |some i=>(sched T ops k (listed.setIfInBounds i true)).map ((i,true)::·)
  |none=>match Region.ready .any ops listed with
   |[]=>some []
   |[i]=>(sched T ops k (listed.setIfInBounds i true)).map ((i,false)::·)
   |_::_::_=>none
def sM(C:Ctx)(n:Nat)(ops:Array Oper)(K:Env->Heap->Prop):List (Nat×Bool)->List gJ->Env->Heap->Prop
 |[],_,ρ,h=>K ρ h
 |(i,true)::r,L,ρ,h=>match ops[i]? with
  |some o=>UA C n ops i o L (sM C n ops K r) ρ h
  |none=>False
 |(i,false)::r,L,ρ,h=>match ops[i]? with
  |some o=>FN C n ops o (λρ h=>(flat (keep ops i L)).ok h/\sM C n ops K r (keep ops i L) ρ h) ρ h
  |none=>False
theorem LF{C:Ctx}{n:Nat}{ops:Array Oper}{K:Env->Heap->Prop}:∀(k:Nat) (a:Array Bool) (l:List (Nat×Bool)),sched C.T ops k a=some l->
  uA C n ops K k a=sM C n ops K l
 |0,a,l,hs=>by
  simp only[sched]at hs;cases hb:(Region.ready .any ops a).isEmpty with
  |false=>rw[hb]at hs;cases hs
  |true=>
   rw[hb]at hs;cases hs;funext L ρ h;simp only[uA,hb,sM,cond_true]
 |k+1,a,l,hs=>by
  have c:=λi=>LF (C:=C) (n:=n) (ops:=ops) (K:=K) k (a.setIfInBounds i true);funext L ρ h;unfold sched at hs;unfold uA;cases hi:oG C.T ops a (Region.ready .any ops a)with
  |some i=>
   rw[hi]at hs;obtain⟨l',b,rfl⟩:=vh.1 hs;simp only[sM,c i l' b]
  |none=>
   rw[hi]at hs;generalize d:Region.ready .any ops a=rd at hs
   match rd,hs with
   |[],hs=>cases hs;simp only[sM]
   |[i],hs=>
    obtain⟨l',b,rfl⟩:=vh.1 hs;simp only[NS,sM,c i l' b]
def Ku(C:Ctx)(n:Nat)(ops:Array Oper)(a:Bool)(K:Env->Heap->Prop)(ρ:Env)(h:Heap):Prop:=
 match a with
 |false=>abd C n ops K ops.toList ρ h
 |true=>bif Region.noSelect ops then(match sched C.T ops ops.size (vO ops.size false)with
  |some l=>sM C n ops K l [] ρ h
  |none=>uA C n ops K ops.size (vO ops.size false) [] ρ h)else False
theorem NT{C:Ctx}(g:C.Ok){n:Nat}{id:Nat}{ops:Array Oper}{b:Bool}{Q:Exit->Env->Heap->Prop}{ρ:Env}{a:Act}{w:World}(i:Fits n a ρ)
  (h:Ku C n ops b (Q .normal) ρ w.heap):(Code.region id ops b).wp C.P (λe a' w'=>(∀c,e≠.panic c)/\Out n Q ρ a w e a' w') a w:=by
 cases b with
 |false=>
  refine wp_region ?_;have:=LB g (Q:=λe a' w'=>(∀c,e≠.panic c)/\Out n Q ρ a w e a' w') (K:=Q .normal) (ρ0:=ρ) (a0:=a) (w0:=w) (λa' w' ρ' d x2 x3 f=>⟨λc e=>(by cases e),ρ',d,x2,x3,f⟩)
   ops.toList 0 (λj=>by simp) ρ a w i (Ext.refl _ _) (dh.refl _) h
  rw[List.range_eq_range'];simpa using this
 |true=>
  simp only[Ku]at h;cases hb:Region.noSelect ops with
  |false=>rw[hb]at h;exact h.elim
  |true=>
   rw[hb]at h;have h:uA C n ops (Q .normal) ops.size (vO ops.size false) [] ρ w.heap:=by
    simp only[cond_true]at h;split at h
    .rename_i l o;rw[LF _ _ _ o];exact h
    .exact h
   refine wp_region_any g.mixed (IA _ [] _ _ _ ?_);exact LD g hb (Q:=λe a' w'=>(∀c,e≠.panic c)/\Out n Q ρ a w e a' w') (ρ0:=ρ) (a0:=a) (w0:=w) (λa' w' ρ' d x2 x3 f=>⟨λc e=>(by cases e),ρ',d,x2,x3,f⟩)
    (λc a w k=>k.1 c rfl) _ _ [] ρ a {w with drawn:=w.drawn+1} i (Ext.refl _ _) ⟨rfl,rfl,rfl,Nat.le_succ _⟩ (λp m=>by cases m) h
def Am{σ:Type}(rest:σ->Heap->Prop)(B:(σ->Heap->Prop)->Prop):Prop:=∃R:σ->Heap->Prop,(∀s h,R s h->rest s h)/\B R
def gX{σ:Type}(B:σ->(σ->Heap->Prop)->Heap->Prop)(s:σ)(h:Heap):Prop:=
 ∃(τ:Type) (V:τ->σ) (I:τ->Heap->Prop) (μ:τ->Nat) (t0:τ),s=V t0/\I t0 h/\∀t h,I t h->B (V t) (λb h'=>∃a,b=V a/\I a h'/\μ a<μ t) h
theorem Xr{P:Program}{c:Code}{Q:Exit->Act->World->Prop}{a:Act}{w:World}{σ:Type}(R:σ->Act->World->Prop)(μ:σ->World->Nat)(t:σ)(A:R t a w)
  (i:∀s a w,R s a w->c.wp P (Exit.then (λa' w'=>∃m,R m a' w'/\μ m w'<μ s w) Q) a w):(Code.loop c).wp P Q a w:=by
 intro b k cs;have r:∀n s a w,μ s w=n->R s a w->
   ∃e a' w',Q e a' w'/\Arrives P (lone (b.at a (.code c::.inLoop c::k)) cs w) b k cs e a' w':=by
  intro n
  induction n using Nat.strongRecOn with
  |_ n ih=>
   intro s a w u B;obtain⟨e,j,g,f,d⟩:=i s a w B b (.inLoop c::k) cs;cases e with
   |normal=>
    obtain⟨m,o,q⟩:=f;obtain⟨z,v,y,p,h⟩:=ih (μ m g) (u▸q) m j g rfl o;exact⟨z,v,y,p,.of_steps (Steps.trans d (.one step_inLoop)) h⟩
   |exit id=>exact⟨_,j,g,f,.pass (x:=.inLoop c) rfl (λ_ _=>.inl (by simp)) d⟩
   |goto l=>exact⟨_,j,g,f,.pass (x:=.inLoop c) rfl (λ_ _=>.inl (by simp)) d⟩
   |ret=>exact⟨_,j,g,f,.pass (x:=.inLoop c) rfl (λ_ _=>.inl (by simp)) d⟩
   |panic ch=>exact⟨_,j,g,f,.pass (x:=.inLoop c) rfl (λ_ _=>.inl (by simp)) d⟩
   |outgrown=>exact⟨_,j,g,f,.pass (x:=.inLoop c) rfl (λ_ _=>.inl (by simp)) d⟩
 obtain⟨e,a',w',f,d⟩:=r _ t a w rfl A;exact⟨e,a',w',f,.of_steps (.one step_loop) d⟩
inductive cN where
 |n
 |two (a b:cN)
 |inn (a:cN)
 |loop (σ:dF) (κ:dt) (a:cN)
 |join (σ:dF) (κ:dt) (a:cN)
 |scope (l:Nat) (σ:dF) (κ:dt) (pre rest:List cN) (fwd:List (Nat×List cN))
 |fwd (a:cN) (fwd:List (Nat×List cN))
def cN.fst:cN->cN
 | .two a _=>a
 |_=>.n
def cN.snd:cN->cN
 | .two _ b=>b
 |_=>.n
def cN.sub:cN->cN
 | .inn a=>a
 |_=>.n
abbrev QT:=Exit->Env->Heap->Prop
def IB(σ:dF)(κ:dt)(ρ:Env)(K:σ.den->Heap->Prop)(Q:QT):QT
 | .normal,ρ',h=>bif within σ κ ρ' (ρ'.length-ρ.length)then(match σ.read ρ' with|some s=>K s h|none=>False)else False
 |e,ρ',h=>Q e ρ' h
def FO(next:Env->Heap->Prop)(Q:QT):QT
 | .normal,ρ,h=>next ρ h
 |e,ρ,h=>Q e ρ h
def Xt(id:Nat)(Q:QT):QT
 | .exit i,ρ,h=>bif wO i id then Q .normal ρ h else Q (.exit i) ρ h
 |e,ρ,h=>Q e ρ h
abbrev Rec:=Code->cN->QT->Env->Heap->Prop
def An(rec:Rec):List Code->List cN->QT->Env->Heap->Prop
 |[],_,Q,ρ,h=>Q .normal ρ h
 |c::cs,[],Q,ρ,h=>rec c .n (FO (An rec cs [] Q) Q) ρ h
 |c::cs,x::xs,Q,ρ,h=>rec c x (FO (An rec cs xs Q) Q) ρ h
def chain:Code->Nat->Option (List Code×List Code)
 | .seq a b,l=>match chain a l with
  |some (p,r)=>some (p,r++[b])
  |none=>match chain b l with
   |some (p,r)=>some (a::p,r)
   |none=>none
 | .label l',l=>bif wO l' l then some ([],[])else none
 |_,_=>none
def adB(a:List (Nat×List cN))(l:Nat):Option (List cN):=
 match a with
 |[]=>none
 |p::r=>bif wO p.1 l then some p.2 else adB r l
def FP(rec:Rec)(c:Code)(a:List (Nat×List cN))(Q:QT):Nat->QT
 |0=>λ_ _ _=>False
 |g+1=>λe ρ h=>match e with
  | .goto l=>match adB a l with
   |some xs=>match chain c l with
    |some (_,r)=>An rec r xs (FP rec c a Q g) ρ h
    |none=>False
   |none=>Q (.goto l) ρ h
  |e=>Q e ρ h
def UB(l:Nat)(σ:dF)(κ:dt)(ρ:Env)(K:σ.den->Heap->Prop)(Q:QT):QT
 | .goto l',ρ',h=>bif wO l' l then(bif within σ κ ρ' (ρ'.length-ρ.length)then(match σ.read ρ' with|some s=>K s h|none=>False)else False)else Q (.goto l') ρ' h
 |e,ρ',h=>Q e ρ' h
def NU(c:Code)(Q:QT):QT
 | .goto l,ρ,h=>match findLabel c l with
  |none=>Q (.goto l) ρ h
  |some _=>False
 |e,ρ,h=>Q e ρ h
def NV(C:Ctx)(n:Nat)(rec:Rec)(c:Code)(d:cN)(Q:QT)(ρ:Env)(h:Heap):Prop:=
 match d with
 | .join σ κ a=>Am (λs h=>Q .normal (σ.vals s (κ.over ρ)) h) (λK=>rec c a (IB σ κ ρ K Q) ρ h)
 |d=>match c with
  | .skip=>Q .normal ρ h
  | .label _=>Q .normal ρ h
  | .region _ ops draw=>Ku C n ops draw (Q .normal) ρ h
  | .seq a b=>rec a d.fst (FO (rec b d.snd Q) Q) ρ h
  | .cond x a b=>match ρ.eval x with
   |some (.bool t)=>Br t (rec a d.fst Q ρ h) (rec b d.snd Q ρ h)
   |_=>False
  | .block id c=>rec c d.sub (Xt id Q) ρ h
  | .exit id=>Q (.exit id) ρ h
  | .goto l=>Q (.goto l) ρ h
  | .ret=>Q .ret ρ h
  | .loop c=>match d with
   | .loop σ κ a=>match σ.read ρ with
    |some s0=>gX (λs K h=>rec c a (IB σ κ (σ.vals s (κ.over ρ)) K Q) (σ.vals s (κ.over ρ)) h) s0 h
    |none=>False
   |_=>False
  | .scope c=>match d with
   | .scope l σ κ pre rest fwd=>match chain c l with
    |some (p,r)=>An rec p pre (FO (λρ' h'=>match σ.read ρ' with
     |some s0=>gX (λs K h=>An rec r rest (FP rec c fwd (UB l σ κ (σ.vals s (κ.over ρ')) K (NU c Q)) 4) (σ.vals s (κ.over ρ')) h) s0 h'
     |none=>False) (NU c Q)) ρ h
    |none=>False
   | .fwd a fwd=>rec c a (FP rec c fwd (NU c Q) 4) ρ h
   |_=>False
  |_=>False
def vc(C:Ctx)(n:Nat):Nat->Rec
 |0=>λ_ _ _ _ _=>False
 |f+1=>NV C n (vc C n f)
def FQ(C:Ctx)(n:Nat)(rec:Rec):Prop:=∀(c:Code) (b:cN) (Q:QT) (ρ:Env) (a:Act) (w:World),Fits n a ρ->rec c b Q ρ w.heap->c.wp C.P (Out n Q ρ a w) a w
variable {ρ ρ':Env} {a a':Act} {w w':World}
section
variable {C:Ctx} {Q:QT}
theorem Out.base{e:Exit}{b:Act}{c:World}(i:Ext ρ ρ' a a')(k:dh w w')(h:Out n Q ρ' a' w' e b c):Out n Q ρ a w e b c:=by obtain⟨d,f,j,h3,g⟩:=h;exact⟨d,f,i.trans j,k.trans h3,g⟩
theorem Out.then{next:Env->Heap->Prop}{N:Act->World->Prop}{i:Exit->Act->World->Prop}{e:Exit}{b:Act}{c:World}(h:Out n (FO next Q) ρ a w e b c)
  (k:∀ρ',Fits n b ρ'->Ext ρ ρ' a b->dh w c->next ρ' c.heap->N b c) (l:Out n Q ρ a w e b c->e≠.normal->i e b c):Exit.then N i e b c:=by
 obtain⟨d,f,j,h3,g⟩:=h;cases e<;>first|exact k d f j h3 g|exact l ⟨d,f,j,h3,g⟩ (by simp)
def og(P:Program):List Code->(Exit->Act->World->Prop)->Act->World->Prop
 |[],Q,a,w=>Q .normal a w
 |c::cs,Q,a,w=>c.wp P (Exit.then (og P cs Q) Q) a w
theorem lj{P:Program}{Q d:Exit->Act->World->Prop}(b:∀e a w,Q e a w->d e a w):∀(l:List Code) (a:Act) (w:World),og P l Q a w->og P l d a w
 |[],_,_,h=>b _ _ _ h
 |c::cs,a,w,h=>wp_mono h λe a w h=>by
  cases e<;>first|exact lj b cs a w h|exact b _ _ _ h
theorem pA{rec:Rec}(d:FQ C n rec):∀(l:List Code) (xs:List cN) (Q:QT) (ρ:Env) (a:Act) (w:World),Fits n a ρ->An rec l xs Q ρ w.heap->og C.P l (Out n Q ρ a w) a w
 |[],_,Q,ρ,a,w,hf,h=>⟨ρ,hf,Ext.refl _ _,dh.refl _,h⟩
 |c::cs,[],Q,ρ,a,w,hf,h=>by
  refine wp_mono (d c .n _ ρ a w hf h) λe a' w' b=>b.then (λρ' f x2 x3 g=>?_) λb _=>b;exact lj (λe a w h=>h.base x2 x3) cs a' w' (pA d cs [] Q ρ' a' w' f g)
 |c::cs,x::xs,Q,ρ,a,w,hf,h=>by
  refine wp_mono (d c x _ ρ a w hf h) λe a' w' b=>b.then (λρ' f x2 x3 g=>?_) λb _=>b;exact lj (λe a w h=>h.base x2 x3) cs a' w' (pA d cs xs Q ρ' a' w' f g)
end
theorem Bc{P:Program}{b:Code}{Q:Exit->Act->World->Prop}:∀(l:List Code) (a:Act) (w:World),og P (l++[b]) Q a w->og P l (Exit.then (b.wp P Q) Q) a w
 |[],a,w,h=>by
  refine wp_mono h λe a w h=>?_;cases e<;>exact h
 |c::cs,a,w,h=>wp_mono h λe a w h=>by
  cases e<;>first|exact Bc cs a w h|exact h
theorem sv:∀{c:Code} {l:Nat} {p r:List Code},chain c l=some (p,r)->∃k,findLabel c l=some k/\
  (∀{P:Program} {Q:Exit->Act->World->Prop} {a:Act} {w:World},og P r Q a w->k.wp P Q a w)/\
  (∀{P:Program} {Q:Exit->Act->World->Prop} {a:Act} {w:World},og P p (Exit.then (og P r Q) Q) a w->c.wp P Q a w)
 | .seq x y,l,p,r,h=>by
  simp only[chain]at h;split at h
  .rename_i q m d;cases h;obtain⟨k,i,j,h3⟩:=sv d;refine⟨.seq k y,by simp[findLabel,i],λ{P Q a w} h=>wp_seq (j (Bc m a w h)),λ{P Q a w} h=>wp_seq (h3 ?_)⟩;refine lj (λe a w g=>?_) p a w h;cases e<;>first|exact Bc m a w g|exact g
  .rename_i d;split at h
   .rename_i q m n;cases h;obtain⟨k,i,j,h3⟩:=sv n;have o:findLabel x l=none:=by
     clear i j h3 n
     induction x with
     |seq a b iha ihb=>
      simp only[chain]at d;split at d
      .cases d
      .rename_i s;split at d
       .cases d
       .rename_i f;simp[findLabel,iha s,ihb f]
     |label l'=>
      simp only[chain]at d;cases f:wO l' l with
      |true=>rw[f]at d;cases d
      |false=>
       have:¬l'=l:=λe=>by subst e;simp at f
       simp[findLabel,this]
     |_=>rfl
    refine⟨k,by simp[findLabel,o,i],j,λ{P Q a w} h=>wp_seq (wp_mono h λe a w g=>?_)⟩;cases e<;>first|exact h3 g|exact g
   .cases h
 | .label l',l,p,r,h=>by
  simp only[chain]at h;cases f:wO l' l with
  |false=>rw[f]at h;cases h
  |true=>
   rw[f]at h;cases h;have:=zP f;subst this;exact⟨.skip,by simp[findLabel],λh=>wp_skip h,λh=>wp_label h⟩
 | .skip,_,_,_,h=>by cases h
 | .region ..,_,_,_,h=>by cases h
 | .cond ..,_,_,_,h=>by cases h
 | .block ..,_,_,_,h=>by cases h
 | .loop _,_,_,_,h=>by cases h
 | .rangeFunc ..,_,_,_,h=>by cases h
 | .exit _,_,_,_,h=>by cases h
 | .scope _,_,_,_,h=>by cases h
 | .goto _,_,_,_,h=>by cases h
 | .ret,_,_,_,h=>by cases h
 | .refuse _,_,_,_,h=>by cases h
variable {c:Code} {b:Frame} {k:List Item} {cs:List Frame}
def Reach(P:Program)(c:Code)(Q:Exit->Act->World->Prop)(b:Frame)(k:List Item)(d:List Frame)(a:Act)(w:World)(r:Code):Prop:=
 ∃e a' w',Q e a' w'/\Arrives P (lone (b.at a (.code r::.inScope c::k)) d w) b k d e a' w'
def Good(P:Program)(c:Code)(Q:Exit->Act->World->Prop)(b:Frame)(k:List Item)(d:List Frame):Exit->Act->World->Prop
 | .goto l,a,w=>match findLabel c l with
  |some r=>Reach P c Q b k d a w r
  |none=>Q (.goto l) a w
 |e,a,w=>Q e a w
theorem NW{m:Machine}{e:Exit}{a:Act}{w:World}(f:Good P c Q b k cs e a w)(d:Arrives P m b (.inScope c::k) cs e a w):
  ∃e a' w',Q e a' w'/\Arrives P m b k cs e a' w':=by
 cases e with
 |normal=>exact⟨.normal,a,w,f,Steps.trans d (.one step_inScope)⟩
 |exit id=>exact⟨.exit id,a,w,f,λi h=>d i (by simp[exitTo,h])⟩
 |goto l=>
  simp only[Good]at f;cases hf:findLabel c l with
  |none=>
   rw[hf]at f;exact⟨.goto l,a,w,f,λi h=>d i (by simp[gotoIn,hf,h])⟩
  |some r=>
   rw[hf]at f;obtain⟨p,n,o,j,g⟩:=f;exact⟨p,n,o,j,.of_steps (d _ (by simp[gotoIn,hf])) g⟩
 |ret=>exact⟨_,a,w,f,d⟩
 |panic ch=>exact⟨_,a,w,f,d⟩
 |outgrown=>exact⟨_,a,w,f,d⟩
theorem NX{r:Code}{a:Act}{w:World}(h:r.wp P (Good P c Q b k cs) a w):Reach P c Q b k cs a w r:=by obtain⟨e,a',w',f,d⟩:=h b (.inScope c::k) cs;exact NW f d
theorem Dx{a:Act}{w:World}(h:∀b k cs,c.wp P (Good P c Q b k cs) a w):(Code.scope c).wp P Q a w:=by intro b k cs;obtain⟨e,m,l,g,d⟩:=h b k cs b (.inScope c::k) cs;obtain⟨j,a',w',f,i⟩:=NW g d;exact⟨j,a',w',f,.of_steps (.one step_scope) i⟩
variable {rec:Rec}
section
variable {C:Ctx}
theorem Cl(s:FQ C n rec){c:Code}{m:List (Nat×List cN)}{u:QT}{q:Exit->Act->World->Prop}{b:Frame}{k:List Item}{t:List Frame}{ρ:Env}{a0:Act}{w0:World}
  (j:∀e f d i,Fits n d f->Ext ρ f a0 d->dh w0 i->u e f i.heap->Good C.P c q b k t e d i):
  ∀(g:Nat) (e:Exit) (f:Env) (d:Act) (i:World),Fits n d f->Ext ρ f a0 d->dh w0 i->FP rec c m u g e f i.heap->Good C.P c q b k t e d i
 |0,_,_,_,_,_,_,_,h=>h.elim
 |g+1,e,f,d,i,hf,hx,hl,h=>by
  cases e with
  |goto l=>
   simp only[FP]at h;split at h
   .split at h
    .rename_i p r o;obtain⟨F,v,x,_⟩:=sv o;simp only[Good,v];refine NX (x ?_);refine lj (λe a w B=>?_) _ _ _ (pA s _ _ _ f d i hf h);obtain⟨z,E,y,D,A⟩:=B;exact Cl s j g e z a w E (hx.trans y) (hl.trans D) A
    .exact h.elim
   .exact j _ _ _ _ hf hx hl h
  |normal=>exact j _ _ _ _ hf hx hl h
  |exit id=>exact j _ _ _ _ hf hx hl h
  |ret=>exact j _ _ _ _ hf hx hl h
  |panic ch=>exact j _ _ _ _ hf hx hl h
  |outgrown=>exact j _ _ _ _ hf hx hl h
theorem oW{c:Code}{Q:QT}{b:Frame}{k:List Item}{o:List Frame}{ρ:Env}{a0:Act}{w0:World}{e:Exit}{a:Env}{j:Act}{i:World}
  (d:Fits n j a) (f:Ext ρ a a0 j) (g:dh w0 i) (h:NU c Q e a i.heap):Good C.P c (Out n Q ρ a0 w0) b k o e j i:=by
 cases e with
 |goto l=>
  simp only[NU]at h;simp only[Good];split at h
  .rename_i m;simp only[m];exact⟨a,d,f,g,h⟩
  .exact h.elim
 |normal=>exact⟨a,d,f,g,h⟩
 |exit id=>exact⟨a,d,f,g,h⟩
 |ret=>exact⟨a,d,f,g,h⟩
 |panic ch=>exact⟨a,d,f,g,h⟩
 |outgrown=>exact⟨a,d,f,g,h⟩
theorem LG{a:Act}{σ:dF}{κ:dt}{ρ:Env}{s:σ.den}(b:Fits n a ρ)(c:σ.read ρ=some s):Fits n a (σ.vals s (κ.over ρ))/\Ext ρ (σ.vals s (κ.over ρ)) a a:=
 b.rE b (λ_ _ _=>rfl) c
theorem Rq(G:FQ C n rec){c:Code}{l:Nat}{σ:dF}{κ:dt}{pre rest:List cN}{H:List (Nat×List cN)}{p r:List Code}(U:chain c l=some (p,r)){Q:QT}{ρ:Env}{a:Act}{w:World}(hf:Fits n a ρ)
  (h:An rec p pre (FO (λρ' h'=>match σ.read ρ' with
     |some S=>gX (λs K h=>An rec r rest (FP rec c H (UB l σ κ (σ.vals s (κ.over ρ')) K (NU c Q)) 4) (σ.vals s (κ.over ρ')) h) S h'
     |none=>False) (NU c Q)) ρ w.heap):(Code.scope c).wp C.P (Out n Q ρ a w) a w:=by
 refine Dx λb k cs=>?_;obtain⟨kk,h1,h2,h3⟩:=sv U;refine h3 (lj (λe a' w' y=>?_) _ _ _ (pA G _ _ _ ρ a w hf h));refine y.then (λρ' N x2 x3 B=>?_) (λy _=>?_)
 .split at B
  .rename_i S L;obtain⟨τ,V,I,μ,t0,e0,X,i⟩:=B;subst e0;have g:=LG (κ:=κ) N L;have x:∀(m:Nat) (t:τ) (v:Act) (o:World),μ t=m->I t o.heap->Fits n v (σ.vals (V t) (κ.over ρ'))->Ext ρ' (σ.vals (V t) (κ.over ρ')) a' v->dh w' o->
     og C.P r (Good C.P c (Out n Q ρ a w) b k cs) v o:=by
    intro m
    induction m using Nat.strongRecOn with
    |_ m ih=>
     intro t v o Z z A f d;refine lj (λe W w2 y=>?_) _ _ _ (pA G _ _ _ _ v o A (i t o.heap z));obtain⟨ρ2,F,J,E,M⟩:=y;refine Cl G (ρ:=σ.vals (V t) (κ.over ρ')) (a0:=v) (w0:=o) (λe R a3 w3 j u z3 z4=>?_) 4 e ρ2 W w2 F J E M;cases e with
     |goto l'=>
      simp only[UB]at z4;cases hb:wO l' l with
      |false=>
       rw[hb]at z4;exact oW j (x2.trans (f.trans u)) (x3.trans (d.trans z3)) z4
      |true=>
       rw[hb]at z4;have:=zP hb;subst this;simp only[Good,h1];cases hw:within σ κ R (R.length-(σ.vals (V t) (κ.over ρ')).length)with
       |false=>rw[hw]at z4;exact z4.elim
       |true=>
        rw[hw]at z4;simp only[cond_true]at z4;split at z4
        .rename_i s' D;have q:∀t,σ.has t=false->(κ.over []).fo t=false->a3.tmps[t]?=a'.tmps[t]?:=λt O T=>by
          rw[u.within hw t O T,f.rE t O T]
         obtain⟨u1,Y⟩:=N.rE (κ:=κ) j q D;obtain⟨t',e1,i1,i2⟩:=z4;subst e1;exact NX (h2 (ih _ (by rw[<-Z];exact i2) t' a3 w3 rfl i1 u1 Y (d.trans z3)))
        .exact z4.elim
     |normal=>exact oW j (x2.trans (f.trans u)) (x3.trans (d.trans z3)) z4
     |exit id=>exact oW j (x2.trans (f.trans u)) (x3.trans (d.trans z3)) z4
     |ret=>exact oW j (x2.trans (f.trans u)) (x3.trans (d.trans z3)) z4
     |panic ch=>exact oW j (x2.trans (f.trans u)) (x3.trans (d.trans z3)) z4
     |outgrown=>exact oW j (x2.trans (f.trans u)) (x3.trans (d.trans z3)) z4
   exact x _ t0 a' w' rfl X g.1 g.2 (dh.refl _)
  .exact B.elim
 .obtain⟨ρ1,F,J,E,M⟩:=y;exact oW F J E M
theorem aeX(U:C.Ok)(o:FQ C n rec):FQ C n (NV C n rec):=by
 intro c R Q ρ a w g h;have u:∀{σ:dF} {κ:dt} {K:σ.den->Heap->Prop} {e:Exit} {a':Act} {w':World},Out n (IB σ κ ρ K Q) ρ a w e a' w'->(∀s h,K s h->Q .normal (σ.vals s (κ.over ρ)) h)->Out n Q ρ a w e a' w':=by
  intro σ κ K e a' w' j hk;obtain⟨ρ',f,x2,x3,d⟩:=j;cases e with
  |normal=>
   simp only[IB]at d;cases hw:within σ κ ρ' (ρ'.length-ρ.length)with
   |false=>rw[hw]at d;exact d.elim
   |true=>
    rw[hw]at d;simp only[cond_true]at d;split at d
    .rename_i s Y;obtain⟨G,J⟩:=g.rE (κ:=κ) f (x2.within hw) Y;exact⟨_,G,J,x3,hk _ _ d⟩
    .exact d.elim
  |exit id=>exact⟨ρ',f,x2,x3,d⟩
  |goto l=>exact⟨ρ',f,x2,x3,d⟩
  |ret=>exact⟨ρ',f,x2,x3,d⟩
  |panic ch=>exact⟨ρ',f,x2,x3,d⟩
  |outgrown=>exact⟨ρ',f,x2,x3,d⟩
 unfold NV at h;split at h
 .rename_i σ κ x;obtain⟨K,P,Z⟩:=h;exact wp_mono (o c x _ ρ a w g Z) λe a' w' j=>u j P
 .split at h
  .exact wp_skip ⟨ρ,g,Ext.refl _ _,dh.refl _,h⟩
  .exact wp_label ⟨ρ,g,Ext.refl _ _,dh.refl _,h⟩
  .exact wp_mono (NT U g h) λe a' w' j=>j.2
  .rename_i x y;refine wp_seq (wp_mono (o x _ _ ρ a w g h) λe a' w' j=>j.then (λρ' f x2 x3 d=>?_) λj _=>j);exact wp_mono (o y _ _ ρ' a' w' f d) λe W ab j=>j.base x2 x3
  .rename_i x y z;split at h
   .rename_i t O;refine wp_cond_split (g.eval O) (λe=>?_) (λe=>?_)
    .subst e;exact o y _ _ ρ a w g h
    .subst e;exact o z _ _ ρ a w g h
   .exact h.elim
  .rename_i id x;refine wp_block (wp_mono (o x _ _ ρ a w g h) λe a' w' j=>?_);obtain⟨ρ',f,x2,x3,d⟩:=j;cases e with
   |exit i=>
    simp only[Exit.inBlock];simp only[Xt]at d;cases hb:wO i id with
    |true=>
     rw[hb]at d;rw[if_pos (zP hb)];exact⟨ρ',f,x2,x3,d⟩
    |false=>
     rw[hb]at d;rw[if_neg λe=>by subst e;simp at hb];exact⟨ρ',f,x2,x3,d⟩
   |normal=>exact⟨ρ',f,x2,x3,d⟩
   |goto l=>exact⟨ρ',f,x2,x3,d⟩
   |ret=>exact⟨ρ',f,x2,x3,d⟩
   |panic ch=>exact⟨ρ',f,x2,x3,d⟩
   |outgrown=>exact⟨ρ',f,x2,x3,d⟩
  .exact wp_exit ⟨ρ,g,Ext.refl _ _,dh.refl _,h⟩
  .exact wp_goto ⟨ρ,g,Ext.refl _ _,dh.refl _,h⟩
  .exact wp_ret ⟨ρ,g,Ext.refl _ _,dh.refl _,h⟩
  .rename_i x;split at h
   .rename_i σ κ y _;split at h
    .rename_i s0 F;obtain⟨τ,V,I,μ,t0,e0,hI,q⟩:=h;subst e0;have m:=LG (κ:=κ) g F;refine Xr (σ:=τ) (λt B D=>Fits n B (σ.vals (V t) (κ.over ρ))/\Ext ρ (σ.vals (V t) (κ.over ρ)) a B/\dh w D/\I t D.heap) (λt _=>μ t) t0 ⟨m.1,m.2,dh.refl _,hI⟩ ?_;rintro t B D ⟨E,v,z3,z4⟩;refine wp_mono (o x y _ _ B D E (q t _ z4)) λe S w2 j=>?_;obtain⟨ρ',f,x2,x3,d⟩:=j;cases e with
     |normal=>
      simp only[IB]at d;cases hw:within σ κ ρ' (ρ'.length-(σ.vals (V t) (κ.over ρ)).length)with
      |false=>rw[hw]at d;exact d.elim
      |true=>
       rw[hw]at d;simp only[cond_true]at d;split at d
       .rename_i s' H;have A:∀t,σ.has t=false->(κ.over []).fo t=false->S.tmps[t]?=a.tmps[t]?:=λt L M=>by
         rw[x2.within hw t L M,v.rE t L M]
        obtain⟨G,J⟩:=g.rE (κ:=κ) f A H;obtain⟨t',T,i1,X⟩:=d;subst T;exact⟨t',⟨G,J,z3.trans x3,i1⟩,X⟩
       .exact d.elim
     |exit id=>exact⟨ρ',f,v.trans x2,z3.trans x3,d⟩
     |goto l=>exact⟨ρ',f,v.trans x2,z3.trans x3,d⟩
     |ret=>exact⟨ρ',f,v.trans x2,z3.trans x3,d⟩
     |panic ch=>exact⟨ρ',f,v.trans x2,z3.trans x3,d⟩
     |outgrown=>exact⟨ρ',f,v.trans x2,z3.trans x3,d⟩
    .exact h.elim
   .exact h.elim
  .rename_i x;split at h
   .split at h
    .rename_i p r N;exact Rq o N g h
    .exact h.elim
   .refine Dx λb k cs=>wp_mono (o x _ _ ρ a w g h) λe a' w' j=>?_;obtain⟨ρ',f,x2,x3,d⟩:=j;exact Cl o (ρ:=ρ) (a0:=a) (w0:=w) (λe ρ3 a3 w3 E v z3 z4=>oW E v z3 z4) 4 e ρ' a' w' f x2 x3 d
   .exact h.elim
  .exact h.elim
theorem NY(a:C.Ok):∀f,FQ C n (vc C n f)
 |0=>λ_ _ _ _ _ _ _ h=>h.elim
 |f+1=>aeX a (NY a f)
end
def DT(C:Ctx)(ρ:Env):List ResultVar->(List Value->Prop)->Heap->Prop
 |[],K,_=>K []
 | .tmp t::r,K,h=>match ρ.get t with
  |some v=>DT C ρ r (λvs=>K (v::vs)) h
  |none=>False
 | .cell a t::r,K,h=>match uy C.T (.load t (.tmp a)) ρ.eval with
  |some q=>∃y:q.ty.den,q.holds h y/\DT C ρ r (λvs=>K (q.ty.enc y::vs)) h
  |none=>False
def DU:List Value->Value
 |[v]=>v
 |vs=>.tuple vs.toArray
def ajc(C:Ctx)(rs:List ResultVar)(R:Value->Heap->Prop):QT
 | .normal,ρ,h=>DT C ρ rs (λvs=>R (DU vs) h) h
 | .ret,ρ,h=>DT C ρ rs (λvs=>R (DU vs) h) h
 |_,_,_=>False
def DV:Nat->List Value->Env
 |_,[]=>[]
 |n,v::r=>.val n v::DV (n+1) r
def Xu(C:Ctx)(d:Func)(a:Nat)(b:cN)(args:List Value)(R:Value->Heap->Prop)(h:Heap):Prop:=
 match d.body with
 |some c=>vc C d.ntmps a c b (ajc C d.results.toList R) (DV 0 args) h
 |none=>False
theorem IC:∀{args:List Value} {n t:Nat} {v:Value},(DV n args).get t=some v->n<=t/\args[t-n]?=some v
 |[],_,_,_,h=>by cases h
 |u::r,n,t,v,h=>by
  simp only[DV,Env.get]at h;cases hb:wO n t with
  |true=>
   rw[hb]at h;have:=zP hb;subst this;simpa using h
  |false=>
   rw[hb]at h;obtain⟨c,b⟩:=IC (args:=r) h;refine⟨by omega,?_⟩;obtain⟨k,a⟩:∃k,t-n=k+1:=⟨t-(n+1),by omega⟩
   rw[a,List.getElem?_cons_succ];have:t-(n+1)=k:=by omega
   rw[<-this];exact b
theorem abe{C:BH}(h:C.Ok){ev:Operand->Option Value}{e:Operand->Value}(d:∀x v,ev x=some v->e x=v){t:TypeId}{x:Operand}{q:Ak}
  (f:uy C.T (.load t x) ev=some q) {y:q.ty.den} {w:World} (g:q.holds w.heap y):(xt t (e x)).run C.P w=.ok (q.ty.enc y) w:=by
 have c:(do pure (Next.value (<-xt t (e x))):Sem Next).run C.P w=.ok (.value (q.ty.enc y)) w:=Ci h d (o:=⟨none,.load t x,0, "",#[],none⟩) f g;rw[Sem.run_bind]at c;cases hr:(xt t (e x)).run C.P w with
 |halt a b=>rw[hr]at c;cases c
 |ok v w'=>
  rw[hr]at c;simp only[Result.andThen_ok]at c;cases c;rfl
theorem DW{C:Ctx}(j:C.Ok){n:Nat}{a:Act}{ρ:Env}(d:Fits n a ρ):∀{rs:List ResultVar} {K:List Value->Prop} {w:World},DT C ρ rs K w.heap->
  ∃vs,(rs.mapM (λ| .tmp t=>pure (a.tmps.getD t undef)| .cell x t=>(do loadVar t (<-asAddr (a.tmps.getD x undef)):Sem Value)):Sem (List Value)).run C.P w=.ok vs w/\K vs
 |[],K,w,h=>⟨[],rfl,h⟩
 | .tmp t::r,K,w,h=>by
  simp only[DT]at h;split at h
  .rename_i v s;obtain⟨vs,g,i⟩:=DW j d h;refine⟨v::vs,?_,i⟩;have l:a.tmps.getD t undef=v:=by simp[Array.getD_eq_getD_getElem?,d.get t v s]
   rw[List.mapM_cons,Sem.run_bind,Sem.run_pure,Result.andThen_ok,Sem.run_bind,g,l];rfl
  .exact h.elim
 | .cell x t::r,K,w,h=>by
  simp only[DT]at h;split at h
  .rename_i q f;obtain⟨y,p,h⟩:=h;obtain⟨vs,g,i⟩:=DW j d h;refine⟨q.ty.enc y::vs,?_,i⟩;have m:=abe j.toOk (e:=a.eval) (λx v h=>d.eval h) f p;have o:∃c,a.eval (.tmp x)=.pointer (some c):=by
    unfold uy at f;simp only at f;split at f
    .rename_i c b;exact⟨c,d.eval b⟩
    .cases f
   obtain⟨c,b⟩:=o;have l:a.tmps.getD x undef=.pointer (some c):=b;rw[b]at m;rw[List.mapM_cons,Sem.run_bind];simp only[l];have k:(do loadVar t (<-asAddr (.pointer (some c))):Sem Value).run C.P w=.ok (q.ty.enc y) w:=m;rw[k,Result.andThen_ok,Sem.run_bind,g];rfl
  .exact h.elim
theorem Tt{C:Ctx}(o:C.Ok){f:FuncId}{b:Func}(q:C.P.funcs[f]?=some b){a:Nat}{i:cN}{args:List Value}(z:args.length<=b.ntmps){R:Value->Heap->Prop}{h:Heap}
  (j:Xu C b a i args R h):ai C.P f args.toArray h R:=by
 rintro w rfl;unfold Xu at j;split at j
 .rename_i c u;refine calls_of_wp q u ?_;have d:Fits b.ntmps {tmps:=args.toArray++vO (b.ntmps-args.toArray.size) undef,defers:=[]} (DV 0 args):=by refine⟨by simp;omega,rfl,λt v x=>?_⟩;obtain⟨_,g⟩:=IC x;rw[Nat.sub_zero]at g;have k:t<args.length:=(qk.1 g).1;simp only[Array.getElem?_append,List.size_toArray,k,if_true,List.getElem?_toArray];exact g
  refine wp_mono (NY o a c i _ _ _ w d j) λe a' w' y=>?_;obtain⟨ρ',l,x2,x3,m⟩:=y;have fin:DT C ρ' b.results.toList (λvs=>R (DU vs) w'.heap) w'.heap->a'.defers=[]/\∃v,(results b a'.tmps).run C.P w'=.ok v w'/\(∃n,Ending.returned v=.returned n/\dh w w'/\R n w'.heap):=λs=>by
   obtain⟨vs,p,g⟩:=DW o l s;refine⟨l.defers,DU vs,?_,DU vs,rfl,x3,g⟩;unfold results;rw[vJ,map_eq_pure_bind,bind_assoc,Sem.run_bind];refine(congrArg (λr=>Result.andThen r _) p).trans ?_;simp only[Result.andThen_ok,pure_bind,Sem.run_pure];cases vs with
   |nil=>rfl
   |cons v r=>cases r<;>rfl
  cases e<;>first|exact fin m|exact m.elim
 .exact j.elim
theorem agr{C:Ctx}(i:C.Ok){f:FuncId}{b:Func}(c:C.P.funcs[f]?=some b)(a:cN){args:List Value}{R:Value->Heap->Prop}{h:Heap}{Q:Prop}(d:Q)
  (g:xr args.length b.ntmps=true:=by kernel_rfl) (e:Xu C b 300 a args R h=Q:=by kernel_rfl):ai C.P f args.toArray h R:=Tt i c (zK g) (cast e.symm d)
def bx(P:Program)(s:Sem Value)(r:Rt)(h:Heap)(K:r.den->Heap->Prop):Prop:=au P s h λv h'=>∃x:r.den,v=r.enc x/\K x h'
def pB(P:Program)(s:Sem Value)(h:Heap)(K:Addr->Heap->Prop):Prop:=au P s h λv h'=>∃a:Addr,v=.pointer (some a)/\K a h'
def oy(P:Program)(f:FuncId)(args:Array Value)(r:Rt)(h:Heap)(K:r.den->Heap->Prop):Prop:=ai P f args h λv h'=>∃x:r.den,v=r.enc x/\K x h'
def uB(C:Ctx)(g:FuncId)(args:List Value)(r:Rt)(h:Heap)(K:r.den->Heap->Prop):Prop:=
 match C.fns[g]? with
 |some true=>oy C.P g args.toArray r h K
 |_=>False
theorem dV{C:Ctx}{g:FuncId}{args:List Value}{r:Rt}{h:Heap}{K:r.den->Heap->Prop}(b:C.fns[g]?=some true)(a:oy C.P g args.toArray r h K):uB C g args r h K:=by unfold uB;rw[b];exact a
namespace Rk
open Go
inductive Er where
 |val (t:Nat) (v:Value)
 |tf (t:Nat) (b:Nat)
abbrev Ev:=List Er
def ags:Nat->Value
 |0=>.bool false
 |_+1=>.bool true
def UC:Bool->Value->Ev->Nat->Value
 |true,x,_,_=>x
 |false,_,[],_=>.tuple #[]
 |false,_,.val s x::r,t=>UC (s==t) x r t
 |false,_,.tf s n::r,t=>UC (s==t) (ags n) r t
abbrev Hl(ρ:Ev)(t:Nat):Value:=UC false (.tuple #[]) ρ t
inductive Gd where
 |k (n:Nat)
 |v (v:Value)
def NC:Bool->Gd->Ev->Nat->Gd
 |true,x,_,_=>x
 |false,_,[],_=>.k 0
 |false,_,.val s x::r,t=>NC (s==t) (.v x) r t
 |false,_,.tf s n::r,t=>NC (s==t) (.k n) r t
abbrev agt(ρ:Ev)(t:Nat):Gd:=NC false (.k 0) ρ t
def fp(ρ:Ev):Operand->Value
 | .tmp t=>Hl ρ t
 | .const v=>v
 | .global g=>.pointer (some ⟨g,0,none⟩)
 | .func f=>.func (.func f) #[] #[]
def ID(ρ:Ev):List Operand->List Value
 |[]=>[]
 |x::r=>fp ρ x::ID ρ r
def ND(ρ:Ev):List (Nat×Operand)->List (Nat×Value)
 |[]=>[]
 |(n,x)::r=>(n,fp ρ x)::ND ρ r
def IE(ρ:Ev):Option Operand->Option Value
 |none=>none
 |some x=>some (fp ρ x)
def UD:Bool->Bool
 |true=>false
 |false=>true
def agu:Bool->Bool->Bool
 |true,b=>b
 |false,_=>false
def abf:Bool->Bool->Bool
 |true,_=>true
 |false,b=>b
def Hm:Bool->Bool->Bool
 |true,b=>UD b
 |false,_=>false
def nF{α:Type}(d:α):List α->Nat->α
 |[],_=>d
 |a::_,0=>a
 |_::r,n+1=>nF d r n
def NZ{α:Type}:Nat->List α->List α
 |0,l=>l
 |_+1,[]=>[]
 |n+1,_::r=>NZ n r
def Oa{α:Type}:Nat->List α->List α
 |0,_=>[]
 |_+1,[]=>[]
 |n+1,a::r=>a::Oa n r
def sw{α:Type}:List α->List α->List α
 |[],m=>m
 |a::r,m=>a::sw r m
def abg{α:Type}:List α->Nat
 |[]=>0
 |_::r=>abg r+1
def UE:TI:=⟨.other,.sc .any,0,0,[]⟩
def agv(l:List TI)(t:Nat):TI:=nF UE l t
def UF:nV->Nat->Nat×TypeId
 | .struct fs,f=>nF (0,0) fs f
 | .int _,_| .bool,_| .str,_| .flt,_| .cpx,_| .mp,_| .fn,_| .other,_| .slice _,_| .array ..,_| .ptr _,_=>(0,0)
def IF:nV->TypeId
 | .slice e=>e
 | .array _ e=>e
 | .int _| .bool| .str| .flt| .cpx| .mp| .fn| .other| .struct _| .ptr _=>0
inductive Rz:Type 1 where
 |val (v:Value)
 |cond (c:Prop) (v:Value)
 |ex (X:Type) (c:X->Prop) (v:X->Value)
 |br (b:Bool) (x y:Value)
 |ld (a:Addr) (t:Ty) (n:Nat)
 |ru (α:Type) (s:Sem α)
 |ra (s:Sem Value)
 |rr (s:Sem Value) (t:Rt)
 |ca (f:FuncId) (l:List Value) (t:Rt)
 |dy (f:FuncId) (l:List Value) (t:Rt)
 |bad
def agw:Value->Value->Value->Rz
 | .bool b,x,y=>.br b x y
 |_,_,_=>.bad
def agx:Value->Rz
 | .pointer p=>.ex Addr (λa=>p=some a) (λa=>.pointer (some a))
 |_=>.bad
def agy:Value->Nat->Rz
 | .pointer (some a),n=>.val (.pointer (some (a.add n)))
 |_,_=>.bad
def agz:Value->Value->nV->Nat->Rz
 | .slice p len _,.int _ n,.slice _,z=>.ex Addr (λa=>p=some a/\0<=n/\n<(len:Int)) (λa=>.pointer (some (a.add (n.toNat*z))))
 | .pointer (some a),.int _ n,.array m _,z=>.cond (0<=n/\n<(m:Int)) (.pointer (some (a.add (n.toNat*z))))
 |_,_,_,_=>.bad
def adC:Ty->Nat->List Value->Int->Array Value->Rz
 | .sc s,m,_,n,cs=>.ex s.den (λy=>0<=n/\n<(m:Int)/\cs[n.toNat]?=some (s.enc y)) (λy=>s.enc y)
 |_,_,_,_,_=>.bad
def agA:Value->Value->nV->Ty->Rz
 | .string s,.int _ n,.str,_=>.ex UInt8 (λb=>0<=n/\s.data[n.toNat]?=some b) (λb=>.int .u8 b.toNat)
 | .agg cs,.int _ n,.array m _,t=>adC t m [] n cs
 |_,_,_,_=>.bad
def adD:nV->List Value->Nat->Nat->Value
 | .struct _,cs,o,z=>.agg (Oa z (NZ o cs)).toArray
 | .array ..,cs,o,z=>.agg (Oa z (NZ o cs)).toArray
 | .int _,cs,o,_| .bool,cs,o,_| .str,cs,o,_| .flt,cs,o,_| .cpx,cs,o,_| .mp,cs,o,_| .fn,cs,o,_| .other,cs,o,_| .slice _,cs,o,_| .ptr _,cs,o,_=>nF (.tuple #[]) cs o
def agB:Value->Nat->TI->Rz
 | .agg cs,o,i=>.val (adD i.cD cs.toList o i.size)
 |_,_,_=>.bad
def agC:Value->Nat->Rz
 | .tuple vs,n=>.val (nF (.tuple #[]) vs.toList n)
 |_,_=>.bad
def agD:Value->nV->Nat->Option Value->Option Value->Rz
 | .slice p n c,.slice _,_,none,none=>.val (.slice p n c)
 | .slice p _ c,.slice _,_,none,some (.int _ r)=>.cond (0<=r/\r<=(c:Int)) (.slice p r.toNat c)
 | .slice p n c,.slice _,z,some (.int _ l),none=>.cond (0<=l/\l<=(n:Int)) (.slice (if c=l.toNat then p else p.map (·.add (l.toNat*z))) (n-l.toNat) (c-l.toNat))
 | .slice p _ c,.slice _,z,some (.int _ l),some (.int _ r)=>.cond (0<=l/\l<=r/\r<=(c:Int)) (.slice (if c=l.toNat then p else p.map (·.add (l.toNat*z))) (r.toNat-l.toNat) (c-l.toNat))
 | .string s,.str,_,none,none=>.val (.string (s.extract 0 s.size))
 | .string s,.str,_,none,some (.int _ r)=>.cond (0<=r/\r<=(s.size:Int)) (.string (s.extract 0 r.toNat))
 | .string s,.str,_,some (.int _ l),none=>.cond (0<=l/\l<=(s.size:Int)) (.string (s.extract l.toNat s.size))
 | .string s,.str,_,some (.int _ l),some (.int _ r)=>.cond (0<=l/\l<=r/\r<=(s.size:Int)) (.string (s.extract l.toNat r.toNat))
 | .pointer (some a),.array n _,_,none,none=>.val (.slice (some a) n n)
 | .pointer (some a),.array n _,_,none,some (.int _ r)=>.cond (0<=r/\r<=(n:Int)) (.slice (some a) r.toNat n)
 | .pointer (some a),.array n _,z,some (.int _ l),none=>.cond (0<=l/\l<=(n:Int)) (.slice (some (if n=l.toNat then a else a.add (l.toNat*z))) (n-l.toNat) (n-l.toNat))
 | .pointer (some a),.array n _,z,some (.int _ l),some (.int _ r)=>.cond (0<=l/\l<=r/\r<=(n:Int)) (.slice (some (if n=l.toNat then a else a.add (l.toNat*z))) (r.toNat-l.toNat) (n-l.toNat))
 |_,_,_,_,_=>.bad
def agE(k:IntKind)(a b:Int):BinOp->Rz
 | .add=>.val (.int k (k.wrap (a+b)))
 | .sub=>.val (.int k (k.wrap (a-b)))
 | .mul=>.val (.int k (k.wrap (a*b)))
 | .quo=>.cond (b≠0) (.int k (k.wrap (a.tdiv b)))
 | .rem=>.cond (b≠0) (.int k (a.tmod b))
 | .and=>.val (.int k (k.wrap (qP k.bits a&&&qP k.bits b).toNat))
 | .or=>.val (.int k (k.wrap (qP k.bits a|||qP k.bits b).toNat))
 | .xor=>.val (.int k (k.wrap (qP k.bits a^^^qP k.bits b).toNat))
 | .andNot=>.val (.int k (k.wrap (qP k.bits a&&&~~~qP k.bits b).toNat))
 | .shl=>.cond (0<=b) (.int k (k.wrap (a*2^min b.toNat k.bits)))
 | .shr=>.cond (0<=b) (.int k (a.fdiv (2^min b.toNat k.bits)))
 | .eql=>.val (.bool (a==b))
 | .neq=>.val (.bool (a !=b))
 | .lss=>.val (.bool (decide (a<b)))
 | .leq=>.val (.bool (decide (a<=b)))
 | .gtr=>.val (.bool (decide (a>b)))
 | .geq=>.val (.bool (decide (a>=b)))
def agF(a b:ByteArray):BinOp->Rz
 | .eql=>.val (.bool (a.toList==b.toList))
 | .neq=>.val (.bool (!(a.toList==b.toList)))
 | .lss=>.val (.bool (Op.bytesLess a.toList b.toList))
 | .leq=>.val (.bool (Op.bytesLess a.toList b.toList||a.toList==b.toList))
 | .gtr=>.val (.bool (!(Op.bytesLess a.toList b.toList||a.toList==b.toList)))
 | .geq=>.val (.bool (!(Op.bytesLess a.toList b.toList)))
 | .add=>.cond (((a.size+b.size:Nat):Int)<=xP.max) (.string (a++b))
 |_=>.bad
def agG(a b:Bool):BinOp->Rz
 | .eql=>.val (.bool (a==b))
 | .neq=>.val (.bool (!(a==b)))
 |_=>.bad
def agH(k:FloatKind)(a b:Nat):BinOp->Rz
 | .add=>.ex Nat (λr=>k.format.add a b=some r) (λr=>.float k r)
 | .sub=>.ex Nat (λr=>k.format.sub a b=some r) (λr=>.float k r)
 | .mul=>.ex Nat (λr=>k.format.mul a b=some r) (λr=>.float k r)
 | .quo=>.ex Nat (λr=>k.format.div a b=some r) (λr=>.float k r)
 | .eql=>.val (.bool (k.format.order a b==some .eq))
 | .neq=>.val (.bool (k.format.order a b !=some .eq))
 | .lss=>.val (.bool (k.format.order a b==some .lt))
 | .gtr=>.val (.bool (k.format.order a b==some .gt))
 |_=>.bad
def Ob{α:Type}(p:Option α):BinOp->Rz
 | .eql=>.val (.bool p.isNone)
 | .neq=>.val (.bool (!p.isNone))
 |_=>.bad
def agI(P:Program)(k:FloatKind)(op:BinOp)(t:TypeId)(x y:Operand)(a b:Value):BinOp->Rz
 | .eql=>.ex Bool (λr=>kM P op t x y a b (.bool r)) (λr=>.bool r)
 | .neq=>.ex Bool (λr=>kM P op t x y a b (.bool r)) (λr=>.bool r)
 |_=>.ex (Nat×Nat) (λr=>kM P op t x y a b (.complex k r.1 r.2)) (λr=>.complex k r.1 r.2)
def UG(P:Program)(op:BinOp)(t:TypeId)(x y:Operand)(a b:Value):Rz:=.ex Bool (λr=>kM P op t x y a b (.bool r)) (λr=>.bool r)
def agJ(P:Program)(op:BinOp)(t:TypeId)(x:Operand)(p q:Option Addr):Operand->Rz
 | .tmp n=>UG P op t x (.tmp n) (.pointer p) (.pointer q)
 | .const _=>Ob p op
 | .global _=>Ob p op
 | .func _=>Ob p op
def adE(P:Program)(op:BinOp)(t:TypeId)(x y:Operand):Value->Value->Rz
 | .int k a,.int _ b=>agE k a b op
 | .float k a,.float _ b=>agH k a b op
 | .string a,.string b=>agF a b op
 | .bool a,.bool b=>agG a b op
 | .pointer a,.pointer b=>agJ P op t x a b y
 | .slice a _ _,.slice .. =>Ob a op
 | .agg a,.agg b=>UG P op t x y (.agg a) (.agg b)
 | .complex k a b,.complex k' c e=>agI P k op t x y (.complex k a b) (.complex k' c e) op
 |a,.nilIface=>UG P op t x y a .nilIface
 |_,_=>.bad
def agK:UnOp->Value->Rz
 | .not,.bool b=>.val (.bool !b)
 | .neg,.int k n=>.val (.int k (k.wrap (0-n)))
 | .xor,.int k n=>.val (.int k (k.wrap (qP k.bits (if k.signed then-1 else k.max)^^^qP k.bits n).toNat))
 |_,_=>.bad
def agL(s d:TypeId)(v:Value)(a:Ty):nV->nV->Value->Rz
 | .int _,.int k,.int _ n=>.val (.int k (k.wrap n))
 |_,_,_=>.rr (convert s d v) (.one a)
def Tu:Value->List Value
 | .agg cs=>cs.toList
 | .bool b=>[.bool b]
 | .int k n=>[.int k n]
 | .float k n=>[.float k n]
 | .complex k a b=>[.complex k a b]
 | .string s=>[.string s]
 | .pointer a=>[.pointer a]
 | .slice a l c=>[.slice a l c]
 | .map r=>[.map r]
 | .chan r=>[.chan r]
 | .func f a c=>[.func f a c]
 | .nilFunc=>[.nilFunc]
 | .iface t v=>[.iface t v]
 | .nilIface=>[.nilIface]
 | .tuple vs=>[.tuple vs]
def adF(l:List Value)(o:Nat)(c:List Value):List Value:=sw (Oa o l) (sw c (NZ (o+abg c) l))
def Xv:nV->Nat->Nat->Nat
 | .struct fs,_,n=>(nF (0,0) fs n).1
 | .array _ _,z,n=>n*z
 | .int _,_,_| .bool,_,_| .str,_,_| .flt,_,_| .cpx,_,_| .mp,_,_| .fn,_,_| .other,_,_| .slice _,_,_| .ptr _,_,_=>0
def UH(d:nV)(z:Nat):List Value->List (Nat×Value)->List Value
 |l,[]=>l
 |l,(n,v)::r=>UH d z (adF l (Xv d z n) (Tu v)) r
def agM:Nat->Bool
 |0=>false
 |_+1=>true
def adG(P:Program)(t:TypeId)(i:TI)(z:Nat)(vs:List (Nat×Value)):Bool->Rz
 |true=>.ex Value (λv=>aI P (xm t vs.toArray) v) (λv=>v)
 |false=>.val (.agg (UH i.cD z i.zero vs).toArray)
def UI:Value->TI->Rz
 | .pointer (some a),i=>.ld a i.ty i.size
 |_,_=>.bad
def Xw(a:Array TypeId)(ty:TypeId):Value->Rz
 | .slice _ n _=>.val (.int .i64 n)
 | .string s=>.val (.int .i64 s.size)
 | .map r=>.rr (xE a ty #[.map r]) (.one (.sc (.int .i64)))
 |_=>.bad
def Xx:Value->Rz
 | .slice _ _ n=>.val (.int .i64 n)
 |_=>.bad
def abh:Bool->List Value->Rz
 |true,[.int k a,.int _ b]=>.val (.int k (if b>a then b else a))
 |false,[.int k a,.int _ b]=>.val (.int k (if b<a then b else a))
 |_,_=>.bad
def UJ:Bool->List Value->Rz
 |true,[.complex k a _]=>.val (.float k a)
 |false,[.complex k _ b]=>.val (.float k b)
 |_,_=>.bad
def abi(T:Nat->TI)(t:TypeId):Bool->List Ty->List (TypeId×List Ty)->Rt
 |true,l,_=>.many l
 |false,_,[]=>.one (T t).ty
 |false,_,(k,l)::r=>abi T t (k==t) l r
abbrev UK(T:Nat->TI)(t:TypeId)(l:List (TypeId×List Ty)):Rt:=abi T t false [] l
def adH:Value->List Value->Rt->Rz
 | .func (.func g) a c,l,t=>.dy g (a.toList++l++c.toList) t
 |_,_,_=>.bad
def adI(a:Array TypeId)(ty:TypeId)(vs:List Value):Builtin->Rz
 | .append=>.rr (zA a ty vs.toArray) (.one (.sc .slc))
 | .copy=>.rr (yh a ty vs.toArray) (.one (.sc (.int .i64)))
 | .clear=>.ru Value (vS a ty vs.toArray)
 | .delete=>.ru Value (Builtin.delete_ a ty vs.toArray)
 | .unsafeString=>.rr (Builtin.unsafeString_ a ty vs.toArray) (.one (.sc .str))
 | .len=>Xw a ty (nF (.tuple #[]) vs 0)
 | .cap=>Xx (nF (.tuple #[]) vs 0)
 | .min=>abh false vs
 | .max=>abh true vs
 | .real=>UJ true vs
 | .imag=>UJ false vs
 |_=>.bad
def adJ(T:Nat->TI)(tup:List (TypeId×List Ty))(ρ:Ev)(ty:TypeId)(vs:List Value)(a:Array TypeId):Callee->Rz
 | .value (.func f)=>.ca f vs (UK T ty tup)
 | .value (.tmp t)=>adH (Hl ρ t) vs (UK T ty tup)
 | .builtin b=>adI a ty vs b
 |_=>.bad
def adK(P:Program)(T:Nat->TI)(tup:List (TypeId×List Ty))(ty:TypeId)(ρ:Ev):Op->Rz
 | .move x=>.val (fp ρ x)
 | .assign x=>.val (fp ρ x)
 | .pick c a b=>agw (fp ρ c) (fp ρ a) (fp ρ b)
 | .nilCheck x=>agx (fp ρ x)
 | .fieldAddr s x f=>agy (fp ρ x) (UF (T s).cD f).1
 | .indexAddr t x i=>agz (fp ρ x) (fp ρ i) (T t).cD (T (IF (T t).cD)).size
 | .index t x i=>agA (fp ρ x) (fp ρ i) (T t).cD (T (IF (T t).cD)).ty
 | .field s x f=>agB (fp ρ x) (UF (T s).cD f).1 (T (UF (T s).cD f).2)
 | .slice t x Hm hi none=>agD (fp ρ x) (T t).cD (T (IF (T t).cD)).size (IE ρ Hm) (IE ρ hi)
 | .slice t x Hm hi (some m)=>.rr (w5 t (fp ρ x) (IE ρ Hm) (IE ρ hi) (some (fp ρ m))) (.one (.sc .slc))
 | .extract x n=>agC (fp ρ x) n
 | .binOp op t x y _=>adE P op t x y (fp ρ x) (fp ρ y)
 | .unOp op _ x=>agK op (fp ρ x)
 | .convert s d x=>agL s d (fp ρ x) (T ty).ty (T s).cD (T d).cD (fp ρ x)
 | .build t ps=>adG P t (T t) (T (IF (T t).cD)).size (ND ρ ps.toList) (agM ((T t).size-24))
 | .makeFunc f a c=>.val (.func f (ID ρ a.toList).toArray (ID ρ c.toList).toArray)
 | .load t x=>UI (fp ρ x) (T t)
 | .store t a x=>.ru Unit (qH t (fp ρ a) (fp ρ x))
 | .alloc t=>.ra (yQ t true (.tuple #[]))
 | .box t x=>.ra (vD t (fp ρ x))
 | .makeSlice t l c=>.rr (zD t (fp ρ l) (fp ρ c)) (.one (.sc .slc))
 | .buildSlice t n ps=>.rr (zO t n (ND ρ ps.toList).toArray) (.one (.sc .slc))
 | .makeMap t none=>.rr (xj t none) (.one (.sc .mp))
 | .lookup t x i ok=>.rr (xF t (fp ρ x) (fp ρ i) ok) (UK T ty tup)
 | .mapUpdate t m k x=>.ru Unit (yZ t (fp ρ m) (fp ρ k) (fp ρ x))
 | .insert t m k x=>.ru Unit (yZ t (fp ρ m) (fp ρ k) (fp ρ x))
 | .call ⟨c,as,tys⟩=>adJ T tup ρ ty (ID ρ as.toList) tys c
 |_=>.bad
inductive Kt:Type 1 where
 |top (rs:List ResultVar)
 |seq (c:Code) (a:cN) (k:Kt)
 |fm (id:Nat) (k:Kt)
 |jn (σ:dF) (K:σ.den->Heap->Prop) (k:Kt)
 |back (l:Nat) (σ:dF) (K:σ.den->Heap->Prop) (k:Kt)
 |lst (cs:List Code) (as:List cN) (k:Kt)
 |jmp (c:Code) (fwd:List (Nat×List cN)) (k:Kt)
 |hd (l:Nat) (σ:dF) (r:List Code) (as:List cN) (fwd:List (Nat×List cN)) (c:Code) (k:Kt)
def Oc:cN->cN
 | .two a _=>a
 | .n| .inn _| .loop .. | .join .. | .scope .. | .fwd .. =>.n
def Od:cN->cN
 | .two _ b=>b
 | .n| .inn _| .loop .. | .join .. | .scope .. | .fwd .. =>.n
def Xy:cN->cN
 | .inn a=>a
 | .n| .two .. | .loop .. | .join .. | .scope .. | .fwd .. =>.n
def adL(a b:Code):Option (List Code×List Code)->Option (List Code×List Code)->Option (List Code×List Code)
 |some (p,r),_=>some (p,sw r [b])
 |none,some (p,r)=>some (a::p,r)
 |none,none=>none
def adM:Bool->Option (List Code×List Code)
 |true=>some ([],[])
 |false=>none
def IG:Code->Nat->Option (List Code×List Code)
 | .seq a b,l=>adL a b (IG a l) (IG b l)
 | .label k,l=>adM (k==l)
 | .skip,_| .region ..,_| .cond ..,_| .block ..,_| .loop _,_| .rangeFunc ..,_| .exit _,_| .scope _,_| .goto _,_| .ret,_| .refuse _,_=>none
def UL:Bool->List cN->List (Nat×List cN)->Nat->Option (List cN)
 |true,x,_,_=>some x
 |false,_,[],_=>none
 |false,_,(k,x)::r,l=>UL (k==l) x r l
abbrev adN(w:List (Nat×List cN))(l:Nat):Option (List cN):=UL false [] w l
def IH:(s:Sc)->Value->Option s.den
 | .int _,.int _ n=>some n
 | .bool,.bool x=>some x
 | .str,.string x=>some x
 | .ptr,.pointer a=>some a
 | .slc,.slice a l c=>some ⟨a,l,c⟩
 | .flt _,.float _ n=>some n
 | .cpx _,.complex _ a b=>some (a,b)
 | .mp,.map r=>some r
 | .fn,.func (.func g) f c=>some (g,f,c)
 | .any,v=>some v
 | .adr,.pointer (some a)=>some a
 |_,_=>none
def abj{α β:Type}:Option α->Option β->Option (α×β)
 |some a,some b=>some (a,b)
 |some _,none=>none
 |none,_=>none
def Kv:(l:List Sc)->List Value->Option (AZ l)
 |[],_=>some ()
 |[s],[v]=>IH s v
 |s::t::r,v::vs=>abj (IH s v) (Kv (t::r) vs)
 |_::_,_=>none
def Oe:(t:Ty)->Value->Option t.den
 | .sc s,v=>IH s v
 | .agg l,.agg cs=>Kv l cs.toList
 |_,_=>none
def Kw:(σ:dF)->Ev->Option σ.den
 |[],_=>some ()
 |[(t,y)],ρ=>Oe y (Hl ρ t)
 |(t,y)::x::r,ρ=>abj (Oe y (Hl ρ t)) (Kw (x::r) ρ)
def II:(σ:dF)->σ.den->Ev->Ev
 |[],_,ρ=>ρ
 |[(t,y)],x,ρ=>.val t (y.enc x)::ρ
 |(t,y)::z::r,x,ρ=>.val t (y.enc x.1)::II (z::r) x.2 ρ
def abk{α:Type}(K:α->Heap->Prop)(h:Heap):Option α->Prop
 |some s=>K s h
 |none=>False
def Kx{σ:Type}(B:σ->(σ->Heap->Prop)->Heap->Prop)(h:Heap):Option σ->Prop
 |some s=>gX B s h
 |none=>False
inductive Hd where
 |l (c:bR)
 |a (a:Addr) (vs:List Value)
abbrev Hi:=List (Nat×Hd)
def IJ:List Oper->Nat->List (Nat×Oper)
 |[],_=>[]
 |o::r,n=>(n,o)::IJ r (n+1)
def IK(l:List (Nat×Oper)):List Nat->List (Nat×Oper)
 |[]=>[]
 |n::r=>nF (0,⟨none,.ready 0,0, "",#[],none⟩) l n::IK l r
inductive Sd where
 |l (ns:List Nat)
 |y (ns:List Nat) (a b:Sd)
def abl(id:Nat):Bool->Sd->List (Nat×Sd)->Option Sd
 |true,x,_=>some x
 |false,_,[]=>none
 |false,_,(k,x)::r=>abl id (k==id) x r
def abm:Nat×Oper->Nat
 |(_,⟨some d,_,_,_,_,_⟩)=>d
 |(_,⟨none,_,_,_,_,_⟩)=>0
def adO:Ground->Bool
 | .data| .chain| .guard| .phase=>true
 | .textOnly _| .gcOnly _=>false
def abn:List Edge->Nat->Bool
 |[],_=>false
 |⟨n,g⟩::r,i=>abf (agu (adO g) (n==i)) (abn r i)
def UM:Bool->Nat×Hd->Hi->Hi
 |true,_,r=>r
 |false,p,r=>p::r
def Of(e:List Edge):Hi->Hi
 |[]=>[]
 |p::r=>UM (abn e p.1) p (Of e r)
def NE:Hi->bR
 |[]=>[]
 |(_,.l c)::r=>sw c (NE r)
 |(_,.a x vs)::r=>oF x 0 vs (NE r)
def Hn(e:List Edge)(L:Hi)(h:Heap):Bool->Prop->Prop
 |true,X=>bR.ok (NE (Of e L)) h/\X
 |false,X=>X
def adP(e:List Edge)(L:Hi):Bool->Hi
 |true=>Of e L
 |false=>L
def Ky(e:List Edge)(L:Hi):Bool->Hi
 |true=>Of e L
 |false=>[]
def oH:Option Tmp->Value->Ev->Ev
 |some d,v,ρ=>.val d v::ρ
 |none,_,ρ=>ρ
def UN(dr:Bool)(n:Nat)(c:Hd)(L:Hi):Hi:=UM (UD dr) (n,c) L
def abo(a:Addr):Nat->List Value->bR
 |_,[]=>[]
 |n,v::r=>(a.add n,v)::abo a (n+1) r
def UO:Ty->Bool
 | .sc .slc=>true
 |_=>false
def UP(T:Nat->TI):Op->Bool
 | .convert s d _=>UD (abf (UO (T s).ty) (UO (T d).ty))
 | .move _| .assign _| .pick .. | .nilCheck _| .fieldAddr .. | .indexAddr .. | .index .. | .field .. | .extract .. | .binOp .. | .unOp .. | .build .. | .makeFunc .. | .load .. =>true
 | .slice _ _ _ _ none=>true
 | .call ⟨.builtin .len,_,_⟩| .call ⟨.builtin .cap,_,_⟩| .call ⟨.builtin .min,_,_⟩| .call ⟨.builtin .max,_,_⟩| .call ⟨.builtin .real,_,_⟩| .call ⟨.builtin .imag,_,_⟩=>true
 |_=>false
inductive Al where
 |n
 |y (a b:Sd)
structure Rg where
 all:List (Nat×Oper)
 dr:Bool
 al:Al
inductive St:Type 1 where
 |ex (c:Code) (a:cN) (k:Kt) (ρ:Ev)
 |e2 (c:Code) (a:cN) (k:Kt) (ρ:Ev)
 |cd (v:Value) (c d:Code) (a:cN) (k:Kt) (ρ:Ev)
 |ap (e:Exit) (k:Kt) (ρ:Ev)
 |bt (b:Bool) (x y:St)
 |fin (σ:dF) (K:σ.den->Heap->Prop) (ρ:Ev)
 |jp (o:Option (List cN)) (q:Option (List Code×List Code)) (l:Nat) (c:Code) (fwd:List (Nat×List cN)) (k:Kt) (ρ:Ev)
 |sc (q:Option (List Code×List Code)) (l:Nat) (σ:dF) (pre rest:List cN) (fwd:List (Nat×List cN)) (c:Code) (k:Kt) (ρ:Ev)
 |rg (os:List (Nat×Oper)) (r:Rg) (L:Hi) (k:Kt) (ρ:Ev)
 |so (o:Option Sd) (all:List (Nat×Oper)) (k:Kt) (ρ:Ev)
 |st (s:Sd) (all:List (Nat×Oper)) (dr:Bool) (L:Hi) (k:Kt) (ρ:Ev)
 |gd (g:Gd) (w:Bool) (d n:Nat) (o:Oper) (os:List (Nat×Oper)) (r:Rg) (L:Hi) (k:Kt) (ρ:Ev)
 |on (n:Nat) (o:Oper) (os:List (Nat×Oper)) (r:Rg) (L:Hi) (k:Kt) (ρ:Ev)
 |sk (n:Nat) (o:Oper) (os:List (Nat×Oper)) (r:Rg) (L:Hi) (k:Kt) (ρ:Ev)
 |rs (z:Rz) (n:Nat) (d:Option Tmp) (e:List Edge) (os:List (Nat×Oper)) (r:Rg) (L:Hi) (k:Kt) (ρ:Ev)
 |re (rs:List ResultVar) (acc:List Value) (ρ:Ev)
 |rl (z:Rz) (rs:List ResultVar) (acc:List Value) (ρ:Ev)
def bg(C:Ctx)(T:Nat->TI)(S:List (Nat×Sd))(R:Value->Heap->Prop):Nat->St->Heap->Prop
 |0,_,_=>False
 |f+1,.ex c (.join σ _ a) k ρ,h=>Am (λs h=>bg C T S R f (.ap .normal k (II σ s ρ)) h) (λK=>bg C T S R f (.e2 c a (.jn σ K k) ρ) h)
 |f+1,.ex c .n k ρ,h=>bg C T S R f (.e2 c .n k ρ) h
 |f+1,.ex c (.two a b) k ρ,h=>bg C T S R f (.e2 c (.two a b) k ρ) h
 |f+1,.ex c (.inn a) k ρ,h=>bg C T S R f (.e2 c (.inn a) k ρ) h
 |f+1,.ex c (.loop σ κ a) k ρ,h=>bg C T S R f (.e2 c (.loop σ κ a) k ρ) h
 |f+1,.ex c (.scope l σ κ p r w) k ρ,h=>bg C T S R f (.e2 c (.scope l σ κ p r w) k ρ) h
 |f+1,.ex c (.fwd a w) k ρ,h=>bg C T S R f (.e2 c (.fwd a w) k ρ) h
 |f+1,.e2 .skip _ k ρ,h=>bg C T S R f (.ap .normal k ρ) h
 |f+1,.e2 (.label _) _ k ρ,h=>bg C T S R f (.ap .normal k ρ) h
 |f+1,.e2 (.region id ops true) _ k ρ,h=>bg C T S R f (.so (abl id false (.l []) S) (IJ ops.toList 0) k ρ) h
 |f+1,.e2 (.region _ ops false) _ k ρ,h=>bg C T S R f (.rg (IJ ops.toList 0) ⟨IJ ops.toList 0,false,.n⟩ [] k ρ) h
 |f+1,.e2 (.seq x y) a k ρ,h=>bg C T S R f (.ex x (Oc a) (.seq y (Od a) k) ρ) h
 |f+1,.e2 (.cond x c d) a k ρ,h=>bg C T S R f (.cd (fp ρ x) c d a k ρ) h
 |f+1,.e2 (.block id c) a k ρ,h=>bg C T S R f (.ex c (Xy a) (.fm id k) ρ) h
 |f+1,.e2 (.exit id) _ k ρ,h=>bg C T S R f (.ap (.exit id) k ρ) h
 |f+1,.e2 (.goto l) _ k ρ,h=>bg C T S R f (.ap (.goto l) k ρ) h
 |f+1,.e2 .ret _ k ρ,h=>bg C T S R f (.ap .ret k ρ) h
 |f+1,.e2 (.loop c) (.loop σ _ a) k ρ,h=>Kx (λs K h=>bg C T S R f (.ex c a (.jn σ K k) (II σ s ρ)) h) h (Kw σ ρ)
 |f+1,.e2 (.scope c) (.scope l σ _ pre rest fwd) k ρ,h=>bg C T S R f (.sc (IG c l) l σ pre rest fwd c k ρ) h
 |f+1,.e2 (.scope c) (.fwd a fwd) k ρ,h=>bg C T S R f (.ex c a (.jmp c fwd k) ρ) h
 |f+1,.cd (.bool t) c d a k ρ,h=>Br t (bg C T S R f (.ex c (Oc a) k ρ) h) (bg C T S R f (.ex d (Od a) k ρ) h)
 |f+1,.sc (some (p,r)) l σ pre rest fwd c k ρ,h=>bg C T S R f (.ap .normal (.lst p pre (.hd l σ r rest fwd c k)) ρ) h
 |f+1,.bt true x _,h=>bg C T S R f x h
 |f+1,.bt false _ y,h=>bg C T S R f y h
 |f+1,.fin σ K ρ,h=>abk K h (Kw σ ρ)
 |f+1,.jp (some xs) (some (_,r)) _ c fwd k ρ,h=>bg C T S R f (.ap .normal (.lst r xs (.jmp c fwd k)) ρ) h
 |f+1,.jp none _ l _ _ k ρ,h=>bg C T S R f (.ap (.goto l) k ρ) h
 |f+1,.ap .normal (.top rs) ρ,h=>bg C T S R f (.re rs [] ρ) h
 |f+1,.ap .ret (.top rs) ρ,h=>bg C T S R f (.re rs [] ρ) h
 |f+1,.ap .normal (.seq c a k) ρ,h=>bg C T S R f (.ex c a k ρ) h
 |f+1,.ap (.exit i) (.seq _ _ k) ρ,h=>bg C T S R f (.ap (.exit i) k ρ) h
 |f+1,.ap (.goto i) (.seq _ _ k) ρ,h=>bg C T S R f (.ap (.goto i) k ρ) h
 |f+1,.ap .ret (.seq _ _ k) ρ,h=>bg C T S R f (.ap .ret k ρ) h
 |f+1,.ap .normal (.fm _ k) ρ,h=>bg C T S R f (.ap .normal k ρ) h
 |f+1,.ap (.exit i) (.fm id k) ρ,h=>bg C T S R f (.bt (i==id) (.ap .normal k ρ) (.ap (.exit i) k ρ)) h
 |f+1,.ap (.goto i) (.fm _ k) ρ,h=>bg C T S R f (.ap (.goto i) k ρ) h
 |f+1,.ap .ret (.fm _ k) ρ,h=>bg C T S R f (.ap .ret k ρ) h
 |f+1,.ap .normal (.jn σ K _) ρ,h=>abk K h (Kw σ ρ)
 |f+1,.ap (.exit i) (.jn _ _ k) ρ,h=>bg C T S R f (.ap (.exit i) k ρ) h
 |f+1,.ap (.goto i) (.jn _ _ k) ρ,h=>bg C T S R f (.ap (.goto i) k ρ) h
 |f+1,.ap .ret (.jn _ _ k) ρ,h=>bg C T S R f (.ap .ret k ρ) h
 |f+1,.ap .normal (.back _ _ _ k) ρ,h=>bg C T S R f (.ap .normal k ρ) h
 |f+1,.ap (.exit i) (.back _ _ _ k) ρ,h=>bg C T S R f (.ap (.exit i) k ρ) h
 |f+1,.ap (.goto i) (.back l σ K k) ρ,h=>bg C T S R f (.bt (i==l) (.fin σ K ρ) (.ap (.goto i) k ρ)) h
 |f+1,.ap .ret (.back _ _ _ k) ρ,h=>bg C T S R f (.ap .ret k ρ) h
 |f+1,.ap .normal (.lst [] _ k) ρ,h=>bg C T S R f (.ap .normal k ρ) h
 |f+1,.ap .normal (.lst (c::cs) [] k) ρ,h=>bg C T S R f (.ex c .n (.lst cs [] k) ρ) h
 |f+1,.ap .normal (.lst (c::cs) (x::xs) k) ρ,h=>bg C T S R f (.ex c x (.lst cs xs k) ρ) h
 |f+1,.ap (.exit i) (.lst _ _ k) ρ,h=>bg C T S R f (.ap (.exit i) k ρ) h
 |f+1,.ap (.goto i) (.lst _ _ k) ρ,h=>bg C T S R f (.ap (.goto i) k ρ) h
 |f+1,.ap .ret (.lst _ _ k) ρ,h=>bg C T S R f (.ap .ret k ρ) h
 |f+1,.ap .normal (.jmp _ _ k) ρ,h=>bg C T S R f (.ap .normal k ρ) h
 |f+1,.ap (.exit i) (.jmp _ _ k) ρ,h=>bg C T S R f (.ap (.exit i) k ρ) h
 |f+1,.ap (.goto l) (.jmp c fwd k) ρ,h=>bg C T S R f (.jp (adN fwd l) (IG c l) l c fwd k ρ) h
 |f+1,.ap .ret (.jmp _ _ k) ρ,h=>bg C T S R f (.ap .ret k ρ) h
 |f+1,.ap .normal (.hd l σ r as fwd c k) ρ,h=>Kx (λs K h=>bg C T S R f (.ap .normal (.lst r as (.jmp c fwd (.back l σ K k))) (II σ s ρ)) h) h (Kw σ ρ)
 |f+1,.ap (.exit i) (.hd _ _ _ _ _ _ k) ρ,h=>bg C T S R f (.ap (.exit i) k ρ) h
 |f+1,.ap (.goto i) (.hd _ _ _ _ _ _ k) ρ,h=>bg C T S R f (.ap (.goto i) k ρ) h
 |f+1,.ap .ret (.hd _ _ _ _ _ _ k) ρ,h=>bg C T S R f (.ap .ret k ρ) h
 |f+1,.so none all k ρ,h=>bg C T S R f (.rg all ⟨all,true,.n⟩ [] k ρ) h
 |f+1,.so (some s) all k ρ,h=>bg C T S R f (.st s all true [] k ρ) h
 |f+1,.st (.l ns) all dr L k ρ,h=>bg C T S R f (.rg (IK all ns) ⟨all,dr,.n⟩ L k ρ) h
 |f+1,.st (.y ns a b) all dr L k ρ,h=>bg C T S R f (.rg (IK all ns) ⟨all,dr,.y a b⟩ L k ρ) h
 |f+1,.rg [] ⟨_,_,.n⟩ _ k ρ,h=>bg C T S R f (.ap .normal k ρ) h
 |f+1,.rg [] ⟨all,dr,.y a b⟩ L k ρ,h=>bg C T S R f (.st a all dr L k ρ) h/\bg C T S R f (.st b all dr L k ρ) h
 |f+1,.rg ((n,⟨d,o,t,p,e,none⟩)::os) r L k ρ,h=>bg C T S R f (.on n ⟨d,o,t,p,e,none⟩ os r L k ρ) h
 |f+1,.rg ((n,⟨d,o,t,p,e,some (j,w)⟩)::os) r L k ρ,h=>bg C T S R f (.gd (agt ρ (abm (nF (0,⟨none,.ready 0,0, "",#[],none⟩) r.all j))) w (abm (nF (0,⟨none,.ready 0,0, "",#[],none⟩) r.all j)) n ⟨d,o,t,p,e,some (j,w)⟩ os r L k ρ) h
 |f+1,.gd (.k 0) true _ n o os r L k ρ,h=>bg C T S R f (.sk n o os r L k ρ) h
 |f+1,.gd (.k 0) false _ n o os r L k ρ,h=>bg C T S R f (.on n o os r L k ρ) h
 |f+1,.gd (.k (_+1)) true _ n o os r L k ρ,h=>bg C T S R f (.on n o os r L k ρ) h
 |f+1,.gd (.k (_+1)) false _ n o os r L k ρ,h=>bg C T S R f (.sk n o os r L k ρ) h
 |f+1,.gd (.v (.tuple _)) _ _ n o os r L k ρ,h=>bg C T S R f (.sk n o os r L k ρ) h
 |f+1,.gd (.v (.bool b)) true d n o os r L k ρ,h=>Br b (bg C T S R f (.on n o os r L k (.tf d 1::ρ)) h) (bg C T S R f (.sk n o os r L k (.tf d 0::ρ)) h)
 |f+1,.gd (.v (.bool b)) false d n o os r L k ρ,h=>Br b (bg C T S R f (.sk n o os r L k (.tf d 1::ρ)) h) (bg C T S R f (.on n o os r L k (.tf d 0::ρ)) h)
 |f+1,.on n ⟨d,o,t,_,e,_⟩ os r L k ρ,h=>bg C T S R f (.rs (adK C.P T C.tup t ρ o) n d e.toList os r L k ρ) h
 |f+1,.sk _ ⟨d,o,_,_,e,_⟩ os r L k ρ,h=>Hn e.toList L h (Hm r.dr (UP T o)) (bg C T S R f (.rg os r (adP e.toList L (Hm r.dr (UP T o))) k (oH d undef ρ)) h)
 |f+1,.rs (.val v) _ d _ os r L k ρ,h=>bg C T S R f (.rg os r L k (oH d v ρ)) h
 |f+1,.rs (.cond c v) _ d _ os r L k ρ,h=>c/\bg C T S R f (.rg os r L k (oH d v ρ)) h
 |f+1,.rs (.ex X c v) _ d _ os r L k ρ,h=>∃x:X,c x/\bg C T S R f (.rg os r L k (oH d (v x) ρ)) h
 |f+1,.rs (.br b x y) _ d _ os r L k ρ,h=>Br b (bg C T S R f (.rg os r L k (oH d x ρ)) h) (bg C T S R f (.rg os r L k (oH d y ρ)) h)
 |f+1,.rs (.ld a (.sc s) _) n d _ os r L k ρ,h=>∃x:s.den,cellOf h a=some (s.enc x)/\bg C T S R f (.rg os r (UN r.dr n (.l [(a,s.enc x)]) L) k (oH d (s.enc x) ρ)) h
 |f+1,.rs (.ld a (.agg l) _) n d _ os r L k ρ,h=>∃x:AZ l,bj h a 0 (nX l x)/\bg C T S R f (.rg os r (UN r.dr n (.l (abo a 0 (nX l x))) L) k (oH d (.agg (nX l x).toArray) ρ)) h
 |f+1,.rs (.ld a (.arr s) m) n d _ os r L k ρ,h=>∃x:List s.den,(x.length=m/\bj h a 0 (x.map s.enc))/\bg C T S R f (.rg os r (UN r.dr n (.a a (x.map s.enc)) L) k (oH d (.agg (x.map s.enc).toArray) ρ)) h
 |f+1,.rs (.ru _ s) _ d e os r L k ρ,h=>au C.P s h λ_ h'=>Hn e L h' r.dr (bg C T S R f (.rg os r (Ky e L r.dr) k (oH d undef ρ)) h')
 |f+1,.rs (.ra s) _ d e os r L k ρ,h=>pB C.P s h λa h'=>Hn e L h' r.dr (bg C T S R f (.rg os r (Ky e L r.dr) k (oH d (.pointer (some a)) ρ)) h')
 |f+1,.rs (.rr s t) _ d e os r L k ρ,h=>bx C.P s t h λx h'=>Hn e L h' r.dr (bg C T S R f (.rg os r (Ky e L r.dr) k (oH d (t.enc x) ρ)) h')
 |f+1,.rs (.ca g l t) _ d e os r L k ρ,h=>oy C.P g l.toArray t h λx h'=>Hn e L h' r.dr (bg C T S R f (.rg os r (Ky e L r.dr) k (oH d (t.enc x) ρ)) h')
 |f+1,.rs (.dy g l t) _ d e os r L k ρ,h=>uB C g l t h λx h'=>Hn e L h' r.dr (bg C T S R f (.rg os r (Ky e L r.dr) k (oH d (t.enc x) ρ)) h')
 |f+1,.re [] [] _,h=>R (.tuple #[]) h
 |f+1,.re [] [v] _,h=>R v h
 |f+1,.re [] (v::w::r) _,h=>R (.tuple (v::w::r).toArray) h
 |f+1,.re (.tmp t::r) acc ρ,h=>bg C T S R f (.re r (sw acc [Hl ρ t]) ρ) h
 |f+1,.re (.cell a t::r) acc ρ,h=>bg C T S R f (.rl (UI (Hl ρ a) (T t)) r acc ρ) h
 |f+1,.rl (.ld a (.sc s) _) r acc ρ,h=>∃x:s.den,cellOf h a=some (s.enc x)/\bg C T S R f (.re r (sw acc [s.enc x]) ρ) h
 |f+1,.rl (.ld a (.agg l) _) r acc ρ,h=>∃x:AZ l,bj h a 0 (nX l x)/\bg C T S R f (.re r (sw acc [.agg (nX l x).toArray]) ρ) h
 |f+1,.rl (.ld a (.arr s) m) r acc ρ,h=>∃x:List s.den,(x.length=m/\bj h a 0 (x.map s.enc))/\bg C T S R f (.re r (sw acc [.agg (x.map s.enc).toArray]) ρ) h
 |_+1,_,_=>False
def UQ:Nat->List Value->Ev
 |_,[]=>[]
 |n,v::r=>.val n v::UQ (n+1) r
theorem aix{α:Type}(l:List α):(l.toArray).toList=l:=rfl
theorem aiy(a:Addr):a.add 0=a:=rfl
theorem aiz(s:Sl):Sl.mk s.ptr s.len s.cap=s:=rfl
theorem agN(A B:Prop):Br true A B=A:=rfl
theorem agO(A B:Prop):Br false A B=B:=rfl
end Rk
abbrev bH:=List (List UInt8)
abbrev aL:=List UInt8
abbrev cg:=List (List Int)
abbrev az:=List Int
abbrev bD:=Option Go.Addr
abbrev aT:=List Go.Value
abbrev Bd:=Go.Value->Qw.Heap->Prop
abbrev Kz:=Go.FuncId×Array Go.Value×Array Go.Value
abbrev cN.tn(a:Qw.cN):Qw.cN:=.two .n a
abbrev cN.lp(L:Qw.dF)(S:Qw.dt):Qw.cN:=.two (.two .n (.inn (.loop L S .n))) .n
abbrev cN.jn(L:Qw.dF)(S:Qw.dt)(a:Qw.cN):Qw.cN:=.two (.join L S .n) a
universe u
theorem f8{c:Prop}{h:Decidable c}(hc:c){α:Sort u}{t e:α}:ite c t e=t:=if_pos hc
theorem f9{c:Prop}{h:Decidable c}(hnc:¬c){α:Sort u}{t e:α}:ite c t e=e:=if_neg hnc
theorem g0{p:Prop}[inst:Decidable p]:p->decide p=true:=decide_eq_true
theorem g9{p:Prop}[inst:Decidable p]:¬p->decide p=false:=decide_eq_false
theorem hU{p:Prop}[inst:Decidable p]:decide p=true->p:=of_decide_eq_true
theorem hZ{α:Sort u}{a:α}:a=a:=rfl
theorem x7:True:=trivial
theorem x6{α:Sort u}(a:α):∃b,b=a:=⟨_,rfl⟩
theorem ii{p:Prop}(h:p:=by omega):p:=h
theorem i0{p:Prop}(h:p:=by decide):p:=h
theorem i4{p:Prop}(h:p:=by dsimp only;omega):p:=h
theorem i5{p:Prop}(h:p:=by simp;omega):p:=h
theorem i6{p:Prop}(h:p:=by simp):p:=h
theorem i7{p:Prop}(h:p:=by dsimp only;rw[ag _];rfl):p:=h
theorem i9{p:Prop}(h:p:=by rw[ag _];rfl):p:=h
theorem jj{p:Prop}(h:p:=by cases e):p:=h
theorem js{p:Prop}(h:p:=by kernel_rfl):p:=h
theorem j0{p:Prop}(h:p:=by decide+kernel):p:=h
theorem j1{p:Prop}(h:p:=by rw[ag _];omega):p:=h
theorem j3{p:Prop}(h:p:=by(try dsimp only at c);split at c<;>split at c<;>(try split at c)<;>(try split at c)<;>omega):p:=h
theorem j4{p:Prop}(h:p:=by simpa using h):p:=h
theorem j5{p:Prop}(h:p:=by simpa using a):p:=h
theorem j6{p:Prop}(h:p:=by rw[addr_add];exact hb.cell hZ):p:=h
theorem j7{p:Prop}(h:p:=by simp[Value.cells]):p:=h
theorem j8{p:Prop}(h:p:=by cases h):p:=h
theorem j9{p:Prop}(h:p:=by simpa using b):p:=h
theorem kt{p:Prop}(h:p:=by rfl):p:=h
theorem k8{p:Prop}(h:p:=by simp[aK]):p:=h
theorem k9{p:Prop}(h:p:=by rw[bX];omega):p:=h
theorem lb{p:Prop}(h:p:=by simp at d;omega):p:=h
theorem lc{p:Prop}(h:p:=by simpa using e):p:=h
theorem ln{p:Prop}(h:p:=by rw[e1];decide):p:=h
theorem lx{p:Prop}(h:p:=by dsimp only;simp;omega):p:=h
theorem lz{p:Prop}(h:p:=by dsimp only;congr 1;omega):p:=h
theorem l0{p:Prop}(h:p:=by simp[bW];omega):p:=h
theorem l4{p:Prop}(h:p:=by simpa using H):p:=h
theorem l5{p:Prop}(h:p:=by simp[ft]):p:=h
theorem l6{p:Prop}(h:p:=by simp at h):p:=h
theorem l7{p:Prop}(h:p:=by simpa using c):p:=h
theorem l9{p:Prop}(h:p:=by rw[zc];omega):p:=h
theorem mn{p:Prop}(h:p:=by simp[b]):p:=h
theorem m0{p:Prop}(h:p:=by simpa using g):p:=h
theorem m4{p:Prop}(h:p:=by simp[cw];omega):p:=h
theorem m5{p:Prop}(h:p:=by simp[a]):p:=h
theorem m6{p:Prop}(h:p:=by simpa using f):p:=h
theorem m7{p:Prop}(h:p:=by dsimp only;rw[ag _];omega):p:=h
theorem m8{p:Prop}(h:p:=by rw[qu];omega):p:=h
theorem m9{p:Prop}(h:p:=by simp[dO];omega):p:=h
theorem nb{p:Prop}(h:p:=by simp[dL];omega):p:=h
theorem nq{p:Prop}(h:p:=by unfold jk;rw[o.refl];rfl):p:=h
theorem n0{p:Prop}(h:p:=by rw[<-y];exact s.cell0 hZ):p:=h
theorem n3{p:Prop}(h:p:=by simp[iN]):p:=h
theorem n4{p:Prop}(h:p:=by rw[e];rfl):p:=h
theorem n5{p:Prop}(h:p:=by simpa using e2):p:=h
theorem n7{p:Prop}(h:p:=by rw[sU d];omega):p:=h
theorem n8{p:Prop}(h:p:=by simp[c]):p:=h
theorem oa{p:Prop}(h:p:=by rw[J];exact A):p:=h
theorem oi{p:Prop}(h:p:=by rw[qh (qm _)]):p:=h
theorem oj{p:Prop}(h:p:=by unfold fR;simp;omega):p:=h
theorem ol{p:Prop}(h:p:=by assumption):p:=h
theorem oo{p:Prop}(h:p:=by simp[g]):p:=h
theorem o0{p:Prop}(h:p:=by rw[qR];omega):p:=h
theorem o4{p:Prop}(h:p:=by simpa using q):p:=h
theorem o5{p:Prop}(h:p:=by rw[m]):p:=h
theorem o6{p:Prop}(h:p:=by rw[e,d];rfl):p:=h
theorem o7{p:Prop}(h:p:=by simp only at e;omega):p:=h
theorem o8{p:Prop}(h:p:=by simpa using l):p:=h
theorem o9{p:Prop}(h:p:=by rw[ok.la];omega):p:=h
theorem pa{p:Prop}(h:p:=by rw[o];simp):p:=h
theorem pb{p:Prop}(h:p:=by rw[g9 b];rfl):p:=h
theorem pt{p:Prop}(h:p:=by simpa using w):p:=h
theorem p5{p:Prop}(h:p:=by rw[wrap_u64];omega):p:=h
theorem p6{p:Prop}(h:p:=by simp[cw]):p:=h
theorem p7{p:Prop}(h:p:=by simpa using o):p:=h
theorem p8{p:Prop}(h:p:=by simp[d]):p:=h
theorem p9{p:Prop}(h:p:=by rw[s];rfl):p:=h
theorem qa{p:Prop}(h:p:=by simp[f]):p:=h
theorem qb{p:Prop}(h:p:=by simp[iT];omega):p:=h
theorem qs{p:Prop}(h:p:=by simp[fX];omega):p:=h
theorem q0{p:Prop}(h:p:=by simpa using G):p:=h
theorem q6{p:Prop}(h:p:=by rw[r]):p:=h
theorem rb{p:Prop}(h:p:=by simpa using j):p:=h
theorem sb{p:Prop}(h:p:=by simpa using m):p:=h
theorem sp{p:Prop}(h:p:=by simp[e]):p:=h
theorem sr{p:Prop}(h:p:=by rw[mg];omega):p:=h
theorem sz{p:Prop}(h:p:=by rw[iB];omega):p:=h
theorem sR{p:Prop}(h:p:=by rw[J];decide):p:=h
theorem tg{p:Prop}(h:p:=by simpa using i):p:=h
theorem tp{p:Prop}(h:p:=by rw[E]):p:=h
theorem t6{p:Prop}(h:p:=by simp[powC]):p:=h
theorem t7{p:Prop}(h:p:=by cases a):p:=h
theorem t8{p:Prop}(h:p:=by rw[a];rfl):p:=h
theorem u6{p:Prop}(h:p:=by simp[h]):p:=h
abbrev qm:=@Nat.le_refl
abbrev qy:=@Bool.and_eq_true
abbrev zh:=@Bool.false_eq_true
abbrev wb:=@Bool.or_eq_true
abbrev zu:=@List.cons_append
abbrev qk:=@List.getElem?_eq_some_iff
abbrev qO:=@List.getElem?_map
abbrev za:=@List.length_cons
abbrev zH:=@List.mem_append_right
abbrev qT:=@List.mem_cons
abbrev qA:=@List.mem_cons_of_mem
abbrev qF:=@List.mem_cons_self
abbrev qp:=@List.mem_singleton
abbrev qS:=@Option.map_some
abbrev wU:=@Nat.add_assoc
abbrev zl:=@Nat.add_sub_cancel_left
abbrev wE:=@Nat.add_zero
abbrev qQ:=@Nat.le_trans
abbrev qY:=@Nat.lt_of_lt_of_le
abbrev zf:=@Nat.lt_succ_iff_lt_or_eq
abbrev yj:=@Nat.lt_trichotomy
abbrev wz:=@Nat.min_eq_left
abbrev xg:=@Nat.min_le_right
abbrev y8:=@Nat.mod_lt
abbrev wA:=@Nat.mul_le_mul
abbrev zF:=@Nat.mul_le_mul_right
abbrev qX:=@Nat.sub_self
abbrev zM:=@Nat.succ_mul
abbrev zY:=@Nat.zero_add
abbrev yU:=@Array.ext_getElem?
abbrev wL:=@Array.getElem?_modify
abbrev qK:=@List.all_eq_true
abbrev qn:=@List.append_assoc
abbrev qG:=@List.append_nil
abbrev zN:=@List.drop_drop
abbrev qL:=@List.drop_eq_getElem_cons
abbrev zd:=@List.drop_of_length_le
abbrev qZ:=@List.eq_nil_of_length_eq_zero
abbrev yq:=@List.exists_mem_of_ne_nil
abbrev wk:=@List.ext_getElem
abbrev zt:=@List.ext_getElem?
abbrev zm:=@List.filter_append
abbrev zr:=@List.filter_cons
abbrev wV:=@List.filter_eq_nil_iff
abbrev wg:=@List.find?_eq_none
abbrev q9:=@List.flatMap_append
abbrev zb:=@List.flatMap_cons
abbrev wc:=@List.foldl_append
abbrev zB:=@List.foldl_cons
abbrev wT:=@List.foldl_nil
abbrev qd:=@List.getD_eq_getElem?_getD
abbrev ql:=@List.getElem?_append_left
abbrev qi:=@List.getElem?_append_right
abbrev qq:=@List.getElem?_cons_succ
abbrev wQ:=@List.getElem?_drop
abbrev qc:=@List.getElem?_eq_getElem
abbrev qJ:=@List.getElem?_eq_none
abbrev qW:=@List.getElem?_set
abbrev zG:=@List.getElem?_set_ne
abbrev zj:=@List.getElem?_set_self
abbrev zV:=@List.getElem?_toArray
abbrev zL:=@List.getElem?_zipWith
abbrev wB:=@List.getElem_drop
abbrev qf:=@List.getElem_mem
abbrev qB:=@List.getElem_of_mem
abbrev qw:=@List.length_append
abbrev zc:=@List.length_drop
abbrev qu:=@List.length_map
abbrev wy:=@List.length_mergeSort
abbrev zC:=@List.length_range
abbrev zE:=@List.length_set
abbrev qR:=@List.length_take
abbrev qt:=@List.mem_append
abbrev qD:=@List.mem_filter
abbrev zI:=@List.mem_flatMap
abbrev qo:=@List.mem_map
abbrev zw:=@List.mem_of_mem_take
abbrev qz:=@List.mem_range
abbrev wX:=@List.mergeSort_perm
abbrev we:=@List.nil_append
abbrev ye:=@List.pairwise_append
abbrev zx:=@List.pairwise_cons
abbrev zq:=@List.pairwise_iff_getElem
abbrev y6:=@List.range_eq_range'
abbrev zJ:=@List.range_succ
abbrev yz:=@List.set_set
abbrev wY:=@List.size_toArray
abbrev qC:=@List.take_append_drop
abbrev qM:=@List.take_length
abbrev qh:=@List.take_of_length_le
abbrev zo:=@List.take_succ_eq_append_getElem
abbrev yM:=@List.zipWith_append
abbrev yi:=@Bool.not_false
abbrev zS:=@Bool.true_and
abbrev wv:=@Int.emod_lt_of_pos
abbrev w9:=@Int.emod_nonneg
abbrev yk:=@Int.fdiv_eq_ediv_of_nonneg
abbrev vP:=@Int.tmod_lt_of_pos
abbrev qj:=@Int.toNat_natCast
abbrev yJ:=@UInt8.toNat_inj
abbrev wh:=@UInt8.xor_zero
abbrev wG:=@UInt8.zero_xor
abbrev yd:=@BitVec.ofInt_natCast
abbrev wq:=@List.any_eq_false
abbrev z7:=@List.any_eq_true
abbrev wJ:=@List.filter_eq_self
abbrev wu:=@List.findIdx_lt_length
abbrev w8:=@List.getElem_append_left
abbrev qU:=@List.length_filter_le
abbrev qN:=@List.map_append
abbrev zR:=@List.map_cons
abbrev wN:=@List.map_map
abbrev ze:=@List.mem_append_left
abbrev yb:=@List.mem_replicate
abbrev ya:=@List.nodup_cons
abbrev wM:=@Bool.not_eq_true'
abbrev yg:=@Bool.not_true
abbrev vA:=@UInt8.xor_comm
abbrev yA:=@Option.isSome_iff_exists
abbrev w7:=@Int.mul_le_mul
abbrev wH:=@Int.natCast_mul
abbrev vo:=@Int.ofNat_inj
abbrev yW:=@Int.tmod_eq_emod_of_nonneg
abbrev y0:=@List.all_append
abbrev yF:=@List.all_eq_false
abbrev y5:=@List.any_append
abbrev vl:=@List.filter_nil
abbrev z6:=@List.flatMap_nil
abbrev zp:=@List.getElem?_range
abbrev zU:=@List.getElem?_replicate
abbrev yn:=@List.getElem_take
abbrev yS:=@List.getElem_zip
abbrev yp:=@List.length_nil
abbrev yN:=@List.length_zipWith
abbrev yV:=@List.map_mergeSort
abbrev wF:=@List.mem_mergeSort
abbrev zZ:=@List.mem_of_getElem?
abbrev yo:=@List.replicate_succ
abbrev qV:=@List.set_append_right
abbrev zy:=@List.set_cons_succ
abbrev zn:=@List.set_cons_zero
abbrev wx:=@Nat.mul_one
abbrev zk:=@Nat.zero_le
abbrev vn:=@Bool.false_or
abbrev vf:=@Prod.ext
abbrev zW:=@Int.natCast_nonneg
abbrev yP:=@Int.ofNat_le
abbrev z8:=@List.getElem_map
abbrev yK:=@Bool.eq_iff_iff
abbrev yw:=@List.drop_length
abbrev wD:=@List.getElem_append_right
abbrev vH:=@List.map_nil
abbrev va:=@List.replicate_zero
abbrev xH:=@Int.not_lt
abbrev w4:=@List.length_replicate
end Go.Qw
