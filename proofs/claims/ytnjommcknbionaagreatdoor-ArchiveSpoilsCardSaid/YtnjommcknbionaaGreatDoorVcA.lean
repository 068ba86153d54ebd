/- Lemmas for the proof of the law; no condition. -/
import Derived.Calls
import Derived.Orders
import Derived.Scope
import Derived.KernelRfl
import Derived.Laws.Sem
import Derived.OrdersHeld
set_option linter.unusedVariables false
set_option linter.unusedSimpArgs false
open Nat renaming beq -> wb, ble -> vH, blt -> vk, eq_of_beq_eq_true -> zr, le_of_ble_eq_true -> wP, le_refl -> qt
open Bool renaming and_eq_true -> qA, false_eq_true -> q0, or_eq_false_iff -> yi, or_eq_true -> zV, or_false -> vD
open List renaming cons_append -> zk, getElem?_eq_some_iff -> qk, getElem?_map -> qN, length_cons -> zc, mem_cons -> zl, mem_cons_of_mem -> zj, mem_cons_self -> qV, mem_singleton -> qB
open BitVec renaming ofInt -> qq
open Go.IntKind renaming i64 -> vR
open Go.Instr renaming build -> yC, fill -> wc, loadAt -> vv, sliceAt -> yy, sliceBounds -> wN
open Option renaming map_eq_some_iff -> yu, map_some -> qK, some -> wL
open Array renaming ext' -> wY, mapM_eq_mapM_toList -> yL, replicate -> yT, toList_map -> vh
namespace Go.Vc
open Go
abbrev Heap:=Array Obj
def cellOf(h:Heap)(a:Addr):Option Value:=
 match h[a.block]? with
 |some (.cells c _ _)=>if a.spot.isSome then none else c[a.off]?
 |_=>none
def Mn(h:Heap)(a:Addr):Bool:=
 match h[a.block]? with
 |some (.cells _ _ (lo,hi))=>lo<=a.off&&a.off<hi
 |_=>false
def vb(h:Heap)(a:Addr)(v:Value):Heap:=
 h.modify a.block fun
  | .cells c elem frozen=>.cells (if a.spot.isSome then c else c.setIfInBounds a.off v) elem frozen
  |o=>o
def shapeOf(h:Heap)(r:Nat):Option (TypeId×Nat):=match h[r]? with|some (.cells c elem _)=>some (elem,c.size)|_=>none
theorem QK(w:World)(r:Nat):w.shape? r=shapeOf w.heap r:=rfl
theorem EX(w:World)(a:Addr):w.cell? a=cellOf w.heap a:=rfl
theorem TL(w:World)(a:Addr):w.frozen? a=Mn w.heap a:=rfl
theorem TM(w:World)(a:Addr)(v:Value):(w.setCell a v).heap=vb w.heap a v:=rfl
structure ct (w w':World):Prop where
 os:w'.os=w.os
 tape:w'.tape=w.tape
 output:w'.output=w.output
 drawn:w.drawn<=w'.drawn
theorem ct.refl(w:World):ct w w:=⟨rfl,rfl,rfl,qt _⟩
theorem ct.trans{a b c:World}(h:ct a b)(k:ct b c):ct a c:=⟨k.os.trans h.os,k.tape.trans h.tape,k.output.trans h.output,Nat.le_trans h.drawn k.drawn⟩
def ab(P:Program)(f:FuncId)(args:Array Value)(h:Heap)(R:Value->Heap->Prop):Prop:=
 ∀w,w.heap=h->Calls P f args w fun e w'=>∃v,e=.returned v/\ct w w'/\R v w'.heap
theorem ab.mono{P:Program}{f:FuncId}{args:Array Value}{h:Heap}{R b:Value->Heap->Prop}(e:ab P f args h R)
  (d:∀v a,R v a->b v a):ab P f args h b:=fun w g=>
 (e w g).mono fun _ _ ⟨v,c,i,r⟩=>⟨v,c,i,d _ _ r⟩
def ae{α:Type}(P:Program)(s:Sem α)(h:Heap)(K:α->Heap->Prop):Prop:=
 ∀w,w.heap=h->∃v w',s.run P w=.ok v w'/\ct w w'/\K v w'.heap
section
variable {α β:Type} {P:Program} {h:Heap}
theorem ae.pure'{K:α->Heap->Prop}{a:α}(c:K a h):ae P (Pure.pure a) h K:=fun w b=>⟨a,w,rfl,ct.refl w,by rw[b];exact c⟩
theorem ae.bind{s:Sem α}{f:α->Sem β}{K:β->Heap->Prop}(i:ae P s h fun v g=>ae P (f v) g K):ae P (s>>=f) h K:=by
 intro w j;obtain⟨v,w',e,k,l⟩:=i w j;obtain⟨m,d,c,a,b⟩:=l w' rfl;exact⟨m,d,by rw[Sem.run_bind,e];exact c,k.trans a,b⟩
theorem ae.mono{s:Sem α}{K e:α->Heap->Prop}(g:ae P s h K)(i:∀v d,K v d->e v d):ae P s h e:=fun w f=>
 let⟨v,w',a,b,c⟩:=g w f;⟨v,w',a,b,i _ _ c⟩
theorem ae.QL{K:Program->Heap->Prop}(b:K P h):ae P program h K:=fun w a=>⟨P,w,rfl,ct.refl w,by rw[a];exact b⟩
theorem ae.UP{a:Addr}{v v0:Value}{m:Mode}{K:Unit->Heap->Prop}(c:v.oneCell'=true)(d:cellOf h a=some v0)(e:Mn h a=false)(f:K () (vb h a v)):
  ae P (store a v m) h K:=fun w b=>
 ⟨(),w.setCell a v,by rw[run_store _ _ _ _ _ c,EX,b,d];simp[TL,b,e],⟨rfl,rfl,rfl,qt _⟩,by rw[TM,b];exact f⟩
theorem ae.ms{o:Obj}{K:Nat->Heap->Prop}(b:K h.size (h.push o)):ae P (newObj o) h K:=fun w a=>
 ⟨w.heap.size,_,run_newObj P w o,⟨rfl,rfl,rfl,qt _⟩,by simp only[a];exact b⟩
theorem ae.BW{n:Nat}{K:Unit->Heap->Prop}(b:K () h):ae P (askRoom n) h K:=fun w a=>⟨(),w,run_askRoom P w n,ct.refl w,by rw[a];exact b⟩
theorem ae.EY{q:Question}{K:Nat->Heap->Prop}(b:(q.forced=true->K 0 h)/\(q.forced=false->∀n,K (q.cut n) h)):ae P (choose q) h K:=by
 intro w a;cases hq:q.forced with
 |true=>exact⟨0,w,by rw[run_choose,hq];rfl,ct.refl w,by rw[a];exact b.1 hq⟩
 |false=>exact⟨q.cut (w.tape w.drawn q),{w with drawn:=w.drawn+1},by rw[run_choose,hq];rfl,⟨rfl,rfl,rfl,Nat.le_succ _⟩,by show K _ w.heap;rw[a];exact b.2 hq _⟩
theorem ae.TN{r:Nat}{o:Obj}{K:Obj->Heap->Prop}(b:h[r]?=some o)(g:∀c e f,o≠.cells c e f)(d:K o h):ae P (getObj r) h K:=fun w a=>by
 refine⟨o,w,?_,ct.refl w,by rw[a];exact d⟩;simp only[getObj,Sem.run,a,b]
theorem ae.UQ{r:Nat}{K:Option (TypeId×Nat)->Heap->Prop}(b:K (shapeOf h r) h):ae P (shape r) h K:=fun w a=>
 ⟨_,w,run_shape P w r,ct.refl w,by rw[a,QK,a];exact b⟩
end
def rO(P:Program)(s:Sem Next)(h:Heap)(K:Value->Heap->Prop):Prop:=
 ae P s h fun b a=>match b with
  | .value v=>K v a
  | .skip=>K undef a
  | .enter f args=>ab P f args a K
  |_=>False
theorem Wc{P:Program}{o:Oper}{a:Act}{w:World}{K:Value->Heap->Prop}{Q:Exit->Act->World->Prop}
  (i:rO P (execOp a.eval o) w.heap K) {next:Act->World->Prop}
  (g:∀v w',ct w w'->K v w'.heap->next (a.put o.dst v) w'):o.wp P a w next Q:=by
 obtain⟨k,w',h,d,b⟩:=i w rfl;unfold Oper.wp;rw[h];cases k<;>simp only at b<;>simp only[Oper.upon]
 case value v=>exact g _ _ d b
 case skip=>exact g _ _ d b
 case enter f args=>
  refine(b w' rfl).mono ?_;rintro e j ⟨v,rfl,c,r⟩;exact g _ _ (d.trans c) r
structure Sl where
 ptr:Option Addr
 len:Nat
 cap:Nat
 deriving Inhabited
inductive Sc where
 |int (k:IntKind)|bool|str|ptr|slc|flt (k:FloatKind)|cpx (k:FloatKind)|mp|fn|any|adr
@[reducible] def Sc.den:Sc->Type
 | .int _=>Int
 | .bool=>Bool
 | .str=>ByteArray
 | .ptr=>Option Addr
 | .slc=>Sl
 | .flt _=>Nat
 | .cpx _=>Nat×Nat
 | .mp=>Option Nat
 | .fn=>FuncId×Array Value×Array Value
 | .any=>Value
 | .adr=>Addr
@[reducible] def Sc.enc:(s:Sc)->s.den->Value
 | .int k,n=>.int k n
 | .bool,x=>.bool x
 | .str,x=>.string x
 | .ptr,a=>.pointer a
 | .slc,x=>.slice x.ptr x.len x.cap
 | .flt k,n=>.float k n
 | .cpx k,x=>.complex k x.1 x.2
 | .mp,r=>.map r
 | .fn,x=>.func (.func x.1) x.2.1 x.2.2
 | .any,v=>v
 | .adr,a=>.pointer (some a)
def rP:IntKind->IntKind->Bool
 | .i8,.i8| .i16,.i16| .i32,.i32| .i64,.i64| .u8,.u8| .u16,.u16| .u32,.u32| .u64,.u64=>true
 |_,_=>false
theorem Bh:∀{a b:IntKind},rP a b=true->a=b:=by
 intro a b;cases a<;>cases b<;>simp[rP]
def vW:FloatKind->FloatKind->Bool
 | .f32,.f32| .f64,.f64=>true
 |_,_=>false
theorem vX:∀{a b:FloatKind},vW a b=true->a=b:=by
 intro a b;cases a<;>cases b<;>simp[vW]
def Sc.dec:(s:Sc)->Value->Option s.den
 | .int k,.int k' n=>bif rP k k' then some n else none
 | .bool,.bool x=>some x
 | .str,.string x=>some x
 | .ptr,.pointer a=>some a
 | .slc,.slice a l c=>some ⟨a,l,c⟩
 | .flt k,.float k' n=>bif vW k k' then some n else none
 | .cpx k,.complex k' a b=>bif vW k k' then some (a,b)else none
 | .mp,.map r=>some r
 | .fn,.func (.func g) f c=>some (g,f,c)
 | .any,v=>some v
 | .adr,.pointer (some a)=>some a
 |_,_=>none
theorem Sc.mu{s:Sc}{v:Value}{x:s.den}(h:s.dec v=some x):v=s.enc x:=by
 cases s<;>cases v<;>simp only[Sc.dec]at h<;>try(first|(cases h;done)|(cases h;rfl))
 case int.int k k' n=>
  cases hk:rP k k'<;>simp[hk]at h;have:=Bh hk;subst this;subst h;rfl
 case flt.float k k' n=>
  cases hk:vW k k'<;>simp[hk]at h;have:=vX hk;subst this;subst h;rfl
 case cpx.complex k k' a b=>
  cases hk:vW k k'<;>simp[hk]at h;have:=vX hk;subst this;subst h;rfl
 case fn.func g f c=>
  cases g<;>first|(cases h;done)|skip
  obtain⟨l⟩:=f;cases l<;>first|(cases h;done)|(cases h;rfl)
 case adr.pointer a=>
  cases a<;>first|(cases h;done)|(cases h;rfl)
@[reducible] def EZ:List Sc->Type
 |[]=>Unit
 |[s]=>s.den
 |s::t::r=>s.den×EZ (t::r)
@[reducible] def rn:(l:List Sc)->EZ l->List Value
 |[],_=>[]
 |[s],x=>[s.enc x]
 |s::t::r,x=>s.enc x.1::rn (t::r) x.2
def Mo:(l:List Sc)->List Value->Option (EZ l)
 |[],[]=>some ()
 |[s],[v]=>s.dec v
 |s::t::r,v::vs=>match s.dec v with
  |some x=>match Mo (t::r) vs with
   |some y=>some (x,y)
   |none=>none
  |none=>none
 |_,_=>none
theorem Ol:∀{l:List Sc} {vs:List Value} {x:EZ l},Mo l vs=some x->vs=rn l x:=by
 intro l vs
 fun_induction Mo l vs with
 |case1=>intro x _;rfl
 |case2 s v=>intro x h;simp only[rn];rw[Sc.mu h]
 |case3 s t r v vs x hx y hy ih=>intro z h;cases h;simp only[rn];rw[Sc.mu hx,ih hy]
 |case4=>intro x h;cases h
 |case5=>intro x h;cases h
 |case6=>intro x h;cases h
inductive Ty where
 |sc (s:Sc)
 |agg (l:List Sc)
 |arr (s:Sc)
@[reducible] def Ty.den:Ty->Type
 | .sc s=>s.den
 | .agg l=>EZ l
 | .arr s=>List s.den
@[reducible] def Ty.enc:(t:Ty)->t.den->Value
 | .sc s,x=>s.enc x
 | .agg l,x=>.agg (rn l x).toArray
 | .arr s,x=>.agg (x.map s.enc).toArray
def Ty.dec:(t:Ty)->Value->Option t.den
 | .sc s,v=>s.dec v
 | .agg l,.agg ⟨cs⟩=>Mo l cs
 |_,_=>none
theorem Ty.mu{t:Ty}{v:Value}{x:t.den}(h:t.dec v=some x):v=t.enc x:=by
 unfold Ty.dec at h;split at h
 ·exact Sc.mu h
 ·have:=Ol h;subst this;rfl
 ·cases h
@[reducible] def Mp:List Ty->Type
 |[]=>Unit
 |[s]=>s.den
 |s::t::r=>s.den×Mp (t::r)
@[reducible] def SI:(l:List Ty)->Mp l->List Value
 |[],_=>[]
 |[s],x=>[s.enc x]
 |s::t::r,x=>s.enc x.1::SI (t::r) x.2
inductive Rt where
 |one (t:Ty)
 |many (l:List Ty)
@[reducible] def Rt.den:Rt->Type
 | .one t=>t.den
 | .many l=>Mp l
@[reducible] def Rt.enc:(r:Rt)->r.den->Value
 | .one t,x=>t.enc x
 | .many l,x=>.tuple (SI l x).toArray
inductive ca where
 |val (t:Nat) (x:Value)
 |kil (lo hi:Nat)
abbrev Env:=List ca
def ca.de:ca->Nat->Bool
 | .val s _,t=>wb s t
 | .kil lo hi,t=>vH lo t&&vk t hi
def Env.get:Env->Nat->Option Value
 |[],_=>none
 | .val s x::r,t=>bif wb s t then some x else Env.get r t
 | .kil lo hi::r,t=>bif vH lo t&&vk t hi then none else Env.get r t
def Env.de:Env->Nat->Bool
 |[],_=>false
 |e::r,t=>e.de t||Env.de r t
theorem Env.QM(e:ca)(r:Env)(t:Nat)(h:e.de t=false):Env.get (e::r) t=Env.get r t:=by
 cases e<;>simp only[ca.de]at h<;>simp[Env.get,h]
theorem Env.get_append{δ ρ:Env}{t:Nat}(h:δ.de t=false):Env.get (δ++ρ) t=Env.get ρ t:=by
 induction δ with
 |nil=>rfl
 |cons e r ih=>
  simp only[Env.de,yi]at h;rw[zk,Env.QM _ _ _ h.1,ih h.2]
theorem Env.ro{δ ρ:Env}{t:Nat}:Env.de (δ++ρ) t=(δ.de t||ρ.de t):=by
 induction δ with
 |nil=>simp[Env.de]
 |cons e r ih=>simp[Env.de,ih,Bool.or_assoc]
structure Fits (n:Nat) (a:Act) (ρ:Env):Prop where
 size:a.tmps.size=n
 defers:a.defers=[]
 get:∀t x,ρ.get t=some x->a.tmps[t]?=some x
def Ext(ρ b:Env)(a c:Act):Prop:=∃δ:Env,b=δ++ρ/\∀t,δ.de t=false->c.tmps[t]?=a.tmps[t]?
theorem Ext.refl(ρ:Env)(a:Act):Ext ρ ρ a a:=⟨[],rfl,fun _ _=>rfl⟩
theorem Ext.trans{ρ e b:Env}{a f c:Act}(h:Ext ρ e a f)(k:Ext e b f c):Ext ρ b a c:=by
 obtain⟨δ,rfl,h⟩:=h;obtain⟨g,rfl,k⟩:=k;refine⟨g++δ,by simp,fun t d=>?_⟩;rw[Env.ro,yi]at d;rw[k t d.1,h t d.2]
def Env.eval(ρ:Env):Operand->Option Value
 | .tmp t=>ρ.get t
 | .const v=>some v
 | .global g=>some (.pointer (some ⟨g,0,none⟩))
 | .func f=>some (.func (.func f) #[] #[])
theorem Fits.eval{n:Nat}{a:Act}{ρ:Env}(h:Fits n a ρ){x:Operand}{v:Value}(b:ρ.eval x=some v):a.eval x=v:=by
 cases x<;>simp only[Env.eval]at b<;>simp only[Act.eval]
 case tmp t=>have:=h.get t v b;simp[Array.getD_eq_getD_getElem?,this]
 all_goals (injection b)
theorem Fits.put{n:Nat}{a:Act}{ρ:Env}(h:Fits n a ρ){d:Nat}(f:vk d n=true)(v:Value):Fits n (a.put (some d) v) (.val d v::ρ):=by
 have c:d<n:=wP f;refine⟨by simp[Act.put,h.size],h.defers,fun t x b=>?_⟩;simp only[Env.get]at b;simp only[Act.put,Array.getElem?_setIfInBounds];cases hb:wb d t with
 |true=>
  rw[hb]at b;have:d=t:=zr hb;subst this;simp at b;simp[h.size,c,b]
 |false=>
  rw[hb]at b;have:d≠t:=fun e=>by subst e;simp at hb
  simp only[this,if_false];exact h.get t x b
theorem Ext.put{ρ:Env}{a:Act}{d:Nat}(v u:Value):Ext ρ (.val d u::ρ) a (a.put (some d) v):=by
 refine⟨[.val d u],rfl,fun t b=>?_⟩;simp only[Env.de,ca.de,vD]at b;have:d≠t:=fun e=>by subst e;simp at b
 simp[Act.put,this]
abbrev cO:=List (Nat×Ty)
@[reducible] def cO.den:cO->Type
 |[]=>Unit
 |[s]=>s.2.den
 |s::t::r=>s.2.den×cO.den (t::r)
def cO.aU:(σ:cO)->σ.den->Env->Env
 |[],_,ρ=>ρ
 |[s],x,ρ=>.val s.1 (s.2.enc x)::ρ
 |s::t::r,x,ρ=>.val s.1 (s.2.enc x.1)::cO.aU (t::r) x.2 ρ
def cO.read:(σ:cO)->Env->Option σ.den
 |[],_=>some ()
 |[s],ρ=>match ρ.get s.1 with
  |some v=>s.2.dec v
  |none=>none
 |s::t::r,ρ=>match ρ.get s.1 with
  |some v=>match s.2.dec v with
   |some x=>match cO.read (t::r) ρ with
    |some y=>some (x,y)
    |none=>none
   |none=>none
  |none=>none
def cO.has:cO->Nat->Bool
 |[],_=>false
 |s::r,t=>wb s.1 t||cO.has r t
abbrev co:=List (Nat×Nat)
def co.over:co->Env->Env
 |[],ρ=>ρ
 |(lo,hi)::r,ρ=>.kil lo hi::co.over r ρ
def co.has:co->Nat->Nat->Bool
 |[],_,_=>false
 |(lo,hi)::r,a,b=>(vH lo a&&vH b hi)||co.has r a b
def within(σ:cO)(κ:co):Env->Nat->Bool
 |_,0=>true
 |[],_+1=>true
 | .val t _::r,n+1=>(cO.has σ t||co.has κ t (t+1))&&within σ κ r n
 | .kil lo hi::r,n+1=>co.has κ lo hi&&within σ κ r n
theorem co.QN{κ:co}{a b:Nat}(h:κ.has a b=true){t:Nat}(f:a<=t)(e:t<b)(ρ:Env):∃δ:Env,κ.over ρ=δ++ρ/\δ.de t=true:=by
 induction κ with
 |nil=>simp[co.has]at h
 |cons p r ih=>
  obtain⟨c,d⟩:=p;simp only[co.has,zV,qA]at h;obtain⟨δ,j⟩:∃δ:Env,co.over r ρ=δ++ρ:=by
   clear ih h
   induction r with
   |nil=>exact⟨[],rfl⟩
   |cons q r ih=>obtain⟨δ,h⟩:=ih;exact⟨.kil q.1 q.2::δ,by show ca.kil q.1 q.2::co.over r ρ=_;rw[h];rfl⟩
  rcases h with h|h
  ·have l:=wP h.1;have k:=wP h.2;refine⟨.kil c d::δ,by simp[co.over,j],?_⟩;have g:vH c t=true:=Nat.ble_eq_true_of_le (by omega);have x2:vk t d=true:=by unfold vk;exact Nat.ble_eq_true_of_le (by omega)
   simp[Env.de,ca.de,g,x2]
  ·obtain⟨i,f,e⟩:=ih h;exact⟨.kil c d::i,by simp[co.over,f],by simp[Env.de,e]⟩
theorem co.HV(κ:co)(ρ:Env):κ.over ρ=κ.over []++ρ:=by
 induction κ with
 |nil=>rfl
 |cons p r ih=>obtain⟨a,b⟩:=p;simp[co.over,ih]
theorem cO.BX:∀(σ:cO) (x:σ.den) (ρ:Env),σ.aU x ρ=σ.aU x []++ρ
 |[],_,ρ=>rfl
 |[s],x,ρ=>rfl
 |s::t::r,x,ρ=>by simp only[cO.aU];rw[cO.BX (t::r) x.2 ρ];rfl
theorem cO.pL:∀(σ:cO) (x:σ.den) (t:Nat),(σ.aU x []).de t=σ.has t
 |[],_,_=>rfl
 |[s],x,t=>by simp[cO.aU,Env.de,ca.de,cO.has]
 |s::u::r,x,t=>by
  have:=cO.pL (u::r) x.2 t;simp only[cO.aU,Env.de,ca.de,this];rfl
theorem cO.HW:∀(σ:cO) (x:σ.den) (e:Env) (t:Nat),σ.has t=true->((σ.aU x [])++e).get t=(σ.aU x []).get t
 |[],_,_,_,h=>by cases h
 |[s],x,e,t,h=>by
  simp only[cO.has,vD]at h;simp[cO.aU,Env.get,h]
 |s::u::r,x,e,t,h=>by
  simp only[cO.aU,zk,Env.get];cases hb:wb s.1 t with
  |true=>rfl
  |false=>
   have b:cO.has (u::r) t=true:=by
    have a:(wb s.1 t||cO.has (u::r) t)=true:=h;rw[hb]at a;exact a
   simpa using cO.HW (u::r) x.2 e t b
theorem co.FS{κ:co}{a b t:Nat}(h:κ.has a b=true)(e:a<=t)(c:t<b):(κ.over []).de t=true:=by
 obtain⟨δ,f,d⟩:=co.QN h e c [];rw[f];simpa using d
theorem cU{σ:cO}{κ:co}:∀{δ ρ:Env},within σ κ (δ++ρ) δ.length=true->∀t,σ.has t=false->(κ.over []).de t=false->δ.de t=false
 |[],_,_,_,_,_=>rfl
 | .val s x::r,ρ,h,t,h1,h2=>by
  simp only[zk,zc,within,qA,zV]at h;simp only[Env.de,ca.de,yi];refine⟨?_,cU h.2 t h1 h2⟩;cases hb:wb s t with
  |false=>rfl
  |true=>
   have:s=t:=zr hb;subst this;rcases h.1 with h|h
   ·rw[h]at h1;cases h1
   ·rw[co.FS h (qt _) (Nat.lt_succ_self _)]at h2;cases h2
 | .kil lo hi::r,ρ,h,t,h1,h2=>by
  simp only[zk,zc,within,qA]at h;simp only[Env.de,ca.de,yi];refine⟨?_,cU h.2 t h1 h2⟩;cases hb:(vH lo t&&vk t hi)with
  |false=>rfl
  |true=>
   simp only[qA]at hb;have b:=wP hb.1;have a:t<hi:=wP hb.2;rw[co.FS h.1 b a]at h2;cases h2
theorem cO.HX:∀{σ:cO} {ρ:Env} {x:σ.den} {t:Nat} {v:Value},σ.read ρ=some x->(σ.aU x []).get t=some v->ρ.get t=some v∨False
 |[],_,_,_,_,_,h=>by simp[cO.aU,Env.get]at h
 |[s],ρ,x,t,v,h,hv=>by
  simp only[cO.read]at h;split at h
  ·rename_i u d;simp only[cO.aU,Env.get]at hv;cases hb:wb s.1 t with
   |true=>
    rw[hb]at hv;have:=zr hb;simp at hv;subst hv;rw[<-Ty.mu h,<-this];exact .inl d
   |false=>rw[hb]at hv;simp at hv
  ·cases h
 |s::u::r,ρ,x,t,v,h,hv=>by
  simp only[cO.read]at h;split at h
  ·rename_i z a;split at h
   ·rename_i y c;split at h
    ·rename_i w b;cases h;simp only[cO.aU,Env.get]at hv;cases hb:wb s.1 t with
     |true=>
      rw[hb]at hv;have:=zr hb;simp at hv;subst hv;rw[<-Ty.mu c,<-this];exact .inl a
     |false=>
      rw[hb]at hv;exact cO.HX (σ:=u::r) b hv
    ·cases h
   ·cases h
  ·cases h
theorem Fits.mv{n:Nat}{a d:Act}{σ:cO}{κ:co}{ρ g:Env}{x:σ.den}(j:Fits n a ρ)(h:Fits n d g)
  (b:∀t,σ.has t=false->(κ.over []).de t=false->d.tmps[t]?=a.tmps[t]?) (i:σ.read g=some x):
  Fits n d (σ.aU x (κ.over ρ))/\Ext ρ (σ.aU x (κ.over ρ)) a d:=by
 rw[cO.BX,co.HV];refine⟨⟨h.size,h.defers,fun t v c=>?_⟩,⟨σ.aU x []++κ.over [],by simp,fun t f=>?_⟩⟩
 ·cases h1:σ.has t with
  |true=>
   have:∀(e:Env),((σ.aU x [])++e).get t=(σ.aU x []).get t:=fun e=>cO.HW σ x e t h1;rw[this]at c;rcases cO.HX i c with h2|h2
   ·exact h.get t v h2
   ·exact h2.elim
  |false=>
   rw[Env.get_append (by rw[cO.pL];exact h1)]at c;cases h2:(κ.over []).de t with
   |true=>
    have:∀(e:Env),((κ.over [])++e).get t=none:=by
     intro e;clear b c
     induction κ with
     |nil=>simp[co.over,Env.de]at h2
     |cons p r ih=>
      obtain⟨k,l⟩:=p;simp only[co.over,Env.de,ca.de]at h2;simp only[co.over,zk,Env.get];cases hb:(vH k t&&vk t l)with
      |true=>rfl
      |false=>rw[hb]at h2;simp at h2;simpa using ih h2
    rw[this]at c;cases c
   |false=>
    rw[Env.get_append h2]at c;rw[b t h1 h2];exact j.get t v c
 ·rw[Env.ro,yi,cO.pL]at f;exact b t f.1 f.2
theorem Ext.within{a e:Act}{σ:cO}{κ:co}{ρ c:Env}(g:Ext ρ c a e)(d:within σ κ c (c.length-ρ.length)=true):
  ∀t,σ.has t=false->(κ.over []).de t=false->e.tmps[t]?=a.tmps[t]?:=by
 obtain⟨δ,rfl,i⟩:=g;have b:(δ++ρ).length-ρ.length=δ.length:=by simp
 rw[b]at d;exact fun t h f=>i t (cU d t h f)
theorem Ext.mv{a b:Act}{σ:cO}{κ:co}{ρ:Env}{x:σ.den}(e:Ext ρ (σ.aU x (κ.over ρ)) a b):
  ∀t,σ.has t=false->(κ.over []).de t=false->b.tmps[t]?=a.tmps[t]?:=by
 obtain⟨δ,c,f⟩:=e;rw[cO.BX,co.HV,<-List.append_assoc]at c;have:=List.append_cancel_right c;subst this;exact fun t g d=>f t (by rw[Env.ro,cO.pL,g,d];rfl)
inductive um where
 |int (k:IntKind)|bool|str|flt|cpx|mp|fn|other
 |slice (e:TypeId)|array (n:Nat) (e:TypeId)|struct (fs:List (Nat×TypeId))|ptr (e:TypeId)
def fR:Option TypeDesc->um
 |some (.int k)=>.int k
 |some .bool=>.bool
 |some .string=>.str
 |some (.float _)=>.flt
 |some (.complex _)=>.cpx
 |some (.map ..)=>.mp
 |some (.func ..)=>.fn
 |some (.slice e)=>.slice e
 |some (.array n e)=>.array n e
 |some (.struct fs)=>.struct (fs.toList.map fun f=>(f.offset,f.type))
 |some (.pointer e)=>.ptr e
 |_=>.other
structure TI where
 cj:um
 ty:Ty
 size:Nat
 bytes:Nat
 zero:List Value
abbrev jr:=List TI
def jr.seen(P:Program)(t:TypeId):um×Option (Nat×Nat×Option (List Value)):=
 (fR (P.underlying t),(P.info? t).map fun i=>(i.size,i.bytes,i.zero.map (·.cells.toList)))
def jr.told(i:TI):um×Option (Nat×Nat×Option (List Value)):=(i.cj,some (i.size,i.bytes,some i.zero))
def jr.get:jr->Nat->Option TI
 |[],_=>none
 |i::_,0=>some i
 |_::r,t+1=>jr.get r t
structure rQ where
 P:Program
 T:jr
structure rQ.Ok (C:rQ):Prop where
 TC:(List.range C.T.length).map (jr.seen C.P)=C.T.map jr.told
 mixed:C.P.follows .mixedOrders=true
theorem jr.get_eq:∀(T:jr) (t:Nat),T.get t=T[t]?
 |[],_=>rfl
 |_::_,0=>rfl
 |_::r,t+1=>by simp[jr.get,jr.get_eq r t]
theorem rQ.Ok.at{C:rQ}(h:C.Ok){t:Nat}{i:TI}(a:C.T.get t=some i):jr.seen C.P t=jr.told i:=by
 rw[jr.get_eq]at a;have b:t<C.T.length:=(qk.1 a).1;have:=congrArg (·[t]?) h.TC;simp[b]at this;rw[this,(qk.1 a).2]
def Br(b:Bool)(A B:Prop):Prop:=match b with
 |true=>A
 |false=>B
inductive PV:Type 1 where
 |no
 |val (v:Value)
 |cond (c:Prop) (v:Value)
 |ex (X:Type) (c:X->Prop) (v:X->Value)
 |br (b:Bool) (x y:Value)
def PV.holds(p:PV)(K:Value->Prop):Prop:=match p with
 | .no=>False
 | .val v=>K v
 | .cond c v=>c/\K v
 | .ex _ c v=>∃x,c x/\K (v x)
 | .br b x y=>Br b (K x) (K y)
def na(P:Program)(s:Sem Next)(v:Value):Prop:=∀w,s.run P w=.ok (.value v) w
def au{α:Type}(P:Program)(s:Sem α)(v:α):Prop:=∀w,s.run P w=.ok v w
def fM(P:Program)(c:BinOp)(t:TypeId)(x y:Operand)(a b r:Value):Prop:=au P (do eqGuard c t x y a b;binOp c t a b) r
def SJ:Operand->Bool
 | .tmp _=>true
 |_=>false
def QO(P:Program)(t:TypeId)(x y:Operand)(d:Option um)(f:BinOp):Value->Value->PV
 | .int k a,.int k' b=>
  match f with
  | .shl=>.cond (0<=b) (.int k (k.wrap (a*2^min b.toNat k.bits)))
  | .shr=>.cond (0<=b) (.int k (a.fdiv (2^min b.toNat k.bits)))
  |_=>bif rP k k' then
   match f with
   | .add=>.val (.int k (k.wrap (a+b)))
   | .sub=>.val (.int k (k.wrap (a-b)))
   | .mul=>.val (.int k (k.wrap (a*b)))
   | .quo=>.cond (b≠0) (.int k (k.wrap (a.tdiv b)))
   | .rem=>.cond (b≠0) (.int k (a.tmod b))
   | .and=>.val (.int k (k.wrap (qq k.bits a&&&qq k.bits b).toNat))
   | .or=>.val (.int k (k.wrap (qq k.bits a|||qq k.bits b).toNat))
   | .xor=>.val (.int k (k.wrap (qq k.bits a^^^qq k.bits b).toNat))
   | .andNot=>.val (.int k (k.wrap (qq k.bits a&&&~~~qq k.bits b).toNat))
   | .eql=>.val (.bool (a==b))
   | .neq=>.val (.bool (a !=b))
   | .lss=>.val (.bool (decide (a<b)))
   | .leq=>.val (.bool (decide (a<=b)))
   | .gtr=>.val (.bool (decide (a>b)))
   | .geq=>.val (.bool (decide (a>=b)))
   |_=>.no
  else .no
 | .float k a,.float k' b=>bif vW k k' then
   match f with
   | .add=>.ex Nat (fun r=>k.format.add a b=some r) (fun r=>.float k r)
   | .sub=>.ex Nat (fun r=>k.format.sub a b=some r) (fun r=>.float k r)
   | .mul=>.ex Nat (fun r=>k.format.mul a b=some r) (fun r=>.float k r)
   | .quo=>.ex Nat (fun r=>k.format.div a b=some r) (fun r=>.float k r)
   | .eql=>.val (.bool (k.format.order a b==some .eq))
   | .neq=>.val (.bool (k.format.order a b !=some .eq))
   | .lss=>.val (.bool (k.format.order a b==some .lt))
   | .gtr=>.val (.bool (k.format.order a b==some .gt))
   |_=>.no
  else .no
 | .string a,.string b=>
  match f with
  | .eql=>.val (.bool (a.toList==b.toList))
  | .neq=>.val (.bool (!(a.toList==b.toList)))
  | .lss=>.val (.bool (Op.bytesLess a.toList b.toList))
  | .leq=>.val (.bool (Op.bytesLess a.toList b.toList||a.toList==b.toList))
  | .gtr=>.val (.bool (!(Op.bytesLess a.toList b.toList||a.toList==b.toList)))
  | .geq=>.val (.bool (!(Op.bytesLess a.toList b.toList)))
  | .add=>.cond (((a.size+b.size:Nat):Int)<=vR.max) (.string (a++b))
  |_=>.no
 | .bool a,.bool b=>
  match d with
  |some .bool=>match f with
   | .eql=>.val (.bool (a==b))
   | .neq=>.val (.bool (!(a==b)))
   |_=>.no
  |_=>.no
 | .pointer a,.pointer b=>bif SJ y then .ex Bool (fun r=>fM P f t x y (.pointer a) (.pointer b) (.bool r)) (fun r=>.bool r)else
  match b with
  |none=>match d with
   |some (.ptr _)=>match f with
    | .eql=>.val (.bool a.isNone)
    | .neq=>.val (.bool (!a.isNone))
    |_=>.no
   |_=>.no
  |some _=>.no
 | .slice a _ _,.slice none _ _=>
  match d with
  |some (.slice _)=>match f with
   | .eql=>.val (.bool a.isNone)
   | .neq=>.val (.bool (!a.isNone))
   |_=>.no
  |_=>.no
 | .agg a,.agg b=>.ex Bool (fun r=>fM P f t x y (.agg a) (.agg b) (.bool r)) (fun r=>.bool r)
 | .complex k a b,.complex k' c e=>
  match f with
  | .eql| .neq=>.ex Bool (fun r=>fM P f t x y (.complex k a b) (.complex k' c e) (.bool r)) (fun r=>.bool r)
  |_=>.ex (Nat×Nat) (fun r=>fM P f t x y (.complex k a b) (.complex k' c e) (.complex k r.1 r.2)) (fun r=>.complex k r.1 r.2)
 |_,_=>.no
def QP(P:Program)(t:TypeId)(x y:Operand)(d:Option um)(c:BinOp)(a:Value):Value->PV
 | .nilIface=>.ex Bool (fun r=>fM P c t x y a .nilIface (.bool r)) (fun r=>.bool r)
 |b=>QO P t x y d c a b
def Ww(a:UnOp):Value->PV
 | .bool b=>match a with
  | .not=>.val (.bool !b)
  |_=>.no
 | .int k n=>match a with
  | .neg=>.val (.int k (k.wrap (0-n)))
  | .xor=>.val (.int k (k.wrap (qq k.bits (if k.signed then-1 else k.max)^^^qq k.bits n).toNat))
  |_=>.no
 |_=>.no
def ma(ev:Operand->Option Value):List Operand->Option (List Value)
 |[]=>some []
 |x::r=>match ev x with
  |some v=>match ma ev r with
   |some vs=>some (v::vs)
   |none=>none
  |none=>none
def vY(ev:Operand->Option Value):List (Nat×Operand)->Option (List (Nat×Value))
 |[]=>some []
 |(n,x)::r=>match ev x with
  |some v=>match vY ev r with
   |some vs=>some ((n,v)::vs)
   |none=>none
  |none=>none
def placesOf(T:jr):List (Nat×TypeId)->Option (List (Nat×Nat))
 |[]=>some []
 |(off,t)::r=>match T.get t with
  |some j=>match placesOf T r with
   |some ps=>some ((off,j.size)::ps)
   |none=>none
  |none=>none
def CY(ev:Operand->Option Value):Option Operand->Option (Option Int)
 |none=>some none
 |some x=>match ev x with
  |some (.int _ n)=>some (some n)
  |_=>none
def UR(d:Option um):Value->PV
 | .slice _ n _=>match d with
  |some (.slice _)=>.val (.int .i64 n)
  |_=>.no
 | .string s=>match d with
  |some .str=>.val (.int .i64 s.size)
  |_=>.no
 |_=>.no
def US(d:Option um):Value->PV
 | .slice _ _ n=>match d with
  |some (.slice _)=>.val (.int .i64 n)
  |_=>.no
 |_=>.no
def SK(d:Option um):Value->PV
 | .int _ n=>match d with
  |some (.int k)=>.val (.int k (k.wrap n))
  |_=>.no
 |_=>.no
def rR(P:Program)(T:jr)(d:Op)(ev:Operand->Option Value):PV:=
 match d with
 | .move x| .assign x=>match ev x with
  |some v=>.val v
  |none=>.no
 | .pick c a b=>match ev c,ev a,ev b with
  |some (.bool t),some x,some y=>.br t x y
  |_,_,_=>.no
 | .nilCheck x=>match ev x with
  |some (.pointer p)=>.ex Addr (fun a=>p=some a) (fun a=>.pointer (some a))
  |_=>.no
 | .fieldAddr s x f=>match ev x with
  |some (.pointer (some a))=>match T.get s with
   |some i=>match i.cj with
    | .struct fs=>match fs[f]? with
     |some (off,t)=>match T.get t with
      |some j=>bif wb j.size 0 then .no else .val (.pointer (some (a.add off)))
      |none=>.no
     |none=>.no
    |_=>.no
   |none=>.no
  |_=>.no
 | .indexAddr t x ix=>match ev ix with
  |some (.int _ n)=>match ev x with
   |some (.slice p len _)=>match T.get t with
    |some i=>match i.cj with
     | .slice e=>match T.get e with
      |some j=>.ex Addr (fun a=>p=some a/\0<=n/\n<(len:Int)) (fun a=>.pointer (some (a.add (n.toNat*j.size))))
      |none=>.no
     |_=>.no
    |none=>.no
   |some (.pointer (some a))=>match T.get t with
    |some i=>match i.cj with
     | .array m e=>match T.get e with
      |some j=>.cond (0<=n/\n<(m:Int)) (.pointer (some (a.add (n.toNat*j.size))))
      |none=>.no
     |_=>.no
    |none=>.no
   |_=>.no
  |_=>.no
 | .index t x ix=>match ev ix with
  |some (.int _ n)=>match ev x with
   |some (.string s)=>match T.get t with
    |some i=>match i.cj with
     | .str=>.ex UInt8 (fun b=>0<=n/\s.data[n.toNat]?=some b) (fun b=>.int .u8 b.toNat)
     |_=>.no
    |none=>.no
   |some (.agg cs)=>match T.get t with
    |some i=>match i.cj with
     | .array m e=>match T.get e with
      |some j=>match j.ty with
       | .sc s=>match j.cj with
        | .struct _=>.no
        | .array _ _=>.no
        | .other=>.no
        |_=>bif wb j.size 1 then .ex s.den (fun y=>0<=n/\n<(m:Int)/\cs[n.toNat]?=some (s.enc y)) (fun y=>s.enc y)else .no
       |_=>.no
      |none=>.no
     |_=>.no
    |none=>.no
   |_=>.no
  |_=>.no
 | .field s x f=>match ev x with
  |some (.agg ⟨cs⟩)=>match T.get s with
   |some i=>match i.cj with
    | .struct fs=>match fs[f]? with
     |some (off,t)=>match T.get t with
      |some j=>match j.cj with
       | .struct _=>.val (.agg ((cs.drop off).take j.size).toArray)
       | .array _ _=>.val (.agg ((cs.drop off).take j.size).toArray)
       | .other=>.no
       |_=>match cs[off]? with
        |some v=>.val v
        |none=>.no
      |none=>.no
     |none=>.no
    |_=>.no
   |none=>.no
  |_=>.no
 | .slice t x lo hi mx=>match mx with
  |some _=>.no
  |none=>match CY ev lo,CY ev hi with
   |some l,some r=>match ev x with
    |some (.slice p len cap)=>match T.get t with
     |some i=>match i.cj with
      | .slice e=>match T.get e with
       |some j=>match l,r with
        |none,none=>.val (.slice p len cap)
        |none,some r=>.cond (0<=r/\r<=(cap:Int)) (.slice p r.toNat cap)
        |some l,none=>.cond (0<=l/\l<=(len:Int)) (.slice (if cap=l.toNat then p else p.map (·.add (l.toNat*j.size))) (len-l.toNat) (cap-l.toNat))
        |some l,some r=>.cond (0<=l/\l<=r/\r<=(cap:Int)) (.slice (if cap=l.toNat then p else p.map (·.add (l.toNat*j.size))) (r.toNat-l.toNat) (cap-l.toNat))
       |none=>.no
      |_=>.no
     |none=>.no
    |some (.string s)=>match T.get t with
     |some i=>match i.cj with
      | .str=>match l,r with
       |none,none=>.val (.string (s.extract 0 s.size))
       |none,some r=>.cond (0<=r/\r<=(s.size:Int)) (.string (s.extract 0 r.toNat))
       |some l,none=>.cond (0<=l/\l<=(s.size:Int)) (.string (s.extract l.toNat s.size))
       |some l,some r=>.cond (0<=l/\l<=r/\r<=(s.size:Int)) (.string (s.extract l.toNat r.toNat))
      |_=>.no
     |none=>.no
    |some (.pointer (some a))=>match T.get t with
     |some i=>match i.cj with
      | .array n e=>match T.get e with
       |some j=>match l,r with
        |none,none=>.val (.slice (some a) n n)
        |none,some r=>.cond (0<=r/\r<=(n:Int)) (.slice (some a) r.toNat n)
        |some l,none=>.cond (0<=l/\l<=(n:Int)) (.slice (some (if n=l.toNat then a else a.add (l.toNat*j.size))) (n-l.toNat) (n-l.toNat))
        |some l,some r=>.cond (0<=l/\l<=r/\r<=(n:Int)) (.slice (some (if n=l.toNat then a else a.add (l.toNat*j.size))) (r.toNat-l.toNat) (n-l.toNat))
       |none=>.no
      |_=>.no
     |none=>.no
    |_=>.no
   |_,_=>.no
 | .extract x n=>match ev x with
  |some (.tuple ⟨vs⟩)=>match vs[n]? with
   |some v=>.val v
   |none=>.no
  |_=>.no
 | .binOp d t x y _=>match ev x,ev y with
  |some a,some b=>QP P t x y ((T.get t).map (·.cj)) d a b
  |_,_=>.no
 | .unOp d _ x=>match ev x with
  |some v=>Ww d v
  |none=>.no
 | .convert src dst x=>match ev x,(T.get src).map TI.cj with
  |some v,some (um.int _)=>SK ((T.get dst).map (·.cj)) v
  |_,_=>.no
 | .build t parts=>match vY ev parts.toList with
  |some vs=>match T.get t with
   |some i=>bif vk 24 i.size then .ex Value (fun v=>au P (yC t vs.toArray) v) (fun v=>v)else match i.cj with
    | .struct fs=>match placesOf T fs with
     |some ps=>match wc (fun n=>ps[n]?) i.zero.toArray vs with
      |some cells=>.val (.agg cells)
      |none=>.no
     |none=>.no
    | .array _ e=>match T.get e with
     |some j=>match wc (fun n=>some (n*j.size,j.size)) i.zero.toArray vs with
      |some cells=>.val (.agg cells)
      |none=>.no
     |none=>.no
    |_=>.no
   |none=>.no
  |none=>.no
 | .makeFunc fn first captured=>match ma ev first.toList,ma ev captured.toList with
  |some a,some b=>.val (.func fn a.toArray b.toArray)
  |_,_=>.no
 | .call c=>match c.callee with
  | .builtin b=>match b with
   | .len=>match c.argTypes.toList,c.args.toList with
    |t::_,[x]=>match ev x with
     |some v=>UR ((T.get t).map (·.cj)) v
     |none=>.no
    |_,_=>.no
   | .cap=>match c.argTypes.toList,c.args.toList with
    |t::_,[x]=>match ev x with
     |some v=>US ((T.get t).map (·.cj)) v
     |none=>.no
    |_,_=>.no
   | .min=>match ma ev c.args.toList with
    |some [.int k a,.int _ b]=>.val (.int k (if b<a then b else a))
    |_=>.no
   | .max=>match ma ev c.args.toList with
    |some [.int k a,.int _ b]=>.val (.int k (if b>a then b else a))
    |_=>.no
   | .real=>match ma ev c.args.toList with
    |some [.complex k a _]=>.val (.float k a)
    |_=>.no
   | .imag=>match ma ev c.args.toList with
    |some [.complex k _ b]=>.val (.float k b)
    |_=>.no
   |_=>.no
  |_=>.no
 |_=>.no
theorem au.next{P:Program}{s:Sem Value}{v:Value}(h:au P s v):na P (do pure (.value (<-s))) v:=fun w=>by
 rw[Sem.run_bind,h w];rfl
theorem au.pure{α:Type}{P:Program}{v:α}:au P (pure v) v:=fun _=>rfl
theorem au.bind{α β:Type}{P:Program}{s:Sem α}{f:α->Sem β}{v:α}{u:β}(h:au P s v)(k:au P (f v) u):au P (s>>=f) u:=fun w=>by
 rw[Sem.run_bind,h w];exact k w
theorem AB{d:Option TypeDesc}{k:IntKind}(h:fR d=.int k):d=some (.int k):=by
 unfold fR at h;split at h<;>cases h;rfl
theorem QQ{d:Option TypeDesc}(h:fR d=.bool):d=some .bool:=by
 unfold fR at h;split at h<;>cases h;rfl
theorem ow{d:Option TypeDesc}(h:fR d=.str):d=some .string:=by
 unfold fR at h;split at h<;>cases h;rfl
theorem gS{d:Option TypeDesc}{e:TypeId}(h:fR d=.slice e):d=some (.slice e):=by
 unfold fR at h;split at h<;>cases h;rfl
theorem nc{d:Option TypeDesc}{n:Nat}{e:TypeId}(h:fR d=.array n e):d=some (.array n e):=by
 unfold fR at h;split at h<;>cases h;rfl
theorem TO{d:Option TypeDesc}{e:TypeId}(h:fR d=.ptr e):d=some (.pointer e):=by
 unfold fR at h;split at h<;>cases h;rfl
theorem lj{d:Option TypeDesc}{a:List (Nat×TypeId)}(h:fR d=.struct a):∃b,d=some (.struct b)/\a=b.toList.map fun f=>(f.offset,f.type):=by
 unfold fR at h;split at h<;>cases h;exact⟨_,rfl,rfl⟩
section
variable {C:rQ} {t:TypeId} {i:TI}
theorem rQ.Ok.cj(h:C.Ok)(a:C.T.get t=some i):fR (C.P.underlying t)=i.cj:=congrArg Prod.fst (h.at a)
theorem rQ.Ok.info(h:C.Ok)(d:C.T.get t=some i):∃f,C.P.info? t=some f/\f.size=i.size/\f.bytes=i.bytes/\∃z,f.zero=some z/\z.cells.toList=i.zero:=by
 have:=congrArg Prod.snd (h.at d);simp only[jr.seen,jr.told]at this;cases hf:C.P.info? t with
 |none=>rw[hf]at this;cases this
 |some f=>
  rw[hf]at this;simp only[qK,wL.injEq,Prod.mk.injEq]at this;obtain⟨a,b,c⟩:=this;cases hz:f.zero with
  |none=>rw[hz]at c;cases c
  |some z=>rw[hz]at c;simp at c;exact⟨f,rfl,a,b,z,hz,by simpa using c⟩
theorem aE{P:Program}{t:TypeId}{d:TypeDesc}(h:P.underlying t=some d):au P (underlying t) d:=fun w=>by
 simp[underlying,h]
theorem cw{P:Program}{t:TypeId}{d:TypeInfo}(h:P.info? t=some d):au P (typeInfo t) d:=fun w=>by
 simp[typeInfo,h]
theorem cz(h:C.Ok)(b:C.T.get t=some i):au C.P (sizeOf t) i.size:=by
 obtain⟨f,c,a,_⟩:=h.info b;rw[<-a];exact(cw c).bind .pure
theorem mN(h:C.Ok)(b:C.T.get t=some i):∃z,au C.P (zeroValue t) z/\z.cells.toList=i.zero:=by
 obtain⟨f,c,_,_,z,a,d⟩:=h.info b;refine⟨z,(cw c).bind ?_,d⟩;rw[a];exact .pure
theorem iv(h:C.Ok)(g:C.T.get t=some i):(∀b,i.cj=.struct b->au C.P (isAgg t) true)/\(∀n e,i.cj=.array n e->au C.P (isAgg t) true)/\
  ((∀b,i.cj≠.struct b)->(∀n e,i.cj≠.array n e)->i.cj≠.other->au C.P (isAgg t) false):=by
 have a:=h.cj g;refine⟨fun b c=>?_,fun n e c=>?_,fun j f h3=>?_⟩
 ·rw[c]at a;obtain⟨l,k,_⟩:=lj a;exact(aE k).bind .pure
 ·rw[c]at a;exact(aE (nc a)).bind .pure
 ·cases hu:C.P.underlying t with
  |none=>rw[hu]at a;exact absurd a.symm h3
  |some d=>
   refine(aE hu).bind ?_;rw[hu]at a;cases d<;>first|exact .pure|(exfalso;simp only[fR]at a;first|exact j _ a.symm|exact f _ _ a.symm)
end
theorem sQ{ev:Operand->Option Value}{e:Operand->Value}(b:∀x v,ev x=some v->e x=v):∀{l:List Operand} {vs:List Value},ma ev l=some vs->l.map e=vs:=by
 intro l
 induction l with
 |nil=>intro vs h;cases h;rfl
 |cons x r ih=>
  intro vs h;simp only[ma]at h;split at h
  ·rename_i v c;split at h
   ·rename_i d a;cases h;simp[b _ _ c,ih a]
   ·cases h
  ·cases h
theorem Bi{ev:Operand->Option Value}{e:Operand->Value}(b:∀x v,ev x=some v->e x=v):∀{l:List (Nat×Operand)} {vs:List (Nat×Value)},vY ev l=some vs->l.map (fun p=>(p.1,e p.2))=vs:=by
 intro l
 induction l with
 |nil=>intro vs h;cases h;rfl
 |cons x r ih=>
  intro vs h;obtain⟨n,x⟩:=x;simp only[vY]at h;split at h
  ·rename_i v c;split at h
   ·rename_i d a;cases h;simp[b _ _ c,ih a]
   ·cases h
  ·cases h
section
variable {P:Program}
theorem BY(t:TypeId)(x y:Value):Op.equal t x y=Op.equalIn (9999+1) t x y:=rfl
theorem TP{t:TypeId}(c:P.underlying t=some .bool)(d:Nat)(a b:Bool):au P (Op.equalIn (d+1) t (.bool a) (.bool b)) (a==b):=fun w=>by
 simp[Op.equalIn,underlying,c]
theorem UT{t e:TypeId}(b:P.underlying t=some (.pointer e))(d:Nat)(a:Option Addr):au P (Op.equalIn (d+1) t (.pointer a) (.pointer none)) a.isNone:=fun w=>by
 cases a<;>simp[Op.equalIn,underlying,b]
theorem QR{t e:TypeId}(g:P.underlying t=some (.slice e))(d:Nat)(a:Option Addr)(l c b f:Nat):au P (Op.equalIn (d+1) t (.slice a l c) (.slice none b f)) a.isNone:=fun w=>by
 cases a<;>simp[Op.equalIn,underlying,g]
theorem Mq{t:TypeId}{d:Option um}{j:BinOp}{a b:Value}{x y:Operand}{K:Value->Prop}(p:∀q,d=some q->fR (P.underlying t)=q)
  (h:(QO P t x y d j a b).holds K):∃v,au P (do eqGuard j t x y a b;binOp j t a b) v/\K v:=by
 have m:∀{a b:Value},¬(a=.nilIface/\b=.nilIface)->(∀u v,¬(a=.agg u/\b=.agg v))->au P (eqGuard j t x y a b) ():=by
  intro a b i f w;simp only[eqGuard];cases j<;>simp only[Bool.not_true,Bool.not_false,q0,if_true,if_false]<;>
   first
    |rfl
    |(split<;>first|exact absurd ⟨rfl,rfl⟩ i|exact absurd ⟨rfl,rfl⟩ (f _ _)|rfl)
 unfold QO at h;split at h
 ·rename_i k a n b;have g:=m (a:=.int k a) (b:=.int n b) (by simp) (by simp);cases j<;>simp only at h
  case shl=>exact⟨_,g.bind fun w=>by simp only[binOp,Op.shift];rw[if_neg (by have:=h.1;omega)];rfl,h.2⟩
  case shr=>exact⟨_,g.bind fun w=>by simp only[binOp,Op.shift];rw[if_neg (by have:=h.1;omega)];rfl,h.2⟩
  all_goals
   cases hk:rP k n with
   |false=>rw[hk]at h;simp[PV.holds]at h
   |true=>
    rw[hk]at h;simp only[cond_true,PV.holds]at h;have e:=Bh hk;subst e
    first
     |exact⟨_,g.bind fun w=>by simp[binOp,Op.intArith,Op.intBits,Op.intCmp],h⟩
     |exact⟨_,g.bind fun w=>by simp[binOp,Op.intDiv,h.1],h.2⟩
     |exact h.elim
 ·rename_i k a n b;have g:=m (a:=.float k a) (b:=.float n b) (by simp) (by simp);cases hk:vW k n with
  |false=>rw[hk]at h;simp[PV.holds]at h
  |true=>
   rw[hk]at h;have e:=vX hk;subst e;cases j<;>simp only[cond_true,PV.holds]at h<;>
    first
     |(obtain⟨r,i,f⟩:=h;exact⟨_,g.bind fun w=>by simp[binOp,Op.floatArith,i],f⟩)
     |exact⟨_,g.bind fun w=>by simp[binOp,Op.floatCmp],h⟩
     |exact h.elim
 ·rename_i a b;have g:=m (a:=.string a) (b:=.string b) (by simp) (by simp);cases j<;>simp only[PV.holds]at h<;>
   first
    |exact⟨_,g.bind fun w=>by simp[binOp,Op.stringOp],h⟩
    |exact⟨_,g.bind fun w=>by simp only[binOp,Op.stringOp];rw[if_neg (by have:=h.1;omega)];rfl,h.2⟩
    |exact h.elim
 ·rename_i a b;have g:=m (a:=.bool a) (b:=.bool b) (by simp) (by simp);split at h
  ·have o:=QQ (p _ rfl);cases j<;>simp only[PV.holds]at h<;>
    first
     |exact⟨_,g.bind (by simp only[binOp,BY];exact(TP o _ a b).bind .pure),h⟩
     |exact h.elim
  ·exact h.elim
 ·rename_i a b;cases hy:SJ y with
  |true=>
   rw[hy]at h;obtain⟨r,i,f⟩:=h;exact⟨_,i,f⟩
  |false=>
   rw[hy]at h;cases b with
   |some _=>exact h.elim
   |none=>
    have g:=m (a:=.pointer a) (b:=.pointer none) (by simp) (by simp);simp only[cond_false]at h;split at h
    ·rename_i e;have o:=TO (p _ rfl);cases j<;>simp only[PV.holds]at h<;>
      first
       |exact⟨_,g.bind (by simp only[binOp,BY];exact(UT o _ a).bind .pure),h⟩
       |exact h.elim
    ·exact h.elim
 ·rename_i a l c s z;have g:=m (a:=.slice a l c) (b:=.slice none s z) (by simp) (by simp);split at h
  ·rename_i e;have o:=gS (p _ rfl);cases j<;>simp only[PV.holds]at h<;>
    first
     |exact⟨_,g.bind (by simp only[binOp,BY];exact(QR o _ a l c s z).bind .pure),h⟩
     |exact h.elim
  ·exact h.elim
 ·obtain⟨r,i,f⟩:=h;exact⟨_,i,f⟩
 ·split at h
  ·obtain⟨r,i,f⟩:=h;exact⟨_,i,f⟩
  ·obtain⟨r,i,f⟩:=h;exact⟨_,i,f⟩
  ·obtain⟨r,i,f⟩:=h;exact⟨_,i,f⟩
 ·exact h.elim
theorem Mr{t:TypeId}{d:Option um}{c:BinOp}{a b:Value}{x y:Operand}{K:Value->Prop}(g:∀q,d=some q->fR (P.underlying t)=q)
  (h:(QP P t x y d c a b).holds K):∃v,au P (do eqGuard c t x y a b;binOp c t a b) v/\K v:=by
 unfold QP at h;split at h
 ·obtain⟨r,f,e⟩:=h;exact⟨_,f,e⟩
 ·exact Mq g h
end
theorem HY(a:List Value)(off n:Nat):((a.drop off).take n).toArray=(a.toArray).extract off (off+n):=by
 apply wY;simp[List.extract_eq_take_drop]
section
variable {C:rQ} {ev:Operand->Option Value} {e:Operand->Value}
theorem ko(c:C.Ok):∀{b:List Field} {a:List (Nat×Nat)},placesOf C.T (b.map fun f=>(f.offset,f.type))=some a->
  au C.P (b.mapM fun f=>(do pure (f.offset,<-sizeOf f.type):Sem (Nat×Nat))) a
 |[],a,h=>by cases h;exact .pure
 |f::r,a,h=>by
  simp only[List.map_cons,placesOf]at h;split at h
  ·rename_i j d;split at h
   ·rename_i g e;cases h;rw[List.mapM_cons];exact au.bind ((cz c d).bind .pure) ((ko c e).bind .pure)
   ·cases h
  ·cases h
theorem Bj(h:C.Ok){t:TypeId}{j:TI}(c:C.T.get t=some j)(d:∀f,j.cj≠.struct f)(b:∀n e,j.cj≠.array n e)(h3:j.cj≠.other)
  {a:Array Value} {off:Nat} {v:Value} (g:a[off]?=some v):au C.P (part t a off) v:=by
 refine((iv h c).2.2 d b h3).bind ?_;rw[g];exact .pure
theorem HZ(c:C.Ok){t:TypeId}{j:TI}(a:C.T.get t=some j)(h:(∃b,j.cj=.struct b)∨∃n e,j.cj=.array n e)
  {d:Array Value} {off:Nat}:au C.P (part t d off) (.agg (d.extract off (off+j.size))):=by
 have f:au C.P (isAgg t) true:=by
  rcases h with⟨b,h⟩|⟨n,e,h⟩
  ·exact(iv c a).1 b h
  ·exact(iv c a).2.1 n e h
 exact f.bind ((cz c a).bind .pure)
theorem CZ(I:C.Ok)(G:∀x v,ev x=some v->e x=v){o:Oper}{K:Value->Prop}(h:(rR C.P C.T o.op ev).holds K):
  ∃v,na C.P (execOp e o) v/\K v:=by
 have M:∀t q,(C.T.get t).map (·.cj)=some q->fR (C.P.underlying t)=q:=fun t q h=>by
  cases F:C.T.get t with
  |none=>rw[F]at h;cases h
  |some i=>rw[F]at h;cases h;exact I.cj F
 cases hop:o.op<;>rw[hop]at h<;>simp only[rR]at h<;>simp only[execOp,hop]
 case move x=>
  split at h
  ·rename_i v A;rw[G _ _ A];exact⟨v,fun _=>rfl,h⟩
  ·exact h.elim
 case assign x=>
  split at h
  ·rename_i v A;rw[G _ _ A];exact⟨v,fun _=>rfl,h⟩
  ·exact h.elim
 case pick c a b=>
  split at h
  ·rename_i t x y Q h2 h3;rw[G _ _ Q,G _ _ h2,G _ _ h3];cases t
   ·exact⟨y,fun _=>rfl,h⟩
   ·exact⟨x,fun _=>rfl,h⟩
  ·exact h.elim
 case nilCheck x=>
  split at h
  ·rename_i p hp;obtain⟨a,rfl,B⟩:=h;rw[G _ _ hp];exact⟨_,fun _=>rfl,B⟩
  ·exact h.elim
 case fieldAddr s x f=>
  split at h
  ·rename_i a ha;rw[G _ _ ha];split at h
   ·rename_i i F;split at h
    ·rename_i fs Y;split at h
     ·rename_i off t ax;split at h
      ·rename_i j R;cases hz:wb j.size 0 with
       |true=>rw[hz]at h;exact h.elim
       |false=>
        rw[hz]at h;have E:=I.cj F;rw[Y]at E;obtain⟨gs,hg,rfl⟩:=lj E;simp only[qN,yu]at ax;obtain⟨g,a6,a8⟩:=ax;cases a8;refine⟨_,au.next ((aE hg).bind ?_),h⟩;have ad:gs[f]?=some g:=by simpa using a6
        simp only[ad];refine au.bind (v:=a) .pure (au.bind (v:=a.add g.offset) ?_ .pure);unfold fieldPlace;refine(cz I R).bind ?_;have:j.size≠0:=fun e=>by rw[e]at hz;cases hz
        rw[if_neg this];exact .pure
      ·exact h.elim
     ·exact h.elim
    ·exact h.elim
   ·exact h.elim
  ·exact h.elim
 case indexAddr t x ix=>
  split at h
  ·rename_i k n hn;rw[G _ _ hn];split at h
   ·rename_i p len cap U;rw[G _ _ U];split at h
    ·rename_i i F;split at h
     ·rename_i el D;split at h
      ·rename_i j R;obtain⟨a,⟨rfl,h0,Q⟩,B⟩:=h;have E:=I.cj F;rw[D]at E;have H:=gS E;refine⟨_,au.next ?_,B⟩;unfold Instr.indexAt;refine au.bind (v:=(k,n)) .pure ?_;refine(aE H).bind ?_;refine au.bind (v:=(some a,len,el)) .pure ?_;intro w;have:=cz I R w;simp only[Sem.run_bind,aE H w,Result.andThen_ok];cases hl:decide (len<=1)<;>simp[h0,Q,this]
      ·exact h.elim
     ·exact h.elim
    ·exact h.elim
   ·rename_i a U;rw[G _ _ U];split at h
    ·rename_i i F;split at h
     ·rename_i m el D;split at h
      ·rename_i j R;obtain⟨⟨h0,Q⟩,B⟩:=h;have E:=I.cj F;rw[D]at E;have H:=nc E;refine⟨_,au.next ?_,B⟩;unfold Instr.indexAt;refine au.bind (v:=(k,n)) .pure ?_;refine(aE H).bind ?_;refine au.bind (v:=(some a,m,el)) .pure ?_;intro w;have:=cz I R w;simp only[Sem.run_bind,aE H w,Result.andThen_ok];cases hl:decide (m<=1)<;>simp[h0,Q,this]
      ·exact h.elim
     ·exact h.elim
    ·exact h.elim
   ·exact h.elim
  ·exact h.elim
 case index t x ix=>
  split at h
  ·rename_i k n hn;rw[G _ _ hn];split at h
   ·rename_i s U;rw[G _ _ U];split at h
    ·rename_i i F;split at h
     ·rename_i D;obtain⟨b,⟨h0,Q⟩,B⟩:=h;have E:=I.cj F;rw[D]at E;have H:=ow E;refine⟨_,au.next ?_,B⟩;unfold Instr.index;refine au.bind (v:=(k,n)) .pure ?_;refine(aE H).bind ?_;have hb:s[n.toNat]?=some b:=by
       rw[Array.getElem?_eq_some_iff]at Q;obtain⟨b1,hg⟩:=Q;have a9:n.toNat<s.size:=b1;rw[getElem?_pos s n.toNat a9];exact congrArg some hg
      simp only[h0,if_true,hb];exact .pure
     ·exact h.elim
    ·exact h.elim
   ·rename_i cs U;rw[G _ _ U];split at h
    ·rename_i i F;split at h
     ·rename_i m el D;split at h
      ·rename_i j R;split at h
       ·rename_i s hs;have E:=I.cj F;rw[D]at E;have H:=nc E;have am:(∃y,(0<=n/\n<(m:Int)/\cs[n.toNat]?=some (s.enc y))/\K (s.enc y))->(∀fs,j.cj≠.struct fs)->(∀n e,j.cj≠.array n e)->j.cj≠.other->j.size=1->
          ∃v,na C.P (do pure (.value (<-Instr.index t (.agg cs) (.int k n)))) v/\K v:=by
         rintro⟨y,⟨h0,Q,h2⟩,B⟩ d1 d2 d3 bk;refine⟨_,au.next ?_,B⟩;unfold Instr.index;refine au.bind (v:=(k,n)) .pure ?_;refine(aE H).bind ?_;simp only[h0,Q,and_self,if_true];refine(cz I R).bind ?_;rw[bk,Nat.mul_one];exact Bj I R d1 d2 d3 h2
        split at h
        ·exact h.elim
        ·exact h.elim
        ·exact h.elim
        ·rename_i d1 d2 d3;cases hz:wb j.size 1 with
         |false=>rw[hz]at h;exact h.elim
         |true=>
          rw[hz]at h;exact am h d1 d2 d3 (zr hz)
       ·exact h.elim
      ·exact h.elim
     ·exact h.elim
    ·exact h.elim
   ·exact h.elim
  ·exact h.elim
 case field s x f=>
  split at h
  ·rename_i cs U;rw[G _ _ U];split at h
   ·rename_i i F;split at h
    ·rename_i fs Y;split at h
     ·rename_i off t ax;split at h
      ·rename_i j R;have E:=I.cj F;rw[Y]at E;obtain⟨gs,hg,rfl⟩:=lj E;simp only[qN,yu]at ax;obtain⟨g,a6,a8⟩:=ax;cases a8;have ad:gs[f]?=some g:=by simpa using a6
       have am:∀v,au C.P (part g.type ⟨cs⟩ g.offset) v->K v->∃v,na C.P (do pure (.value (<-Instr.field s (.agg ⟨cs⟩) f))) v/\K v:=by
        intro v A B;refine⟨v,au.next ((aE hg).bind ?_),B⟩;simp only[ad];exact au.bind (v:=(⟨cs⟩:Array Value)) .pure A
       split at h
       ·rename_i b3 a4;refine am _ (HZ I R (.inl ⟨_,a4⟩)) ?_;rw[<-HY];exact h
       ·rename_i n' e' a4;refine am _ (HZ I R (.inr ⟨_,_,a4⟩)) ?_;rw[<-HY];exact h
       ·exact h.elim
       ·rename_i d1 d2 d3;split at h
        ·rename_i v A;exact am v (Bj I R d1 d2 d3 (by simpa using A)) h
        ·exact h.elim
      ·exact h.elim
     ·exact h.elim
    ·exact h.elim
   ·exact h.elim
  ·exact h.elim
 case slice t x V hi0 mx=>
  split at h
  ·exact h.elim
  ·split at h
   ·rename_i l r hl hr;have a0:(V=none/\l=none)∨∃y k m,V=some y/\e y=.int k m/\l=some m:=by
     cases V with
     |none=>cases hl;exact .inl ⟨rfl,rfl⟩
     |some y=>
      simp only[CY]at hl;split at hl
      ·rename_i k m hm;cases hl;exact .inr ⟨y,k,m,rfl,G _ _ hm,rfl⟩
      ·cases hl
    have a5:(hi0=none/\r=none)∨∃y k m,hi0=some y/\e y=.int k m/\r=some m:=by
     cases hi0 with
     |none=>cases hr;exact .inl ⟨rfl,rfl⟩
     |some y=>
      simp only[CY]at hr;split at hr
      ·rename_i k m hm;cases hr;exact .inr ⟨y,k,m,rfl,G _ _ hm,rfl⟩
      ·cases hr
    have J:∀(bb:Bool) (len cap:Nat) (V F:Option Value) (a b:Nat),(V=none->a=0)->(∀v,V=some v->∃k m,v=.int k m/\0<=m/\a=m.toNat/\m<=(b:Int))->
      (F=none->b=len)->(∀v,F=some v->∃k m,v=.int k m/\0<=m/\b=m.toNat/\m<=(cap:Int))->
      au C.P (wN bb len cap V F none) (a,b,cap):=by
     intro bb len cap V F a b Q h2 h3 h4 w;cases F with
     |none=>
      have e1:=h3 rfl;subst e1;cases V with
      |none=>rw[Q rfl];simp[wN]
      |some v=>
       obtain⟨k,m,rfl,x1,rfl,x2⟩:=h2 v rfl;simp[wN,Instr.sliceBound,asIntOf,x1,x2]
     |some u=>
      obtain⟨k',W,rfl,y1,rfl,y2⟩:=h4 u rfl;cases V with
      |none=>rw[Q rfl];simp[wN,Instr.sliceBound,asIntOf,y1,y2]
      |some v=>
       obtain⟨k,m,rfl,x1,rfl,x2⟩:=h2 v rfl;have x3:¬max W 0<m:=by omega
       simp[wN,Instr.sliceBound,asIntOf,x1,y1,y2,x3]
    split at h
    ·rename_i p len cap U;rw[G _ _ U];split at h
     ·rename_i i F;split at h
      ·rename_i el D;split at h
       ·rename_i j R;have E:=I.cj F;rw[D]at E;have H:=gS E;have fin:∀(a b:Nat) (v:Value),au C.P (wN true len cap (V.map e) (hi0.map e) none) (a,b,cap)->
          v=.slice (if cap=a then p else p.map (·.add (a*j.size))) (b-a) (cap-a)->K v->
          ∃v,na C.P (do pure (.value (<-yy t (.slice p len cap) (V.map e) (hi0.map e) (Option.map e none)))) v/\K v:=by
         intro a b v hb A B;refine⟨v,au.next ?_,B⟩;unfold yy;refine(aE H).bind ?_;simp only[Instr.slice,Option.map_none];refine(aE H).bind ?_;refine hb.bind ?_;subst A;exact(cz I R).bind .pure
        have al:(if cap=0 then p else p.map (·.add (0*j.size)))=p:=by
         cases p<;>simp[Addr.add]
        rcases a0 with⟨rfl,rfl⟩|⟨y,k,m,rfl,hy,rfl⟩<;>rcases a5 with⟨rfl,rfl⟩|⟨y',k',W,rfl,hy',rfl⟩
        ·exact fin 0 len _ (J _ _ _ _ _ _ _ (fun _=>rfl) (by simp) (fun _=>rfl) (by simp)) (by rw[al];rfl) h
        ·obtain⟨⟨S,Z⟩,B⟩:=h;exact fin 0 W.toNat _ (J _ _ _ _ _ _ _ (fun _=>rfl) (by simp) (by simp) (fun v A=>by cases A;exact⟨k',W,hy',S,rfl,Z⟩)) (by rw[al];rfl) B
        ·obtain⟨⟨S,Z⟩,B⟩:=h;exact fin m.toNat len _ (J _ _ _ _ _ _ _ (by simp) (fun v A=>by cases A;exact⟨k,m,hy,S,rfl,Z⟩) (fun _=>rfl) (by simp)) rfl B
        ·obtain⟨⟨S,Z,a3⟩,B⟩:=h;exact fin m.toNat W.toNat _ (J _ _ _ _ _ _ _ (by simp) (fun v A=>by cases A;exact⟨k,m,hy,S,rfl,by omega⟩) (by simp) (fun v A=>by cases A;exact⟨k',W,hy',by omega,rfl,a3⟩)) rfl B
       ·exact h.elim
      ·exact h.elim
     ·exact h.elim
    ·rename_i s U;rw[G _ _ U];split at h
     ·rename_i i F;split at h
      ·rename_i D;have E:=I.cj F;rw[D]at E;have H:=ow E;have fin:∀(a b:Nat) (v:Value),au C.P (wN false s.size s.size (V.map e) (hi0.map e) none) (a,b,s.size)->
         v=.string (s.extract a b)->K v->
         ∃v,na C.P (do pure (.value (<-yy t (.string s) (V.map e) (hi0.map e) (Option.map e none)))) v/\K v:=by
        intro a b v hb A B;refine⟨v,au.next ?_,B⟩;unfold yy;refine(aE H).bind ?_;simp only[Instr.slice,Option.map_none];refine(aE H).bind ?_;subst A;intro w;simp[hb w]
       rcases a0 with⟨rfl,rfl⟩|⟨y,k,m,rfl,hy,rfl⟩<;>rcases a5 with⟨rfl,rfl⟩|⟨y',k',W,rfl,hy',rfl⟩
       ·exact fin 0 s.size _ (J _ _ _ _ _ _ _ (fun _=>rfl) (by simp) (fun _=>rfl) (by simp)) rfl h
       ·obtain⟨⟨S,Z⟩,B⟩:=h;exact fin 0 W.toNat _ (J _ _ _ _ _ _ _ (fun _=>rfl) (by simp) (by simp) (fun v A=>by cases A;exact⟨k',W,hy',S,rfl,Z⟩)) rfl B
       ·obtain⟨⟨S,Z⟩,B⟩:=h;exact fin m.toNat s.size _ (J _ _ _ _ _ _ _ (by simp) (fun v A=>by cases A;exact⟨k,m,hy,S,rfl,Z⟩) (fun _=>rfl) (by simp)) rfl B
       ·obtain⟨⟨S,Z,a3⟩,B⟩:=h;exact fin m.toNat W.toNat _ (J _ _ _ _ _ _ _ (by simp) (fun v A=>by cases A;exact⟨k,m,hy,S,rfl,by omega⟩) (by simp) (fun v A=>by cases A;exact⟨k',W,hy',by omega,rfl,a3⟩)) rfl B
      ·exact h.elim
     ·exact h.elim
    ·rename_i a U;rw[G _ _ U];split at h
     ·rename_i i F;split at h
      ·rename_i n el D;split at h
       ·rename_i j R;have E:=I.cj F;rw[D]at E;have H:=nc E;have fin:∀(a' b:Nat) (v:Value),au C.P (wN false n n (V.map e) (hi0.map e) none) (a',b,n)->
          v=.slice (some (if n=a' then a else a.add (a'*j.size))) (b-a') (n-a')->K v->
          ∃v,na C.P (do pure (.value (<-yy t (.pointer (some a)) (V.map e) (hi0.map e) (Option.map e none)))) v/\K v:=by
         intro a' b v hb A B;refine⟨v,au.next ?_,B⟩;unfold yy;refine(aE H).bind ?_;simp only[Option.map_none];refine au.bind (v:=a) .pure ?_;refine hb.bind ?_;subst A;exact(cz I R).bind .pure
        have al:(if n=0 then a else a.add (0*j.size))=a:=by simp[Addr.add]
        rcases a0 with⟨rfl,rfl⟩|⟨y,k,m,rfl,hy,rfl⟩<;>rcases a5 with⟨rfl,rfl⟩|⟨y',k',W,rfl,hy',rfl⟩
        ·exact fin 0 n _ (J _ _ _ _ _ _ _ (fun _=>rfl) (by simp) (fun _=>rfl) (by simp)) (by rw[al];rfl) h
        ·obtain⟨⟨S,Z⟩,B⟩:=h;exact fin 0 W.toNat _ (J _ _ _ _ _ _ _ (fun _=>rfl) (by simp) (by simp) (fun v A=>by cases A;exact⟨k',W,hy',S,rfl,Z⟩)) (by rw[al];rfl) B
        ·obtain⟨⟨S,Z⟩,B⟩:=h;exact fin m.toNat n _ (J _ _ _ _ _ _ _ (by simp) (fun v A=>by cases A;exact⟨k,m,hy,S,rfl,Z⟩) (fun _=>rfl) (by simp)) rfl B
        ·obtain⟨⟨S,Z,a3⟩,B⟩:=h;exact fin m.toNat W.toNat _ (J _ _ _ _ _ _ _ (by simp) (fun v A=>by cases A;exact⟨k,m,hy,S,rfl,by omega⟩) (by simp) (fun v A=>by cases A;exact⟨k',W,hy',by omega,rfl,a3⟩)) rfl B
       ·exact h.elim
      ·exact h.elim
     ·exact h.elim
    ·exact h.elim
   ·exact h.elim
 case extract x n=>
  split at h
  ·rename_i vs U;rw[G _ _ U];split at h
   ·rename_i v A;refine⟨v,au.next ?_,h⟩;have:(⟨vs⟩:Array Value)[n]?=some v:=by simpa using A
    simp only[Instr.extract,this];exact .pure
   ·exact h.elim
  ·exact h.elim
 case binOp op t x y u=>
  split at h
  ·rename_i a b ha hb;rw[G _ _ ha,G _ _ hb];obtain⟨v,A,B⟩:=Mr (P:=C.P) (x:=x) (y:=y) (M t) h;exact⟨v,A.next,B⟩
  ·exact h.elim
 case unOp op t x=>
  split at h
  ·rename_i v A;rw[G _ _ A];unfold Ww at h;split at h
   ·split at h
    ·exact⟨_,au.next .pure,h⟩
    ·exact h.elim
   ·split at h
    ·exact⟨_,au.next .pure,h⟩
    ·exact⟨_,au.next .pure,h⟩
    ·exact h.elim
   ·exact h.elim
  ·exact h.elim
 case convert s d x=>
  split at h
  ·rename_i v ks A br;rw[G _ _ A];have hs:=AB (M _ _ br);unfold SK at h;split at h
   ·split at h
    ·rename_i n _ k B;have H:=AB (M _ _ B);refine⟨_,au.next ?_,h⟩;unfold convert;refine(aE hs).bind ((aE H).bind ?_);exact .pure
    ·exact h.elim
   ·exact h.elim
  ·exact h.elim
 case build t parts=>
  split at h
  ·rename_i vs b2;have hp:(parts.map fun(i,x)=>(i,e x)).toList=vs:=by
    have:=Bi G b2;simpa using this
   split at h
   ·rename_i i F;obtain⟨z,hz,bd⟩:=mN I F;have ay:i.zero.toArray=z.cells:=by rw[<-bd]
    cases hbig:vk 24 i.size with
    |true=>
     rw[hbig]at h;obtain⟨v,A,B⟩:=h;have b0:(parts.map fun(i,x)=>(i,e x))=vs.toArray:=by rw[<-hp]
     refine⟨v,au.next ?_,B⟩;show au C.P (yC t (parts.map fun(i,x)=>(i,e x))) v;rw[b0];exact A
    |false=>
    rw[hbig]at h;simp only[cond_false]at h;split at h
    ·rename_i fs Y;have E:=I.cj F;rw[Y]at E;obtain⟨gs,hg,rfl⟩:=lj E;split at h
     ·rename_i ps bs;split at h
      ·rename_i cells O;refine⟨_,au.next (hz.bind ((aE hg).bind ?_)),h⟩;have bl:au C.P (gs.mapM fun f=>(do pure (f.offset,<-sizeOf f.type):Sem (Nat×Nat))) ps.toArray:=by
        rw[yL];intro w;have:=ko I bs w;rw[map_eq_pure_bind,Sem.run_bind,this];rfl
       refine bl.bind ?_;have a7:wc (fun n=>ps.toArray[n]?) z.cells (parts.map fun(i,x)=>(i,e x)).toList=some cells:=by
        rw[hp,<-ay];simpa using O
       rw[a7];exact .pure
      ·exact h.elim
     ·exact h.elim
    ·rename_i n el Y;have E:=I.cj F;rw[Y]at E;have H:=nc E;split at h
     ·rename_i j R;split at h
      ·rename_i cells O;refine⟨_,au.next (hz.bind ((aE H).bind ((cz I R).bind ?_))),h⟩;have a7:wc (fun i=>some (i*j.size,j.size)) z.cells (parts.map fun(i,x)=>(i,e x)).toList=some cells:=by
        rw[hp,<-ay];exact O
       rw[a7];exact .pure
      ·exact h.elim
     ·exact h.elim
    ·exact h.elim
   ·exact h.elim
  ·exact h.elim
 case makeFunc fn first captured=>
  split at h
  ·rename_i a b ha hb;have Q:first.map e=a.toArray:=by apply wY;simpa using sQ G ha
   have h2:captured.map e=b.toArray:=by apply wY;simpa using sQ G hb
   refine⟨_,au.next ?_,h⟩;rw[Q,h2];exact .pure
  ·exact h.elim
 case call c=>
  split at h
  ·rename_i b hb;have L:∀{v:Value},au C.P (builtin b c.argTypes o.type (c.args.map fun| .const _=>true|_=>false) (c.args.map e)) (.value v)->
     na C.P (do let d<-resolve e c o.type;invoke d.target d.args) v:=by
    intro v A w;have:=A w;unfold resolve;rw[hb];exact this
   have N:∀{vs:List Value},ma ev c.args.toList=some vs->c.args.map e=vs.toArray:=fun A=>by
    apply wY;simpa using sQ G A
   have X:∀{s:Sem Value} {v:Value},au C.P s v->au C.P (do pure (Next.value (<-s))) (.value v):=fun hs=>hs.bind .pure;split at h
   case h_1=>
    split at h
    ·rename_i t ts x Q h2;split at h
     ·rename_i v A;have ha:c.args.map e=#[v]:=by
       apply wY;rw[vh,h2];simp[G _ _ A]
      have ht:c.argTypes[0]?=some t:=by
       rw[<-Array.getElem?_toList,Q];rfl
      unfold UR at h;split at h
      ·rename_i p n cap;split at h
       ·rename_i el D;have H:=gS (M _ _ D);refine⟨_,L ?_,h⟩;rw[ha];refine X ?_;intro w;simp[Builtin.len_,ht,underlying,H,goInt]
       ·exact h.elim
      ·rename_i s;split at h
       ·rename_i D;have H:=ow (M _ _ D);refine⟨_,L ?_,h⟩;rw[ha];refine X ?_;intro w;simp[Builtin.len_,ht,underlying,H,goInt]
       ·exact h.elim
      ·exact h.elim
     ·exact h.elim
    ·exact h.elim
   case h_2=>
    split at h
    ·rename_i t ts x Q h2;split at h
     ·rename_i v A;have ha:c.args.map e=#[v]:=by
       apply wY;rw[vh,h2];simp[G _ _ A]
      have ht:c.argTypes[0]?=some t:=by
       rw[<-Array.getElem?_toList,Q];rfl
      unfold US at h;split at h
      ·rename_i p n cap;split at h
       ·rename_i el D;have H:=gS (M _ _ D);refine⟨_,L ?_,h⟩;rw[ha];refine X ?_;intro w;simp[Builtin.cap_,ht,underlying,H,goInt]
       ·exact h.elim
      ·exact h.elim
     ·exact h.elim
    ·exact h.elim
   case h_3=>
    split at h
    ·rename_i k a k' b A;refine⟨_,L ?_,h⟩;rw[N A];refine X ?_;intro w;simp[Builtin.min_,Builtin.min2]
    ·exact h.elim
   case h_4=>
    split at h
    ·rename_i k a k' b A;refine⟨_,L ?_,h⟩;rw[N A];refine X ?_;intro w;simp[Builtin.max_,Builtin.max2]
    ·exact h.elim
   case h_5=>
    split at h
    ·rename_i k a b A;refine⟨_,L ?_,h⟩;rw[N A];exact X .pure
    ·exact h.elim
   case h_6=>
    split at h
    ·rename_i k a b A;refine⟨_,L ?_,h⟩;rw[N A];exact X .pure
    ·exact h.elim
   all_goals exact h.elim
  ·exact h.elim
 all_goals exact h.elim
end
def ah(h:Heap)(a:Addr):Nat->List Value->Prop
 |_,[]=>True
 |n,v::r=>cellOf h (a.add n)=some v/\ah h a (n+1) r
structure pM where
 a:Addr
 ty:Ty
 n:Nat
def pM.holds(r:pM)(h:Heap)(y:r.ty.den):Prop:=
 match r.ty,y with
 | .sc s,y=>cellOf h r.a=some (s.enc y)
 | .agg l,y=>ah h r.a 0 (rn l y)
 | .arr s,y=>y.length=r.n/\ah h r.a 0 (y.map s.enc)
def oC(T:jr)(b:Op)(ev:Operand->Option Value):Option pM:=
 match b with
 | .load t x=>match ev x with
  |some (.pointer (some a))=>match T.get t with
   |some i=>match i.cj with
    | .struct _=>match i.ty with
     | .agg l=>bif wb l.length i.size then some ⟨a,i.ty,i.size⟩else none
     |_=>none
    | .array _ _=>match i.ty with
     | .arr _=>some ⟨a,i.ty,i.size⟩
     |_=>none
    | .other=>none
    |_=>match i.ty with
     | .sc _=>some ⟨a,i.ty,1⟩
     |_=>none
   |none=>none
  |_=>none
 |_=>none
theorem Bl:∀(l:List Sc) (x:EZ l),(rn l x).length=l.length
 |[],_=>rfl
 |[_],_=>rfl
 |_::t::r,x=>by simp only[rn,zc];rw[Bl (t::r) x.2];rfl
theorem run_loadCells{P:Program}{w:World}{a:Addr}:∀(vs:List Value) (i:Nat) (b:Array Value),ah w.heap a i vs->
  (loadCellsFrom a i vs.length b).run P w=.ok (b++vs.toArray) w
 |[],i,b,_=>by simp[loadCellsFrom]
 |v::r,i,b,h=>by
  simp only[zc,loadCellsFrom,Sem.run_bind,run_load,EX,h.1,Result.andThen_ok];rw[run_loadCells r (i+1) (b.push v) h.2];simp
theorem sS{C:rQ}(j:C.Ok){ev:Operand->Option Value}{e:Operand->Value}(z:∀x v,ev x=some v->e x=v){o:Oper}{r:pM}
  (b:oC C.T o.op ev=some r) {y:r.ty.den} {w:World} (d:r.holds w.heap y):(execOp e o).run C.P w=.ok (.value (r.ty.enc y)) w:=by
 unfold oC at b;split at b
 ·rename_i t x q;simp only[execOp,q];split at b
  ·rename_i a A;rw[z _ _ A];split at b
   ·rename_i i m;have f:(∀v,(loadVar t a).run C.P w=.ok v w->(do let s<-vv t (.pointer (some a));pure (Next.value s):Sem Next).run C.P w=.ok (.value v) w):=by
     intro v D;have:vv t (.pointer (some a))=loadVar t a:=rfl;rw[this,Sem.run_bind,D];rfl
    split at b
    ·rename_i B h;split at b
     ·rename_i l g;cases hb:wb l.length i.size with
      |false=>rw[hb]at b;cases b
      |true=>
       rw[hb]at b;simp only[cond_true,wL.injEq]at b;subst b;have k:=zr hb;have c:∀(ty:Ty) (y:ty.den),ty=.agg l->pM.holds ⟨a,ty,i.size⟩ w.heap y->(loadVar t a).run C.P w=.ok (ty.enc y) w:=by
        rintro ty y rfl d;unfold loadVar;rw[Sem.run_bind,(iv j m).1 B h w];simp only[Result.andThen_ok,if_true,Sem.run_bind,cz j m w];have p:=run_loadCells (P:=C.P) (w:=w) (a:=a) (rn l y) 0 #[] d;rw[Bl,k]at p;unfold loadCells;rw[p];simp
       exact f _ (c i.ty y g d)
     ·cases b
    ·rename_i n G h;split at b
     ·rename_i s g;cases b;have c:∀(ty:Ty) (y:ty.den),ty=.arr s->pM.holds ⟨a,ty,i.size⟩ w.heap y->(loadVar t a).run C.P w=.ok (ty.enc y) w:=by
       rintro ty y rfl ⟨g,d⟩;unfold loadVar;rw[Sem.run_bind,(iv j m).2.1 n G h w];simp only[Result.andThen_ok,if_true,Sem.run_bind,cz j m w];have p:=run_loadCells (P:=C.P) (w:=w) (a:=a) (y.map s.enc) 0 #[] d;rw[List.length_map,g]at p;unfold loadCells;rw[p];simp
      exact f _ (c i.ty y g d)
     ·cases b
    ·cases b
    ·rename_i F E H;split at b
     ·rename_i s g;cases b;have c:∀(ty:Ty) (y:ty.den),ty=.sc s->pM.holds ⟨a,ty,1⟩ w.heap y->(loadVar t a).run C.P w=.ok (ty.enc y) w:=by
       rintro ty y rfl d;have u:cellOf w.heap a=some (s.enc y):=d;unfold loadVar;rw[Sem.run_bind,(iv j m).2.2 F E H w];simp[EX,u]
      exact f _ (c i.ty y g d)
     ·cases b
   ·cases b
  ·cases b
 ·cases b
def Typed(t:Ty)(K:Value->Heap->Prop)(v:Value)(h:Heap):Prop:=∃x:t.den,v=t.enc x/\K (t.enc x) h
def Da(t:Rt)(K:Value->Heap->Prop)(v:Value)(h:Heap):Prop:=∃x:t.den,v=t.enc x/\K (t.enc x) h
def Db(K:Value->Heap->Prop)(v:Value)(h:Heap):Prop:=∃a:Addr,v=.pointer (some a)/\K (.pointer (some a)) h
def UU(T:jr)(t:TypeId)(tup:List (TypeId×List Ty)):Option Rt:=
 match tup.find? (fun p=>wb p.1 t)with
 |some p=>some (.many p.2)
 |none=>match T.get t with
  |some i=>some (.one i.ty)
  |none=>none
structure Ctx extends rQ where
 tup:List (TypeId×List Ty)
 fns:List Bool
structure Ctx.Ok (C:Ctx):Prop extends rQ.Ok C.torQ where
 fns:(C.P.funcs.toList.map fun f=>!(f.name== "runtime.NumGoroutine")&&f.body.isSome)=C.fns
def Ms(C:Ctx)(g:FuncId)(args:List Value)(t:TypeId)(K:Value->Heap->Prop)(h:Heap):Prop:=
 match C.fns[g]? with
 |some true=>match UU C.T t C.tup with
  |some r=>ab C.P g args.toArray h (Da r K)
  |none=>False
 |_=>False
def Dc(C:Ctx)(o:Oper)(ev:Operand->Option Value)(K:Value->Heap->Prop)(h:Heap):Prop:=
 match o.op with
 | .store t a x=>match ev a,ev x with
  |some p,some v=>ae C.P (Instr.storeAt t p v) h fun _ e=>K undef e
  |_,_=>False
 | .alloc t=>ae C.P (Instr.alloc t true (.tuple #[])) h (Db K)
 | .box t x=>match ev x with
  |some v=>ae C.P (Instr.box t v) h (Db K)
  |none=>False
 | .makeSlice t l c=>match ev l,ev c with
  |some l,some c=>ae C.P (Instr.makeSlice t l c) h (Typed (.sc .slc) K)
  |_,_=>False
 | .buildSlice t n parts=>match vY ev parts.toList with
  |some ps=>ae C.P (Instr.buildSlice t n ps.toArray) h (Typed (.sc .slc) K)
  |none=>False
 | .makeMap t none=>ae C.P (Instr.makeMap t none) h (Typed (.sc .mp) K)
 | .lookup t x ix ok=>match ev x,ev ix,UU C.T o.type C.tup with
  |some m,some k,some r=>ae C.P (Instr.lookup t m k ok) h (Da r K)
  |_,_,_=>False
 | .mapUpdate t m k x=>match ev m,ev k,ev x with
  |some m,some k,some v=>ae C.P (Instr.mapUpdate t m k v) h fun _ e=>K undef e
  |_,_,_=>False
 | .convert s d x=>match ev x,C.T.get o.type with
  |some v,some i=>ae C.P (convert s d v) h (Typed i.ty K)
  |_,_=>False
 | .binOp op t x y _=>match ev x,ev y,C.T.get o.type with
  |some a,some b,some i=>ae C.P (do eqGuard op t x y a b;binOp op t a b) h (Typed i.ty K)
  |some a,some b,none=>ae C.P (do eqGuard op t x y a b;binOp op t a b) h (Typed (.sc .bool) K)
  |_,_,_=>False
 | .slice t x lo hi mx=>match optVal ev lo,optVal ev hi,optVal ev mx,ev x with
  |some l,some r,some m,some v=>ae C.P (yy t v l r m) h (Typed (.sc .slc) K)
  |_,_,_,_=>False
 | .call c=>match c.callee with
  | .builtin .append=>match ma ev c.args.toList with
   |some vs=>ae C.P (Builtin.append_ c.argTypes o.type vs.toArray) h (Typed (.sc .slc) K)
   |none=>False
  | .builtin .copy=>match ma ev c.args.toList with
   |some vs=>ae C.P (Builtin.copy_ c.argTypes o.type vs.toArray) h (Typed (.sc (.int .i64)) K)
   |none=>False
  | .builtin .clear=>match ma ev c.args.toList with
   |some vs=>ae C.P (Builtin.clear_ c.argTypes o.type vs.toArray) h K
   |none=>False
  | .builtin .len=>match ma ev c.args.toList with
   |some vs=>ae C.P (Builtin.len_ c.argTypes o.type vs.toArray) h (Typed (.sc (.int .i64)) K)
   |none=>False
  | .builtin .unsafeString=>match ma ev c.args.toList with
   |some vs=>ae C.P (Builtin.unsafeString_ c.argTypes o.type vs.toArray) h (Typed (.sc .str) K)
   |none=>False
  | .builtin .delete=>match ma ev c.args.toList with
   |some vs=>ae C.P (Builtin.delete_ c.argTypes o.type vs.toArray) h K
   |none=>False
  | .value f=>match ev f,ma ev c.args.toList with
   |some (.func (.func g) ⟨first⟩ ⟨caps⟩),some vs=>Ms C g (first++vs++caps) o.type K h
   |_,_=>False
  |_=>False
 |_=>False
where
 optVal (ev:Operand->Option Value):Option Operand->Option (Option Value)
  |none=>some none
  |some x=>match ev x with
   |some v=>some (some v)
   |none=>none
section
variable {P:Program} {h:Heap} {K:Value->Heap->Prop}
theorem dW{s:Sem Value}(a:ae P s h K):rO P (do pure (.value (<-s))) h K:=
 ae.bind (a.mono fun _ _ b=>ae.pure' b)
theorem Ia{s:Sem Unit}(b:ae P s h fun _ a=>K undef a):rO P (do s;pure .skip) h K:=
 ae.bind (b.mono fun _ _ c=>ae.pure' c)
theorem Typed.out{t:Ty}{v:Value}{h:Heap}(x:Typed t K v h):K v h:=by obtain⟨y,rfl,a⟩:=x;exact a
theorem Da.out{t:Rt}{v:Value}{h:Heap}(x:Da t K v h):K v h:=by obtain⟨y,rfl,a⟩:=x;exact a
theorem Db.out{v:Value}{h:Heap}(x:Db K v h):K v h:=by obtain⟨y,rfl,a⟩:=x;exact a
end
theorem KA{C:Ctx}(f:C.Ok){g:FuncId}{args:List Value}{t:TypeId}{K:Value->Heap->Prop}{h:Heap}(b:Ms C g args t K h):
  rO C.P (callFunc g args.toArray) h K:=by
 unfold Ms at b;split at b
 ·rename_i e;split at b
  ·rename_i r i;have a:=congrArg (·[g]?) f.fns;simp only[qN,e]at a;cases hf:C.P.funcs.toList[g]? with
   |none=>rw[hf]at a;cases a
   |some fn=>
    rw[hf]at a;simp only[qK,wL.injEq,qA,Bool.not_eq_true']at a;have c:C.P.funcs[g]?=some fn:=by simpa using hf
    have d:fn.body.isNone=false:=by cases hbb:fn.body<;>simp[hbb]at a⊢
    unfold callFunc;refine ae.bind (ae.QL ?_);simp only[c,a.1,d];exact ae.pure' (b.mono fun v j x=>x.out)
  ·exact b.elim
 ·exact b.elim
theorem Mt{C:Ctx}(T:C.Ok){ev:Operand->Option Value}{e:Operand->Value}(A:∀x v,ev x=some v->e x=v){o:Oper}
  {K:Value->Heap->Prop} {h:Heap} (j:Dc C o ev K h):rO C.P (execOp e o) h K:=by
 have F:∀{x:Option Operand} {r:Option Value},Dc.optVal ev x=some r->x.map e=r:=by
  intro x r J;cases x with
  |none=>cases J;rfl
  |some y=>
   simp only[Dc.optVal]at J;split at J
   ·rename_i v B;cases J;rw[qK,A _ _ B]
   ·cases J
 unfold Dc at j;split at j
 ·rename_i t a x q;simp only[execOp,q];split at j
  ·rename_i p v V B;rw[A _ _ V,A _ _ B];exact Ia j
  ·exact j.elim
 ·rename_i t q;simp only[execOp,q];exact dW (j.mono fun _ _ x=>x.out)
 ·rename_i t x q;simp only[execOp,q];split at j
  ·rename_i v B;rw[A _ _ B];exact dW (j.mono fun _ _ x=>x.out)
  ·exact j.elim
 ·rename_i t l c q;simp only[execOp,q];split at j
  ·rename_i v u B X;rw[A _ _ B,A _ _ X];exact dW (j.mono fun _ _ x=>x.out)
  ·exact j.elim
 ·rename_i t n parts q;simp only[execOp,q];split at j
  ·rename_i U M;have:(parts.map fun(i,x)=>(i,e x))=U.toArray:=by
    apply wY;have:=Bi A M;simpa using this
   rw[this];exact dW (j.mono fun _ _ x=>x.out)
  ·exact j.elim
 ·rename_i t q;simp only[execOp,q];exact dW (j.mono fun _ _ x=>x.out)
 ·rename_i t x ix ok q;simp only[execOp,q];split at j
  ·rename_i m k r I G R;rw[A _ _ I,A _ _ G];exact dW (j.mono fun _ _ x=>x.out)
  ·exact j.elim
 ·rename_i t m k x q;simp only[execOp,q];split at j
  ·rename_i Z Y v I G B;rw[A _ _ I,A _ _ G,A _ _ B];exact Ia j
  ·exact j.elim
 ·rename_i s d x q;simp only[execOp,q];split at j
  ·rename_i v i B Q;rw[A _ _ B];exact dW (j.mono fun _ _ x=>x.out)
  ·exact j.elim
 ·rename_i op t x y u q;simp only[execOp,q];split at j
  ·rename_i a b i L O Q;rw[A _ _ L,A _ _ O];exact dW (j.mono fun _ _ x=>x.out)
  ·rename_i a b L O Q;rw[A _ _ L,A _ _ O];exact dW (j.mono fun _ _ x=>x.out)
  ·exact j.elim
 ·rename_i t x lo Q mx q;simp only[execOp,q];split at j
  ·rename_i l r m v S R I B;rw[F S,F R,F I,A _ _ B];exact dW (j.mono fun _ _ x=>x.out)
  ·exact j.elim
 ·rename_i c q;simp only[execOp,q];have w:∀{vs:List Value},ma ev c.args.toList=some vs->c.args.map e=vs.toArray:=fun B=>by
   apply wY;simpa using sQ A B
  split at j
  ·rename_i D;split at j
   ·rename_i vs z;unfold resolve;rw[D,w z];exact dW (j.mono fun _ _ x=>x.out)
   ·exact j.elim
  ·rename_i D;split at j
   ·rename_i vs z;unfold resolve;rw[D,w z];exact dW (j.mono fun _ _ x=>x.out)
   ·exact j.elim
  ·rename_i D;split at j
   ·rename_i vs z;unfold resolve;rw[D,w z];exact dW j
   ·exact j.elim
  ·rename_i D;split at j
   ·rename_i vs z;unfold resolve;rw[D,w z];exact dW (j.mono fun _ _ x=>x.out)
   ·exact j.elim
  ·rename_i D;split at j
   ·rename_i vs z;unfold resolve;rw[D,w z];exact dW (j.mono fun _ _ x=>x.out)
   ·exact j.elim
  ·rename_i D;split at j
   ·rename_i vs z;unfold resolve;rw[D,w z];exact dW j
   ·exact j.elim
  ·rename_i f D;split at j
   ·rename_i g first E vs W z
    unfold resolve;rw[D,w z];simp only[A _ _ W];have:=KA T j;have H:(⟨first⟩:Array Value)++vs.toArray++(⟨E⟩:Array Value)=(first++vs++E).toArray:=by simp
    have N:rO C.P (callFunc g ((⟨first⟩:Array Value)++vs.toArray++(⟨E⟩:Array Value))) h K:=by rw[H];exact this
    simp only[Deferred.ofValue];exact N
   ·exact j.elim
  ·exact j.elim
 ·exact j.elim
def put(n:Nat)(a:Option Tmp)(K:Env->Heap->Prop)(ρ:Env)(v:Value)(h:Heap):Prop:=
 match a with
 |some d=>bif vk d n then K (.val d v::ρ) h else False
 |none=>K ρ h
theorem oD{n:Nat}{b:Option Tmp}{K:Env->Heap->Prop}{ρ:Env}{v:Value}{h:Heap}(c:put n b K ρ v h){a:Act}(e:Fits n a ρ):
  ∃ρ',Fits n (a.put b v) ρ'/\Ext ρ ρ' a (a.put b v)/\K ρ' h:=by
 unfold put at c;cases b with
 |none=>exact⟨ρ,e,Ext.refl _ _,c⟩
 |some d=>
  simp only at c;cases hb:vk d n with
  |false=>rw[hb]at c;exact c.elim
  |true=>rw[hb]at c;exact⟨_,e.put hb v,Ext.put v v,c⟩
def QS(C:Ctx)(n:Nat)(o:Oper)(K:Env->Heap->Prop)(ρ:Env)(h:Heap):Prop:=
 match rR C.P C.T o.op ρ.eval with
 | .no=>match oC C.T o.op ρ.eval with
  |some r=>∃y:r.ty.den,r.holds h y/\put n o.dst K ρ (r.ty.enc y) h
  |none=>Dc C o ρ.eval (put n o.dst K ρ) h
 |p=>p.holds fun v=>put n o.dst K ρ v h
def Dd(ops:Array Oper)(o:Oper)(ρ:Env)(a skip:Env->Prop):Prop:=
 match o.guard with
 |none=>a ρ
 |some (j,want)=>match(ops[j]?).bind (·.dst)with
  |some d=>match ρ.get d with
   |some (.bool b)=>Br b (bif want then a (.val d (.bool true)::ρ)else skip (.val d (.bool true)::ρ)) (bif want then skip (.val d (.bool false)::ρ)else a (.val d (.bool false)::ρ))
   |some (.tuple _)=>skip ρ
   |_=>False
  |none=>False
theorem Fits.known{n:Nat}{a:Act}{ρ:Env}(c:Fits n a ρ){d:Nat}{v:Value}(e:ρ.get d=some v):Fits n a (.val d v::ρ)/\Ext ρ (.val d v::ρ) a a:=by
 refine⟨⟨c.size,c.defers,fun t x b=>?_⟩,⟨[.val d v],rfl,fun _ _=>rfl⟩⟩;simp only[Env.get]at b;cases hb:wb d t with
 |false=>rw[hb]at b;exact c.get t x b
 |true=>
  rw[hb]at b;have:=zr hb;subst this;rw[cond_true]at b;exact c.get _ x (e.trans b)
theorem Bm{ops:Array Oper}{o:Oper}{ρ:Env}{e skip:Env->Prop}{n:Nat}{a:Act}(g:Fits n a ρ)(c:Dd ops o ρ e skip):
  ∃ρ',Fits n a ρ'/\Ext ρ ρ' a a/\((Region.wanted o (yielded ops a.tmps)=true/\e ρ')∨(Region.wanted o (yielded ops a.tmps)=false/\skip ρ')):=by
 unfold Dd at c;unfold Region.wanted;split at c
 ·rename_i l;rw[l];exact⟨ρ,g,Ext.refl _ _,.inl ⟨rfl,c⟩⟩
 ·rename_i j f l;rw[l];split at c
  ·rename_i d p;split at c
   ·rename_i b i;have m:yielded ops a.tmps j=some b:=by
     unfold yielded;rw[p];simp[g.get _ _ i]
    simp only[m];obtain⟨k,h⟩:=g.known i;cases b<;>cases f<;>simp only[Br,cond_true,cond_false]at c
    ·exact⟨_,k,h,.inl ⟨rfl,c⟩⟩
    ·exact⟨_,k,h,.inr ⟨rfl,c⟩⟩
    ·exact⟨_,k,h,.inr ⟨rfl,c⟩⟩
    ·exact⟨_,k,h,.inl ⟨rfl,c⟩⟩
   ·rename_i vs i;have m:yielded ops a.tmps j=none:=by
     unfold yielded;rw[p];simp[g.get _ _ i]
    simp only[m];exact⟨ρ,g,Ext.refl _ _,.inr ⟨by simp,c⟩⟩
   ·exact c.elim
  ·exact c.elim
theorem Om{C:Ctx}(g:C.Ok){n:Nat}{o:Oper}{K:Env->Heap->Prop}{ρ:Env}{a:Act}{w:World}(j:Fits n a ρ)(d:QS C n o K ρ w.heap)
  {Q:Exit->Act->World->Prop} {next:Act->World->Prop}
  (q:∀a' w' ρ',Fits n a' ρ'->Ext ρ ρ' a a'->ct w w'->K ρ' w'.heap->next a' w'):o.wp C.P a w next Q:=by
 have f:∀x v,ρ.eval x=some v->a.eval x=v:=fun x v h=>j.eval h;have b:∀v w',ct w w'->put n o.dst K ρ v w'.heap->next (a.put o.dst v) w':=fun v w' k p=>by
  obtain⟨ρ',s,m,h3⟩:=oD p j;exact q _ _ _ s m k h3
 have c:(rR C.P C.T o.op ρ.eval).holds (fun v=>put n o.dst K ρ v w.heap)->o.wp C.P a w next Q:=fun h=>by
  obtain⟨v,l,i⟩:=CZ g.toOk f h;unfold Oper.wp;rw[l w];exact b v w (ct.refl w) i
 unfold QS at d;split at d
 ·split at d
  ·rename_i r e;obtain⟨y,t,i⟩:=d;unfold Oper.wp;rw[sS g.toOk f e t];exact b _ w (ct.refl w) i
  ·exact Wc (Mt g f d) b
 ·exact c d
def AC(C:Ctx)(n:Nat)(ops:Array Oper)(o:Oper)(K:Env->Heap->Prop)(ρ:Env)(h:Heap):Prop:=
 Dd ops o ρ (fun ρ=>QS C n o K ρ h) (fun ρ=>put n o.dst K ρ undef h)
theorem De{C:Ctx}(f:C.Ok){n:Nat}{ops:Array Oper}{o:Oper}{i:Nat}(p:ops[i]?=some o){K:Env->Heap->Prop}{ρ:Env}{a:Act}{w:World}
  (q:Fits n a ρ) (l:AC C n ops o K ρ w.heap) {Q:Exit->Act->World->Prop} {next:Act->World->Prop}
  (d:∀a' w' ρ',Fits n a' ρ'->Ext ρ ρ' a a'->ct w w'->K ρ' w'.heap->next a' w'):wpOp C.P ops Q i next a w:=by
 obtain⟨ρ',e,c,h3⟩:=Bm q l;unfold wpOp;simp only[p];rcases h3 with⟨hw,hr⟩|⟨hw,hr⟩
 ·simp only[hw,if_true];exact .inl (Om f e hr fun a' w' b j x2 x3 k=>d _ _ _ j (c.trans x2) x3 k)
 ·simp only[hw,q0,if_false];obtain⟨b,h,g,m⟩:=oD hr e;exact d _ _ _ h (c.trans g) (ct.refl w) m
def QU(C:Ctx)(n:Nat)(ops:Array Oper)(K:Env->Heap->Prop):List Oper->Env->Heap->Prop
 |[],ρ,h=>K ρ h
 |o::r,ρ,h=>AC C n ops o (QU C n ops K r) ρ h
def Out(n:Nat)(Q:Exit->Env->Heap->Prop)(ρ:Env)(a:Act)(w:World):Exit->Act->World->Prop:=fun e a' w'=>
 ∃ρ',Fits n a' ρ'/\Ext ρ ρ' a a'/\ct w w'/\Q e ρ' w'.heap
theorem FT{C:Ctx}(b:C.Ok){n:Nat}{ops:Array Oper}{K:Env->Heap->Prop}{Q:Exit->Act->World->Prop}{ρ0:Env}{a0:Act}{w0:World}
  (c:∀a w ρ,Fits n a ρ->Ext ρ0 ρ a0 a->ct w0 w->K ρ w.heap->Q .normal a w):
  ∀(r:List Oper) (i:Nat),(∀j,r[j]?=ops[i+j]?)->∀(ρ:Env) (a:Act) (w:World),Fits n a ρ->Ext ρ0 ρ a0 a->ct w0 w->QU C n ops K r ρ w.heap->
   wpOps C.P ops Q (List.range' i r.length) a w
 |[],i,_,ρ,a,w,hf,hx,hl,hs=>c a w ρ hf hx hl hs
 |o::r,i,hr,ρ,a,w,hf,hx,hl,hs=>by
  have d:ops[i]?=some o:=by simpa using(hr 0).symm
  rw[zc,List.range'_succ,wpOps_cons];refine De b d hf hs fun a' w' ρ' g e h3 f=>?_;exact FT b c r (i+1) (fun j=>by have:=hr (j+1);simpa[Nat.add_assoc,Nat.add_comm 1 j]using this) ρ' a' w' g (hx.trans e) (hl.trans h3) f
abbrev ar:=List (Addr×Value)
def ar.ok:ar->Heap->Prop
 |[],_=>True
 |p::r,h=>cellOf h p.1=some p.2/\ar.ok r h
def jx(a:Addr):Nat->List Value->ar->ar
 |_,[],L=>L
 |n,v::r,L=>(a.add n,v)::jx a (n+1) r L
theorem kp{a:Addr}{h:Heap}:∀{vs:List Value} {n:Nat} {L:ar},(jx a n vs L).ok h↔ah h a n vs/\L.ok h
 |[],_,L=>by simp[jx,ah]
 |v::r,n,L=>by simp only[jx,ar.ok,ah,kp (vs:=r),and_assoc]
def pM.held(r:pM)(y:r.ty.den)(L:ar):ar:=
 match r.ty,y with
 | .sc s,y=>(r.a,s.enc y)::L
 | .agg l,y=>jx r.a 0 (rn l y) L
 | .arr s,y=>jx r.a 0 (y.map s.enc) L
theorem pM.TQ{r:pM}{y:r.ty.den}{L:ar}{c:Heap}(b:r.holds c y){m:Heap}:(r.held y L).ok m↔r.holds m y/\L.ok m:=by
 obtain⟨a,ty,n⟩:=r;cases ty with
 |sc s=>exact Iff.rfl
 |agg l=>exact kp
 |arr s=>exact kp.trans ⟨fun x=>⟨⟨b.1,x.1⟩,x.2⟩,fun x=>⟨x.1.2,x.2⟩⟩
structure ea where
 op:Nat
 r:pM
 y:r.ty.den
def flat:List ea->ar
 |[]=>[]
 |p::r=>p.r.held p.y (flat r)
def ea.ok(p:ea)(w:World):Prop:=p.r.holds w.heap p.y
def waits(ops:Array Oper)(j i:Nat):Bool:=match ops[j]? with
 |some o=>o.after.any fun e=>Region.binds .any e&&wb e.on i
 |none=>false
def keep(ops:Array Oper)(j:Nat):List ea->List ea
 |[]=>[]
 |p::r=>bif waits ops j p.op then keep ops j r else p::keep ops j r
theorem mw{ops:Array Oper}{j:Nat}:∀{L:List ea},∀p∈keep ops j L,p∈L
 |[],p,h=>by cases h
 |q::r,p,h=>by
  unfold keep at h;cases hw:waits ops j q.op with
  |true=>rw[hw]at h;exact zj _ (mw p h)
  |false=>
   rw[hw]at h;rcases zl.1 h with rfl|h
   ·exact qV
   ·exact zj _ (mw p h)
theorem sT{ops:Array Oper}{j:Nat}:∀{L:List ea} {p:ea},p∈L->waits ops j p.op=false->p∈keep ops j L
 |q::r,p,h,hw=>by
  unfold keep;rcases zl.1 h with rfl|h
  ·rw[hw];exact qV
  ·cases hq:waits ops j q.op with
   |true=>exact sT h hw
   |false=>exact zj _ (sT h hw)
theorem BZ{ops:Array Oper}{j:Nat}{p:ea}:∀{M:List ea},p∈keep ops j M->waits ops j p.op=false
 |[],h=>by cases h
 |q::r,h=>by
  unfold keep at h;cases hq:waits ops j q.op with
  |true=>rw[hq]at h;exact BZ h
  |false=>
   rw[hq]at h;rcases zl.1 h with rfl|h
   ·exact hq
   ·exact BZ h
theorem vZ{ops:Array Oper}{j:Nat}{L b:List ea}(c:∀p∈b,p∈L):∀p∈keep ops j b,p∈keep ops j L:=
 fun p a=>sT (c p (mw p a)) (BZ a)
def iZ(P:Program)(ops:Array Oper)(Q:Exit->Act->World->Prop):Nat->List ea->Array Bool->Act->World->Prop
 |0,_,listed,a,w=>Region.ready .any ops listed=[]/\Q .normal a w
 |fuel+1,L,listed,a,w=>
  (Region.ready .any ops listed=[]->Q .normal a w)/\
  ∀i∈Region.ready .any ops listed,wpOp P ops Q i (fun a' w'=>(∀p∈keep ops i L,p.ok w')/\iZ P ops Q fuel (keep ops i L) (listed.setIfInBounds i true) a' w') a w
theorem Df{P:Program}{ops:Array Oper}{Q:Exit->Act->World->Prop}:∀(c:Nat) (L:List ea) (b:Array Bool) (a:Act) (w:World),iZ P ops Q c L b a w->wpAny P .any ops Q c b a w
 |0,_,_,_,_,h=>h
 |c+1,_,_,_,_,h=>⟨h.1,fun i e=>wpOp_mono (fun a' w' d=>Df c _ _ a' w' d.2) (h.2 i e)⟩
theorem sU{P:Program}{ops:Array Oper}{Q:Exit->Act->World->Prop}:∀(c:Nat) {L e:List ea} (b:Array Bool) (a:Act) (w:World),(∀p∈e,p∈L)->iZ P ops Q c L b a w->iZ P ops Q c e b a w
 |0,_,_,_,_,_,_,h=>h
 |c+1,_,_,_,_,_,hs,h=>⟨h.1,fun i g=>wpOp_mono (fun a' w' d=>⟨fun p f=>d.1 p (vZ hs p f),sU c _ a' w' (vZ hs) d.2⟩) (h.2 i g)⟩
theorem Ib{P:Program}{ops:Array Oper}{Q:Exit->Act->World->Prop}{i:Nat}{s:Oper}{v:Value}{T:World->Prop}{N:List ea}(Z:ops[i]?=some s)(A:∀(j:Nat) (o:Oper) cs b,ops[j]?=some o->o.op≠.select cs b)
  (hQ:∀c a w,Q (.panic c) (a.put s.dst v) w->Q (.panic c) a w) (hN:∀p∈N,p.op=i) (hT:∀w,(∀p∈N,p.ok w)->T w):
  ∀(f:Nat) (L:List ea) (d:Array Bool) (a:Act) (w:World),
   (∀j u,ops[j]?=some u->j≠i->d.getD j true=false->(∀e∈u.after,Region.binds .any e=true->e.on≠i)->s.apart ops u=true)->
   i∈Region.ready .any ops d->YieldsIf P ops T s v a->(∀p∈N,p.ok w)->(∀p∈L,p.ok w)->
   iZ P ops Q f (N++L) (d.setIfInBounds i true) (a.put s.dst v) w->iZ P ops Q (f+1) L d a w:=by
 intro f;have y:∀(f:Nat) (L:List ea) (d:Array Bool) (a:Act) (w:World),YieldsIf P ops T s v a->(∀p∈N,p.ok w)->(∀p∈L,p.ok w)->
   iZ P ops Q f (N++L) (d.setIfInBounds i true) (a.put s.dst v) w->
   wpOp P ops Q i (fun a' w'=>(∀p∈keep ops i L,p.ok w')/\iZ P ops Q f (keep ops i L) (d.setIfInBounds i true) a' w') a w:=fun f L d a w G n K H=>
  G.wpOp Z (hT w n) ⟨fun p g=>K p (mw p g),sU f _ _ _ (fun p g=>List.mem_append_right _ (mw p g)) H⟩
 induction f with
 |zero=>
  intro L d a w _ E G n K H;refine⟨fun h=>(by rw[h]at E;cases E),fun j S=>?_⟩;by_cases l:j=i
  ·subst l;exact y 0 L d a w G n K H
  ·have:=ready_mono S l;rw[H.1]at this;cases this
 |succ f ih=>
  intro L d a w q E G n K H;refine⟨fun h=>(by rw[h]at E;cases E),fun j S=>?_⟩;by_cases l:j=i
  ·subst l;exact y (f+1) L d a w G n K H
  ·have F:=H.2 j (ready_mono S l);obtain⟨x,u,r,R⟩:=mem_ready.1 S;have B:∀e∈u.after,Region.binds .any e=true->e.on≠i:=fun e he M U=>by
    have F:=R e he M;have Y:=(mem_ready.1 E).1;rw[U]at F;rcases Nat.lt_or_ge i d.size with h'|h'
    ·simp[h']at Y F;rw[Y]at F;cases F
    ·simp[Array.getElem?_eq_none h']at F
   have I:(u.after.any fun e=>Region.binds .any e&&wb e.on i)=false:=by
    cases hc:u.after.any fun e=>Region.binds .any e&&wb e.on i with
    |false=>rfl
    |true=>
     obtain⟨k,X,M⟩:=Array.any_eq_true.1 hc;simp only[qA]at M;exact absurd (zr M.2) (B _ (Array.getElem_mem X) M.1)
   have D:waits ops j i=false:=by
    unfold waits;rw[r];exact I
   have z:∀p,p∈N->p∈keep ops j (N++L):=fun p g=>sT (List.mem_append_left _ g) (by rw[hN p g];exact D);have m:∀p,p∈keep ops j L->p∈keep ops j (N++L):=vZ fun p g=>List.mem_append_right _ g;have h2:=wpOp_putIf r (q j u r l x B) (fun cs b=>A i s cs b Z) (fun cs b=>A j u cs b r) hQ G F;have t:∀k ok,ops[k]?=some ok->k≠i->(d.setIfInBounds j true).getD k true=false->
     (∀e∈ok.after,Region.binds .any e=true->e.on≠i)->s.apart ops ok=true:=fun k ok X W J V=>by
    refine q k ok X W ?_ V;by_cases O:j=k
    ·subst O;exact x
    ·rw[getD_set_ne true O]at J;exact J
   refine wpOp_mono (fun a' w' h3=>⟨fun p g=>h3.2.1 p (m p g),ih (keep ops j L) (d.setIfInBounds j true) a' w' t (ready_mono E (Ne.symm l)) h3.1 (fun p g=>h3.2.1 p (z p g)) (fun p g=>h3.2.1 p (m p g)) ?_⟩) h2;rw[Array.setIfInBounds_comm _ _ l];refine sU _ _ _ _ (fun p g=>?_) h3.2.2;rcases List.mem_append.1 g with g|g
   ·exact z p g
   ·exact m p g
theorem rp{P:Program}{ops:Array Oper}{Q:Exit->Act->World->Prop}{i:Nat}{e:Oper}{v:Value}{T:World->Prop}{N:List ea}{d:Nat}{L:List ea}{b:Array Bool}{a:Act}{w:World}(g:ops[i]?=some e)
  (n:Region.noSelect ops=true) (q:Region.free .any ops b i=true) (k:(Region.ready .any ops b).contains i=true)
  (l:∀c a w,Q (.panic c) (a.put e.dst v) w->Q (.panic c) a w) (j:∀p∈N,p.op=i) (o:∀w,(∀p∈N,p.ok w)->T w) (r:YieldsIf P ops T e v a) (f:∀p∈N,p.ok w) (m:∀p∈L,p.ok w)
  (h:iZ P ops Q d (N++L) (b.setIfInBounds i true) (a.put e.dst v) w):iZ P ops Q (d+1) L b a w:=
 Ib g (Region.noSelect_spec n) l j o d L b a w (Region.free_spec g q) (by simpa using k) r f m h
theorem Fa:∀{L:List ea} {w0:World},(∀p∈L,p.ok w0)->∀{m:Heap},(flat L).ok m->∀p∈L,p.r.holds m p.y
 |[],_,_,_,_,p,a=>by cases a
 |q::r,w0,h0,m,h,p,a=>by
  have h:=(pM.TQ (h0 q qV)).1 h;rcases zl.1 a with rfl|a
  ·exact h.1
  ·exact Fa (fun p a=>h0 p (zj _ a)) h.2 p a
def SL:Op->Bool
 | .move _| .assign _| .pick .. | .nilCheck _| .fieldAddr .. | .indexAddr .. | .index .. | .field .. | .extract .. | .binOp .. | .unOp .. | .convert .. | .build .. | .makeFunc .. | .load .. =>true
 | .slice _ _ _ _ none=>true
 | .call c=>match c.callee with
  | .builtin .len| .builtin .cap| .builtin .min| .builtin .max| .builtin .real| .builtin .imag=>true
  |_=>false
 |_=>false
def kJ(ops:Array Oper)(a:Array Bool):List Nat->Option Nat
 |[]=>none
 |i::r=>match ops[i]? with
  |some o=>bif SL o.op&&Region.free .any ops a i then some i else kJ ops a r
  |none=>kJ ops a r
def Mu(C:Ctx)(n:Nat)(ops:Array Oper)(i:Nat)(o:Oper)(L:List ea)(K:List ea->Env->Heap->Prop)(ρ:Env)(h:Heap):Prop:=
 Dd ops o ρ (fun ρ=>match rR C.P C.T o.op ρ.eval with
  | .no=>match oC C.T o.op ρ.eval with
   |some r=>∃y:r.ty.den,r.holds h y/\put n o.dst (K (⟨i,r,y⟩::L)) ρ (r.ty.enc y) h
   |none=>False
  |p=>p.holds fun v=>put n o.dst (K L) ρ v h) (fun ρ=>put n o.dst (K L) ρ undef h)
def Ic(C:Ctx)(n:Nat)(ops:Array Oper)(K:Nat->Env->Heap->Prop)(ρ:Env)(h:Heap):List Nat->Prop
 |[]=>True
 |[i]=>match ops[i]? with
  |some o=>AC C n ops o (K i) ρ h
  |none=>False
 |i::j::r=>(match ops[i]? with
  |some o=>AC C n ops o (K i) ρ h
  |none=>False)/\Ic C n ops K ρ h (j::r)
def oE(C:Ctx)(n:Nat)(ops:Array Oper)(K:Env->Heap->Prop):Nat->Array Bool->List ea->Env->Heap->Prop
 |0,listed,_,ρ,h=>bif (Region.ready .any ops listed).isEmpty then K ρ h else False
 |k+1,listed,L,ρ,h=>match kJ ops listed (Region.ready .any ops listed)with
  |some i=>match ops[i]? with
   |some o=>Mu C n ops i o L (oE C n ops K k (listed.setIfInBounds i true)) ρ h
   |none=>False
  |none=>match Region.ready .any ops listed with
   |[]=>K ρ h
   |i::r=>Ic C n ops (fun i ρ h=>(flat (keep ops i L)).ok h/\oE C n ops K k (listed.setIfInBounds i true) (keep ops i L) ρ h) ρ h (i::r)
theorem nK{ops:Array Oper}{a:Array Bool}:∀{rs:List Nat} {i:Nat},kJ ops a rs=some i->i∈rs/\Region.free .any ops a i=true
 |[],_,h=>by cases h
 |j::r,i,h=>by
  simp only[kJ]at h;split at h
  ·rename_i o b;cases hb:(SL o.op&&Region.free .any ops a j)with
   |true=>
    rw[hb]at h;cases h;simp only[qA]at hb;exact⟨qV,hb.2⟩
   |false=>
    rw[hb]at h;have:=nK h;exact⟨zj _ this.1,this.2⟩
  ·have:=nK h;exact⟨zj _ this.1,this.2⟩
theorem FU{C:Ctx}{n:Nat}{ops:Array Oper}{K:Nat->Env->Heap->Prop}{ρ:Env}{h:Heap}:∀{l:List Nat},Ic C n ops K ρ h l->∀i∈l,∃o,ops[i]?=some o/\AC C n ops o (K i) ρ h
 |[],_,i,hi=>by cases hi
 |[j],ha,i,hi=>by
  simp only[qB]at hi;subst hi;simp only[Ic]at ha;split at ha
  ·rename_i o a;exact⟨o,a,ha⟩
  ·exact ha.elim
 |j::k::r,ha,i,hi=>by
  obtain⟨b,c⟩:=ha;rcases zl.1 hi with rfl|hi
  ·split at b
   ·rename_i o a;exact⟨o,a,b⟩
   ·exact b.elim
  ·exact FU c i hi
section
variable {C:Ctx} {n:Nat} {ops:Array Oper} {K:Env->Heap->Prop} {Q:Exit->Act->World->Prop} {ρ0:Env} {a0:Act} {w0:World}
theorem FV(G:C.Ok)(H:Region.noSelect ops=true)
  (U:∀a w ρ,Fits n a ρ->Ext ρ0 ρ a0 a->ct w0 w->K ρ w.heap->Q .normal a w) (B:∀c a w,¬Q (.panic c) a w):
  ∀(k:Nat) (b:Array Bool) (L:List ea) (ρ:Env) (a:Act) (w:World),Fits n a ρ->Ext ρ0 ρ a0 a->ct w0 w->(∀p∈L,p.ok w)->
   oE C n ops K k b L ρ w.heap->iZ C.P ops Q k L b a w
 |0,b,L,ρ,a,w,hf,hx,hl,hL,h=>by
  simp only[oE]at h;cases hb:(Region.ready .any ops b).isEmpty with
  |false=>rw[hb]at h;exact h.elim
  |true=>rw[hb]at h;exact⟨by simpa using hb,U _ _ _ hf hx hl h⟩
 |k+1,b,L,ρ,a,w,hf,hx,hl,hL,h=>by
  have M:=FV G H U B k;simp only[oE]at h;split at h
  ·rename_i i I;obtain⟨E,f⟩:=nK I;have e:(Region.ready .any ops b).contains i=true:=by simpa using E
   split at h
   ·rename_i o z;unfold Mu at h;obtain⟨ρ',J,S,h3⟩:=Bm hf h;have s:∀c a w (v:Value),Q (.panic c) (Act.put a o.dst v) w->Q (.panic c) a w:=fun c a w v hq=>absurd hq (B c _ w);have X:∀x v,Env.eval ρ' x=some v->a.eval x=v:=fun x v h=>J.eval h;rcases h3 with⟨t,g⟩|⟨t,g⟩
    ·have q:(rR C.P C.T o.op (Env.eval ρ')).holds (fun v=>put n o.dst (oE C n ops K k (b.setIfInBounds i true) L) ρ' v w.heap)->
       iZ C.P ops Q (k+1) L b a w:=fun d=>by
      obtain⟨v,hv,W⟩:=CZ G.toOk X d;obtain⟨l,D,A,F⟩:=oD W J;exact rp (N:=[]) (T:=fun _=>True) z H f e (fun c a w=>s c a w v) (fun p d=>by cases d) (fun _ _=>trivial) (.inl ⟨t,fun w _=>hv w⟩) (fun p d=>by cases d) hL
       (M _ L l _ w D (hx.trans (S.trans A)) hl hL F)
     split at g
     ·split at g
      ·rename_i r u;obtain⟨y,Z,W⟩:=g;obtain⟨l,D,A,F⟩:=oD W J;have O:∀p∈[(⟨i,r,y⟩:ea)],p.ok w:=fun p d=>by rw[qB]at d;subst d;exact Z
       refine rp (N:=[⟨i,r,y⟩]) (T:=fun w=>r.holds w.heap y) z H f e (fun c a w=>s c a w _) (fun p d=>by rw[qB]at d;subst d;rfl)
        (fun w h=>h ⟨i,r,y⟩ (qB.2 rfl)) (.inl ⟨t,fun w t=>sS G.toOk X u t⟩) O hL ?_
       refine M _ (⟨i,r,y⟩::L) l _ w D (hx.trans (S.trans A)) hl (fun p d=>?_) F;rcases zl.1 d with rfl|d
       ·exact Z
       ·exact hL p d
      ·exact g.elim
     ·exact q g
    ·obtain⟨l,D,A,F⟩:=oD g J;exact rp (N:=[]) (T:=fun _=>True) z H f e (fun c a w=>s c a w undef) (fun p d=>by cases d) (fun _ _=>trivial) (.inr ⟨t,rfl⟩) (fun p d=>by cases d) hL
      (M _ L l _ w D (hx.trans (S.trans A)) hl hL F)
   ·exact h.elim
  ·split at h
   ·rename_i g;exact⟨fun _=>U _ _ _ hf hx hl h,fun i I=>by rw[g]at I;cases I⟩
   ·rename_i i r g;refine⟨fun h0=>absurd (g▸h0) (by simp),fun j Y=>?_⟩;rw[g]at Y;obtain⟨o,z,R⟩:=FU h j Y;have m:∀p∈keep ops j L,p.ok w:=fun p d=>hL p (mw p d);exact De G z hf R fun a' w' ρ' x1 x2 x3 V=>⟨Fa m V.1,M _ (keep ops j L) ρ' a' w' x1 (hx.trans x2) (hl.trans x3) (Fa m V.1) V.2⟩
end
def sched(ops:Array Oper):Nat->Array Bool->Option (List (Nat×Bool))
 |0,listed=>bif (Region.ready .any ops listed).isEmpty then some []else none
 |k+1,listed=>match kJ ops listed (Region.ready .any ops listed)with
  |some i=>(sched ops k (listed.setIfInBounds i true)).map ((i,true)::·)
  |none=>match Region.ready .any ops listed with
   |[]=>some []
   |[i]=>(sched ops k (listed.setIfInBounds i true)).map ((i,false)::·)
   |_::_::_=>none
def nf(C:Ctx)(n:Nat)(ops:Array Oper)(K:Env->Heap->Prop):List (Nat×Bool)->List ea->Env->Heap->Prop
 |[],_,ρ,h=>K ρ h
 |(i,true)::r,L,ρ,h=>match ops[i]? with
  |some o=>Mu C n ops i o L (nf C n ops K r) ρ h
  |none=>False
 |(i,false)::r,L,ρ,h=>match ops[i]? with
  |some o=>AC C n ops o (fun ρ h=>(flat (keep ops i L)).ok h/\nf C n ops K r (keep ops i L) ρ h) ρ h
  |none=>False
theorem FW{C:Ctx}{n:Nat}{ops:Array Oper}{K:Env->Heap->Prop}:∀(k:Nat) (a:Array Bool) (l:List (Nat×Bool)),sched ops k a=some l->
  oE C n ops K k a=nf C n ops K l
 |0,a,l,hs=>by
  simp only[sched]at hs;cases hb:(Region.ready .any ops a).isEmpty with
  |false=>rw[hb]at hs;cases hs
  |true=>
   rw[hb]at hs;cases hs;funext L ρ h;simp only[oE,hb,nf,cond_true]
 |k+1,a,l,hs=>by
  have d:=fun i=>FW (C:=C) (n:=n) (ops:=ops) (K:=K) k (a.setIfInBounds i true);funext L ρ h;unfold sched at hs;unfold oE;cases hi:kJ ops a (Region.ready .any ops a)with
  |some i=>
   rw[hi]at hs;obtain⟨b,c,rfl⟩:=yu.1 hs;simp only[nf,d i b c]
  |none=>
   rw[hi]at hs;generalize e:Region.ready .any ops a=rd at hs
   match rd,hs with
   |[],hs=>cases hs;simp only[nf]
   |[i],hs=>
    obtain⟨b,c,rfl⟩:=yu.1 hs;simp only[Ic,nf,d i b c]
def Fb(C:Ctx)(n:Nat)(ops:Array Oper)(a:Bool)(K:Env->Heap->Prop)(ρ:Env)(h:Heap):Prop:=
 match a with
 |false=>QU C n ops K ops.toList ρ h
 |true=>bif Region.noSelect ops then(match sched ops ops.size (yT ops.size false)with
  |some l=>nf C n ops K l [] ρ h
  |none=>oE C n ops K ops.size (yT ops.size false) [] ρ h)else False
theorem Ie{C:Ctx}(d:C.Ok){n:Nat}{id:Nat}{ops:Array Oper}{b:Bool}{Q:Exit->Env->Heap->Prop}{ρ:Env}{a:Act}{w:World}(i:Fits n a ρ)
  (h:Fb C n ops b (Q .normal) ρ w.heap):(Code.region id ops b).wp C.P (fun e a' w'=>(∀c,e≠.panic c)/\Out n Q ρ a w e a' w') a w:=by
 cases b with
 |false=>
  refine wp_region ?_;have:=FT d (Q:=fun e a' w'=>(∀c,e≠.panic c)/\Out n Q ρ a w e a' w') (K:=Q .normal) (ρ0:=ρ) (a0:=a) (w0:=w) (fun a' w' ρ' f x2 x3 g=>⟨fun c e=>(by cases e),ρ',f,x2,x3,g⟩)
   ops.toList 0 (fun j=>by simp) ρ a w i (Ext.refl _ _) (ct.refl _) h
  rw[List.range_eq_range'];simpa using this
 |true=>
  simp only[Fb]at h;cases hb:Region.noSelect ops with
  |false=>rw[hb]at h;exact h.elim
  |true=>
   rw[hb]at h;have h:oE C n ops (Q .normal) ops.size (yT ops.size false) [] ρ w.heap:=by
    simp only[cond_true]at h;split at h
    ·rename_i l k;rw[FW _ _ _ k];exact h
    ·exact h
   refine wp_region_any d.mixed (Df _ [] _ _ _ ?_);exact FV d hb (Q:=fun e a' w'=>(∀c,e≠.panic c)/\Out n Q ρ a w e a' w') (ρ0:=ρ) (a0:=a) (w0:=w) (fun a' w' ρ' f x2 x3 g=>⟨fun c e=>(by cases e),ρ',f,x2,x3,g⟩)
    (fun c a w m=>m.1 c rfl) _ _ [] ρ a {w with drawn:=w.drawn+1} i (Ext.refl _ _) ⟨rfl,rfl,rfl,Nat.le_succ _⟩ (fun p o=>by cases o) h
def aV{σ:Type}(rest:σ->Heap->Prop)(B:(σ->Heap->Prop)->Prop):Prop:=∃R:σ->Heap->Prop,(∀s h,R s h->rest s h)/\B R
def aS{σ:Type}(B:σ->(σ->Heap->Prop)->Heap->Prop)(s:σ)(h:Heap):Prop:=
 ∃(τ:Type) (V:τ->σ) (I:τ->Heap->Prop) (μ:τ->Nat) (t0:τ),s=V t0/\I t0 h/\∀t h,I t h->B (V t) (fun c b=>∃a,c=V a/\I a b/\μ a<μ t) h
theorem On{P:Program}{c:Code}{Q:Exit->Act->World->Prop}{a:Act}{w:World}{σ:Type}(R:σ->Act->World->Prop)(μ:σ->World->Nat)(t:σ)(u:R t a w)
  (g:∀s a w,R s a w->c.wp P (Exit.then (fun a' w'=>∃m,R m a' w'/\μ m w'<μ s w) Q) a w):(Code.loop c).wp P Q a w:=by
 intro b k cs;have o:∀n s a w,μ s w=n->R s a w->
   ∃e a' w',Q e a' w'/\Arrives P (lone (b.at a (.code c::.inLoop c::k)) cs w) b k cs e a' w':=by
  intro n
  induction n using Nat.strongRecOn with
  |_ n ih=>
   intro s a w A B;obtain⟨e,j,i,f,d⟩:=g s a w B b (.inLoop c::k) cs;cases e with
   |normal=>
    obtain⟨m,r,q⟩:=f;obtain⟨y,v,z,p,h⟩:=ih (μ m i) (A▸q) m j i rfl r;exact⟨y,v,z,p,.of_steps (Steps.trans d (.one step_inLoop)) h⟩
   |exit id=>exact⟨_,j,i,f,.pass (x:=.inLoop c) rfl (fun _ _=>.inl (by simp)) d⟩
   |goto l=>exact⟨_,j,i,f,.pass (x:=.inLoop c) rfl (fun _ _=>.inl (by simp)) d⟩
   |ret=>exact⟨_,j,i,f,.pass (x:=.inLoop c) rfl (fun _ _=>.inl (by simp)) d⟩
   |panic ch=>exact⟨_,j,i,f,.pass (x:=.inLoop c) rfl (fun _ _=>.inl (by simp)) d⟩
   |outgrown=>exact⟨_,j,i,f,.pass (x:=.inLoop c) rfl (fun _ _=>.inl (by simp)) d⟩
 obtain⟨e,a',w',f,d⟩:=o _ t a w rfl u;exact⟨e,a',w',f,.of_steps (.one step_loop) d⟩
inductive an where
 |n
 |two (a b:an)
 |inn (a:an)
 |loop (σ:cO) (κ:co) (a:an)
 |join (σ:cO) (κ:co) (a:an)
 |scope (l:Nat) (σ:cO) (κ:co) (pre rest:List an) (fwd:List (Nat×List an))
 |fwd (a:an) (fwd:List (Nat×List an))
def an.fst:an->an
 | .two a _=>a
 |_=>.n
def an.snd:an->an
 | .two _ b=>b
 |_=>.n
def an.sub:an->an
 | .inn a=>a
 |_=>.n
abbrev QT:=Exit->Env->Heap->Prop
def Dg(σ:cO)(κ:co)(ρ:Env)(K:σ.den->Heap->Prop)(Q:QT):QT
 | .normal,ρ',h=>bif within σ κ ρ' (ρ'.length-ρ.length)then(match σ.read ρ' with|some s=>K s h|none=>False)else False
 |e,ρ',h=>Q e ρ' h
def AD(next:Env->Heap->Prop)(Q:QT):QT
 | .normal,ρ,h=>next ρ h
 |e,ρ,h=>Q e ρ h
def Oo(id:Nat)(Q:QT):QT
 | .exit i,ρ,h=>bif wb i id then Q .normal ρ h else Q (.exit i) ρ h
 |e,ρ,h=>Q e ρ h
abbrev Rec:=Code->an->QT->Env->Heap->Prop
def pN(rec:Rec):List Code->List an->QT->Env->Heap->Prop
 |[],_,Q,ρ,h=>Q .normal ρ h
 |c::cs,[],Q,ρ,h=>rec c .n (AD (pN rec cs [] Q) Q) ρ h
 |c::cs,x::xs,Q,ρ,h=>rec c x (AD (pN rec cs xs Q) Q) ρ h
def chain:Code->Nat->Option (List Code×List Code)
 | .seq a b,l=>match chain a l with
  |some (p,r)=>some (p,r++[b])
  |none=>match chain b l with
   |some (p,r)=>some (a::p,r)
   |none=>none
 | .label l',l=>bif wb l' l then some ([],[])else none
 |_,_=>none
def SM(a:List (Nat×List an))(l:Nat):Option (List an):=
 match a with
 |[]=>none
 |p::r=>bif wb p.1 l then some p.2 else SM r l
def AE(rec:Rec)(c:Code)(a:List (Nat×List an))(Q:QT):Nat->QT
 |0=>fun _ _ _=>False
 |g+1=>fun e ρ h=>match e with
  | .goto l=>match SM a l with
   |some xs=>match chain c l with
    |some (_,r)=>pN rec r xs (AE rec c a Q g) ρ h
    |none=>False
   |none=>Q (.goto l) ρ h
  |e=>Q e ρ h
def Mv(l:Nat)(σ:cO)(κ:co)(ρ:Env)(K:σ.den->Heap->Prop)(Q:QT):QT
 | .goto l',ρ',h=>bif wb l' l then(bif within σ κ ρ' (ρ'.length-ρ.length)then(match σ.read ρ' with|some s=>K s h|none=>False)else False)else Q (.goto l') ρ' h
 |e,ρ',h=>Q e ρ' h
def If(c:Code)(Q:QT):QT
 | .goto l,ρ,h=>match findLabel c l with
  |none=>Q (.goto l) ρ h
  |some _=>False
 |e,ρ,h=>Q e ρ h
def Ig(C:Ctx)(n:Nat)(rec:Rec)(c:Code)(d:an)(Q:QT)(ρ:Env)(h:Heap):Prop:=
 match d with
 | .join σ κ a=>aV (fun s h=>Q .normal (σ.aU s (κ.over ρ)) h) (fun K=>rec c a (Dg σ κ ρ K Q) ρ h)
 |d=>match c with
  | .skip=>Q .normal ρ h
  | .label _=>Q .normal ρ h
  | .region _ ops draw=>Fb C n ops draw (Q .normal) ρ h
  | .seq a b=>rec a d.fst (AD (rec b d.snd Q) Q) ρ h
  | .cond x a b=>match ρ.eval x with
   |some (.bool t)=>Br t (rec a d.fst Q ρ h) (rec b d.snd Q ρ h)
   |_=>False
  | .block id c=>rec c d.sub (Oo id Q) ρ h
  | .exit id=>Q (.exit id) ρ h
  | .goto l=>Q (.goto l) ρ h
  | .ret=>Q .ret ρ h
  | .loop c=>match d with
   | .loop σ κ a=>match σ.read ρ with
    |some s0=>aS (fun s K h=>rec c a (Dg σ κ (σ.aU s (κ.over ρ)) K Q) (σ.aU s (κ.over ρ)) h) s0 h
    |none=>False
   |_=>False
  | .scope c=>match d with
   | .scope l σ κ pre rest fwd=>match chain c l with
    |some (p,r)=>pN rec p pre (AD (fun ρ' e=>match σ.read ρ' with
     |some s0=>aS (fun s K h=>pN rec r rest (AE rec c fwd (Mv l σ κ (σ.aU s (κ.over ρ')) K (If c Q)) 4) (σ.aU s (κ.over ρ')) h) s0 e
     |none=>False) (If c Q)) ρ h
    |none=>False
   | .fwd a fwd=>rec c a (AE rec c fwd (If c Q) 4) ρ h
   |_=>False
  |_=>False
def vc(C:Ctx)(n:Nat):Nat->Rec
 |0=>fun _ _ _ _ _=>False
 |f+1=>Ig C n (vc C n f)
def AF(C:Ctx)(n:Nat)(rec:Rec):Prop:=∀(c:Code) (b:an) (Q:QT) (ρ:Env) (a:Act) (w:World),Fits n a ρ->rec c b Q ρ w.heap->c.wp C.P (Out n Q ρ a w) a w
section
variable {C:Ctx} {n:Nat} {Q:QT} {ρ ρ':Env} {a a':Act} {w w':World}
theorem Out.base{e:Exit}{b:Act}{c:World}(k:Ext ρ ρ' a a')(j:ct w w')(h:Out n Q ρ' a' w' e b c):Out n Q ρ a w e b c:=by
 obtain⟨d,i,f,h3,g⟩:=h;exact⟨d,i,k.trans f,j.trans h3,g⟩
theorem Out.mono{f:QT}{e:Exit}{b:Act}{c:World}(j:∀ρ h,Q e ρ h->f e ρ h)(h:Out n Q ρ a w e b c):Out n f ρ a w e b c:=by
 obtain⟨d,k,g,h3,i⟩:=h;exact⟨d,k,g,h3,j _ _ i⟩
theorem Out.then{next:Env->Heap->Prop}{N:Act->World->Prop}{i:Exit->Act->World->Prop}{e:Exit}{b:Act}{c:World}(h:Out n (AD next Q) ρ a w e b c)
  (l:∀ρ',Fits n b ρ'->Ext ρ ρ' a b->ct w c->next ρ' c.heap->N b c) (k:Out n Q ρ a w e b c->e≠.normal->i e b c):Exit.then N i e b c:=by
 obtain⟨d,j,f,h3,g⟩:=h;cases e<;>first|exact l d j f h3 g|exact k ⟨d,j,f,h3,g⟩ (by simp)
def kq(P:Program):List Code->(Exit->Act->World->Prop)->Act->World->Prop
 |[],Q,a,w=>Q .normal a w
 |c::cs,Q,a,w=>c.wp P (Exit.then (kq P cs Q) Q) a w
theorem hF{P:Program}{Q d:Exit->Act->World->Prop}(b:∀e a w,Q e a w->d e a w):∀(l:List Code) (a:Act) (w:World),kq P l Q a w->kq P l d a w
 |[],_,_,h=>b _ _ _ h
 |c::cs,a,w,h=>wp_mono h fun e a w h=>by
  cases e<;>first|exact hF b cs a w h|exact b _ _ _ h
theorem lm{rec:Rec}(d:AF C n rec):∀(l:List Code) (xs:List an) (Q:QT) (ρ:Env) (a:Act) (w:World),Fits n a ρ->pN rec l xs Q ρ w.heap->kq C.P l (Out n Q ρ a w) a w
 |[],_,Q,ρ,a,w,hf,h=>⟨ρ,hf,Ext.refl _ _,ct.refl _,h⟩
 |c::cs,[],Q,ρ,a,w,hf,h=>by
  refine wp_mono (d c .n _ ρ a w hf h) fun e a' w' b=>b.then (fun ρ' f x2 x3 g=>?_) (fun b _=>b);exact hF (fun e a w h=>h.base x2 x3) cs a' w' (lm d cs [] Q ρ' a' w' f g)
 |c::cs,x::xs,Q,ρ,a,w,hf,h=>by
  refine wp_mono (d c x _ ρ a w hf h) fun e a' w' b=>b.then (fun ρ' f x2 x3 g=>?_) (fun b _=>b);exact hF (fun e a w h=>h.base x2 x3) cs a' w' (lm d cs xs Q ρ' a' w' f g)
end
theorem rq{P:Program}{b:Code}{Q:Exit->Act->World->Prop}:∀(l:List Code) (a:Act) (w:World),kq P (l++[b]) Q a w->kq P l (Exit.then (b.wp P Q) Q) a w
 |[],a,w,h=>by
  refine wp_mono h fun e a w h=>?_;cases e<;>exact h
 |c::cs,a,w,h=>wp_mono h fun e a w h=>by
  cases e<;>first|exact rq cs a w h|exact h
theorem mO:∀{c:Code} {l:Nat} {p r:List Code},chain c l=some (p,r)->∃k,findLabel c l=some k/\
  (∀{P:Program} {Q:Exit->Act->World->Prop} {a:Act} {w:World},kq P r Q a w->k.wp P Q a w)/\
  (∀{P:Program} {Q:Exit->Act->World->Prop} {a:Act} {w:World},kq P p (Exit.then (kq P r Q) Q) a w->c.wp P Q a w)
 | .seq x y,l,p,r,h=>by
  simp only[chain]at h;split at h
  ·rename_i q m d;cases h;obtain⟨k,j,i,h3⟩:=mO d;refine⟨.seq k y,by simp[findLabel,j],fun{P Q a w} h=>wp_seq (i (rq m a w h)),fun{P Q a w} h=>wp_seq (h3 ?_)⟩;refine hF (fun e a w g=>?_) p a w h;cases e<;>first|exact rq m a w g|exact g
  ·rename_i d;split at h
   ·rename_i q m n;cases h;obtain⟨k,j,i,h3⟩:=mO n;have s:findLabel x l=none:=by
     clear j i h3 n
     induction x with
     |seq a b iha ihb=>
      simp only[chain]at d;split at d
      ·cases d
      ·rename_i o;split at d
       ·cases d
       ·rename_i f;simp[findLabel,iha o,ihb f]
     |label l'=>
      simp only[chain]at d;cases f:wb l' l with
      |true=>rw[f]at d;cases d
      |false=>
       have:¬l'=l:=fun e=>by subst e;simp at f
       simp[findLabel,this]
     |_=>rfl
    refine⟨k,by simp[findLabel,s,j],i,fun{P Q a w} h=>wp_seq (wp_mono h fun e a w g=>?_)⟩;cases e<;>first|exact h3 g|exact g
   ·cases h
 | .label l',l,p,r,h=>by
  simp only[chain]at h;cases f:wb l' l with
  |false=>rw[f]at h;cases h
  |true=>
   rw[f]at h;cases h;have:=zr f;subst this;exact⟨.skip,by simp[findLabel],fun h=>wp_skip h,fun h=>wp_label h⟩
 | .skip,_,_,_,h=>by cases h
 | .region ..,_,_,_,h=>by cases h
 | .cond ..,_,_,_,h=>by cases h
 | .block ..,_,_,_,h=>by cases h
 | .loop _,_,_,_,h=>by cases h
 | .rangeFunc ..,_,_,_,h=>by cases h
 | .exit _,_,_,_,h=>by cases h
 | .scope _,_,_,_,h=>by cases h
 | .goto _,_,_,_,h=>by cases h
 | .ret,_,_,_,h=>by cases h
 | .refuse _,_,_,_,h=>by cases h
section
variable {P:Program} {c:Code} {Q:Exit->Act->World->Prop} {b:Frame} {k:List Item} {cs:List Frame}
def Reach(P:Program)(c:Code)(Q:Exit->Act->World->Prop)(b:Frame)(k:List Item)(d:List Frame)(a:Act)(w:World)(r:Code):Prop:=
 ∃e a' w',Q e a' w'/\Arrives P (lone (b.at a (.code r::.inScope c::k)) d w) b k d e a' w'
def Good(P:Program)(c:Code)(Q:Exit->Act->World->Prop)(b:Frame)(k:List Item)(d:List Frame):Exit->Act->World->Prop
 | .goto l,a,w=>match findLabel c l with
  |some r=>Reach P c Q b k d a w r
  |none=>Q (.goto l) a w
 |e,a,w=>Q e a w
theorem Ih{m:Machine}{e:Exit}{a:Act}{w:World}(f:Good P c Q b k cs e a w)(d:Arrives P m b (.inScope c::k) cs e a w):
  ∃e a' w',Q e a' w'/\Arrives P m b k cs e a' w':=by
 cases e with
 |normal=>exact⟨.normal,a,w,f,Steps.trans d (.one step_inScope)⟩
 |exit id=>exact⟨.exit id,a,w,f,fun h j=>d h (by simp[exitTo,j])⟩
 |goto l=>
  simp only[Good]at f;cases hf:findLabel c l with
  |none=>
   rw[hf]at f;exact⟨.goto l,a,w,f,fun h j=>d h (by simp[gotoIn,hf,j])⟩
  |some r=>
   rw[hf]at f;obtain⟨n,o,p,i,g⟩:=f;exact⟨n,o,p,i,.of_steps (d _ (by simp[gotoIn,hf])) g⟩
 |ret=>exact⟨_,a,w,f,d⟩
 |panic ch=>exact⟨_,a,w,f,d⟩
 |outgrown=>exact⟨_,a,w,f,d⟩
theorem Ii{r:Code}{a:Act}{w:World}(h:r.wp P (Good P c Q b k cs) a w):Reach P c Q b k cs a w r:=by
 obtain⟨e,a',w',f,d⟩:=h b (.inScope c::k) cs;exact Ih f d
theorem un{a:Act}{w:World}(h:∀b k cs,c.wp P (Good P c Q b k cs) a w):(Code.scope c).wp P Q a w:=by
 intro b k cs;obtain⟨e,m,l,g,d⟩:=h b k cs b (.inScope c::k) cs;obtain⟨j,a',w',i,f⟩:=Ih g d;exact⟨j,a',w',i,.of_steps (.one step_scope) f⟩
end
section
variable {C:Ctx} {n:Nat} {rec:Rec}
theorem sV(s:AF C n rec){c:Code}{o:List (Nat×List an)}{q:QT}{t:Exit->Act->World->Prop}{b:Frame}{k:List Item}{u:List Frame}{ρ:Env}{a0:Act}{w0:World}
  (j:∀e f d i,Fits n d f->Ext ρ f a0 d->ct w0 i->q e f i.heap->Good C.P c t b k u e d i):
  ∀(g:Nat) (e:Exit) (f:Env) (d:Act) (i:World),Fits n d f->Ext ρ f a0 d->ct w0 i->AE rec c o q g e f i.heap->Good C.P c t b k u e d i
 |0,_,_,_,_,_,_,_,h=>h.elim
 |g+1,e,f,d,i,hf,hx,hl,h=>by
  cases e with
  |goto l=>
   simp only[AE]at h;split at h
   ·split at h
    ·rename_i p r m;obtain⟨F,E,B,_⟩:=mO m;simp only[Good,E];refine Ii (B ?_);refine hF (fun e a w x=>?_) _ _ _ (lm s _ _ _ f d i hf h);obtain⟨v,A,y,D,z⟩:=x;exact sV s j g e v a w A (hx.trans y) (hl.trans D) z
    ·exact h.elim
   ·exact j _ _ _ _ hf hx hl h
  |normal=>exact j _ _ _ _ hf hx hl h
  |exit id=>exact j _ _ _ _ hf hx hl h
  |ret=>exact j _ _ _ _ hf hx hl h
  |panic ch=>exact j _ _ _ _ hf hx hl h
  |outgrown=>exact j _ _ _ _ hf hx hl h
theorem kR{c:Code}{Q:QT}{b:Frame}{k:List Item}{m:List Frame}{ρ:Env}{a0:Act}{w0:World}{e:Exit}{a:Env}{i:Act}{j:World}
  (d:Fits n i a) (f:Ext ρ a a0 i) (g:ct w0 j) (h:If c Q e a j.heap):Good C.P c (Out n Q ρ a0 w0) b k m e i j:=by
 cases e with
 |goto l=>
  simp only[If]at h;simp only[Good];split at h
  ·rename_i o;simp only[o];exact⟨a,d,f,g,h⟩
  ·exact h.elim
 |normal=>exact⟨a,d,f,g,h⟩
 |exit id=>exact⟨a,d,f,g,h⟩
 |ret=>exact⟨a,d,f,g,h⟩
 |panic ch=>exact⟨a,d,f,g,h⟩
 |outgrown=>exact⟨a,d,f,g,h⟩
theorem FX{a:Act}{σ:cO}{κ:co}{ρ:Env}{s:σ.den}(b:Fits n a ρ)(c:σ.read ρ=some s):Fits n a (σ.aU s (κ.over ρ))/\Ext ρ (σ.aU s (κ.over ρ)) a a:=
 b.mv b (fun _ _ _=>rfl) c
theorem KB(z:AF C n rec){c:Code}{l:Nat}{σ:cO}{κ:co}{pre rest:List an}{G:List (Nat×List an)}{p r:List Code}(hc:chain c l=some (p,r)){Q:QT}{ρ:Env}{a:Act}{w:World}(hf:Fits n a ρ)
  (h:pN rec p pre (AD (fun ρ' h'=>match σ.read ρ' with
     |some N=>aS (fun s K h=>pN rec r rest (AE rec c G (Mv l σ κ (σ.aU s (κ.over ρ')) K (If c Q)) 4) (σ.aU s (κ.over ρ')) h) N h'
     |none=>False) (If c Q)) ρ w.heap):(Code.scope c).wp C.P (Out n Q ρ a w) a w:=by
 refine un fun b k cs=>?_;obtain⟨kk,h1,h2,h3⟩:=mO hc;refine h3 (hF (fun e a' w' y=>?_) _ _ _ (lm z _ _ _ ρ a w hf h));refine y.then (fun ρ' R x2 x3 D=>?_) (fun y _=>?_)
 ·split at D
  ·rename_i N H;obtain⟨τ,V,I,μ,t0,e0,hI,i⟩:=D;subst e0;have g:=FX (κ:=κ) R H;have x:∀(m:Nat) (t:τ) (v:Act) (u:World),μ t=m->I t u.heap->Fits n v (σ.aU (V t) (κ.over ρ'))->Ext ρ' (σ.aU (V t) (κ.over ρ')) a' v->ct w' u->
     kq C.P r (Good C.P c (Out n Q ρ a w) b k cs) v u:=by
    intro m
    induction m using Nat.strongRecOn with
    |_ m ih=>
     intro t v u hm B L d f;refine hF (fun e U w2 y=>?_) _ _ _ (lm z _ _ _ _ v u L (i t u.heap B));obtain⟨Z,F,E,M,J⟩:=y;refine sV z (ρ:=σ.aU (V t) (κ.over ρ')) (a0:=v) (w0:=u) (fun e O a3 w3 q j z3 z4=>?_) 4 e Z U w2 F E M J;cases e with
     |goto l'=>
      simp only[Mv]at z4;cases hb:wb l' l with
      |false=>
       rw[hb]at z4;exact kR q (x2.trans (d.trans j)) (x3.trans (f.trans z3)) z4
      |true=>
       rw[hb]at z4;have:=zr hb;subst this;simp only[Good,h1];cases hw:within σ κ O (O.length-(σ.aU (V t) (κ.over ρ')).length)with
       |false=>rw[hw]at z4;exact z4.elim
       |true=>
        rw[hw]at z4;simp only[cond_true]at z4;split at z4
        ·rename_i s' A;have o:∀t,σ.has t=false->(κ.over []).de t=false->a3.tmps[t]?=a'.tmps[t]?:=fun t T S=>by
          rw[j.within hw t T S,d.mv t T S]
         obtain⟨W,X⟩:=R.mv (κ:=κ) q o A;obtain⟨t',e1,Y,i2⟩:=z4;subst e1;exact Ii (h2 (ih _ (by rw[<-hm];exact i2) t' a3 w3 rfl Y W X (f.trans z3)))
        ·exact z4.elim
     |normal=>exact kR q (x2.trans (d.trans j)) (x3.trans (f.trans z3)) z4
     |exit id=>exact kR q (x2.trans (d.trans j)) (x3.trans (f.trans z3)) z4
     |ret=>exact kR q (x2.trans (d.trans j)) (x3.trans (f.trans z3)) z4
     |panic ch=>exact kR q (x2.trans (d.trans j)) (x3.trans (f.trans z3)) z4
     |outgrown=>exact kR q (x2.trans (d.trans j)) (x3.trans (f.trans z3)) z4
   exact x _ t0 a' w' rfl hI g.1 g.2 (ct.refl _)
  ·exact D.elim
 ·obtain⟨ρ1,F,E,M,J⟩:=y;exact kR F E M J
theorem TR(S:C.Ok)(o:AF C n rec):AF C n (Ig C n rec):=by
 intro c ad Q ρ a w j h;have u:∀{σ:cO} {κ:co} {K:σ.den->Heap->Prop} {e:Exit} {a':Act} {w':World},Out n (Dg σ κ ρ K Q) ρ a w e a' w'->(∀s h,K s h->Q .normal (σ.aU s (κ.over ρ)) h)->Out n Q ρ a w e a' w':=by
  intro σ κ K e a' w' g Z;obtain⟨ρ',f,x2,x3,d⟩:=g;cases e with
  |normal=>
   simp only[Dg]at d;cases hw:within σ κ ρ' (ρ'.length-ρ.length)with
   |false=>rw[hw]at d;exact d.elim
   |true=>
    rw[hw]at d;simp only[cond_true]at d;split at d
    ·rename_i s Y;obtain⟨F,E⟩:=j.mv (κ:=κ) f (x2.within hw) Y;exact⟨_,F,E,x3,Z _ _ d⟩
    ·exact d.elim
  |exit id=>exact⟨ρ',f,x2,x3,d⟩
  |goto l=>exact⟨ρ',f,x2,x3,d⟩
  |ret=>exact⟨ρ',f,x2,x3,d⟩
  |panic ch=>exact⟨ρ',f,x2,x3,d⟩
  |outgrown=>exact⟨ρ',f,x2,x3,d⟩
 unfold Ig at h;split at h
 ·rename_i σ κ x;obtain⟨K,hK,hB⟩:=h;exact wp_mono (o c x _ ρ a w j hB) fun e a' w' g=>u g hK
 ·split at h
  ·exact wp_skip ⟨ρ,j,Ext.refl _ _,ct.refl _,h⟩
  ·exact wp_label ⟨ρ,j,Ext.refl _ _,ct.refl _,h⟩
  ·exact wp_mono (Ie S j h) fun e a' w' g=>g.2
  ·rename_i x y;refine wp_seq (wp_mono (o x _ _ ρ a w j h) fun e a' w' g=>g.then (fun ρ' f x2 x3 d=>?_) (fun g _=>g));exact wp_mono (o y _ _ ρ' a' w' f d) fun e O W g=>g.base x2 x3
  ·rename_i x y z;split at h
   ·rename_i t N;refine wp_cond_split (j.eval N) (fun e=>?_) (fun e=>?_)
    ·subst e;exact o y _ _ ρ a w j h
    ·subst e;exact o z _ _ ρ a w j h
   ·exact h.elim
  ·rename_i id x;refine wp_block (wp_mono (o x _ _ ρ a w j h) fun e a' w' g=>?_);obtain⟨ρ',f,x2,x3,d⟩:=g;cases e with
   |exit i=>
    simp only[Exit.inBlock];simp only[Oo]at d;cases hb:wb i id with
    |true=>
     rw[hb]at d;rw[if_pos (zr hb)];exact⟨ρ',f,x2,x3,d⟩
    |false=>
     rw[hb]at d;rw[if_neg (fun e=>by subst e;simp at hb)];exact⟨ρ',f,x2,x3,d⟩
   |normal=>exact⟨ρ',f,x2,x3,d⟩
   |goto l=>exact⟨ρ',f,x2,x3,d⟩
   |ret=>exact⟨ρ',f,x2,x3,d⟩
   |panic ch=>exact⟨ρ',f,x2,x3,d⟩
   |outgrown=>exact⟨ρ',f,x2,x3,d⟩
  ·exact wp_exit ⟨ρ,j,Ext.refl _ _,ct.refl _,h⟩
  ·exact wp_goto ⟨ρ,j,Ext.refl _ _,ct.refl _,h⟩
  ·exact wp_ret ⟨ρ,j,Ext.refl _ _,ct.refl _,h⟩
  ·rename_i x;split at h
   ·rename_i σ κ y _;split at h
    ·rename_i s0 H;obtain⟨τ,V,I,μ,t0,X,U,q⟩:=h;subst X;have m:=FX (κ:=κ) j H;refine On (σ:=τ) (fun t B D=>Fits n B (σ.aU (V t) (κ.over ρ))/\Ext ρ (σ.aU (V t) (κ.over ρ)) a B/\ct w D/\I t D.heap) (fun t _=>μ t) t0 ⟨m.1,m.2,ct.refl _,U⟩ ?_;rintro t B D ⟨J,v,z3,z4⟩;refine wp_mono (o x y _ _ B D J (q t _ z4)) fun e R w2 g=>?_;obtain⟨ρ',f,x2,x3,d⟩:=g;cases e with
     |normal=>
      simp only[Dg]at d;cases hw:within σ κ ρ' (ρ'.length-(σ.aU (V t) (κ.over ρ)).length)with
      |false=>rw[hw]at d;exact d.elim
      |true=>
       rw[hw]at d;simp only[cond_true]at d;split at d
       ·rename_i s' G;have A:∀t,σ.has t=false->(κ.over []).de t=false->R.tmps[t]?=a.tmps[t]?:=fun t M L=>by
         rw[x2.within hw t M L,v.mv t M L]
        obtain⟨F,E⟩:=j.mv (κ:=κ) f A G;obtain⟨T,e1,P,i2⟩:=d;subst e1;exact⟨T,⟨F,E,z3.trans x3,P⟩,i2⟩
       ·exact d.elim
     |exit id=>exact⟨ρ',f,v.trans x2,z3.trans x3,d⟩
     |goto l=>exact⟨ρ',f,v.trans x2,z3.trans x3,d⟩
     |ret=>exact⟨ρ',f,v.trans x2,z3.trans x3,d⟩
     |panic ch=>exact⟨ρ',f,v.trans x2,z3.trans x3,d⟩
     |outgrown=>exact⟨ρ',f,v.trans x2,z3.trans x3,d⟩
    ·exact h.elim
   ·exact h.elim
  ·rename_i x;split at h
   ·split at h
    ·rename_i p r hc;exact KB o hc j h
    ·exact h.elim
   ·refine un fun b k cs=>wp_mono (o x _ _ ρ a w j h) fun e a' w' g=>?_;obtain⟨ρ',f,x2,x3,d⟩:=g;exact sV o (ρ:=ρ) (a0:=a) (w0:=w) (fun e ρ3 a3 w3 J v z3 z4=>kR J v z3 z4) 4 e ρ' a' w' f x2 x3 d
   ·exact h.elim
  ·exact h.elim
theorem Ij(a:C.Ok):∀f,AF C n (vc C n f)
 |0=>fun _ _ _ _ _ _ _ h=>h.elim
 |f+1=>TR a (Ij a f)
end
def wd(C:Ctx)(ρ:Env):List ResultVar->(List Value->Prop)->Heap->Prop
 |[],K,_=>K []
 | .tmp t::r,K,h=>match ρ.get t with
  |some v=>wd C ρ r (fun vs=>K (v::vs)) h
  |none=>False
 | .cell a t::r,K,h=>match oC C.T (.load t (.tmp a)) ρ.eval with
  |some q=>∃y:q.ty.den,q.holds h y/\wd C ρ r (fun vs=>K (q.ty.enc y::vs)) h
  |none=>False
def wf:List Value->Value
 |[v]=>v
 |vs=>.tuple vs.toArray
def WA(C:Ctx)(rs:List ResultVar)(R:Value->Heap->Prop):QT
 | .normal,ρ,h=>wd C ρ rs (fun vs=>R (wf vs) h) h
 | .ret,ρ,h=>wd C ρ rs (fun vs=>R (wf vs) h) h
 |_,_,_=>False
def wn:Nat->List Value->Env
 |_,[]=>[]
 |n,v::r=>.val n v::wn (n+1) r
def UV(C:Ctx)(d:Func)(a:Nat)(b:an)(args:List Value)(R:Value->Heap->Prop)(h:Heap):Prop:=
 match d.body with
 |some c=>vc C d.ntmps a c b (WA C d.results.toList R) (wn 0 args) h
 |none=>False
theorem Dh:∀{args:List Value} {n t:Nat} {v:Value},(wn n args).get t=some v->n<=t/\args[t-n]?=some v
 |[],_,_,_,h=>by cases h
 |u::r,n,t,v,h=>by
  simp only[wn,Env.get]at h;cases hb:wb n t with
  |true=>
   rw[hb]at h;have:=zr hb;subst this;simpa using h
  |false=>
   rw[hb]at h;obtain⟨c,a⟩:=Dh (args:=r) h;refine⟨by omega,?_⟩;obtain⟨k,b⟩:∃k,t-n=k+1:=⟨t-(n+1),by omega⟩
   rw[b,List.getElem?_cons_succ];have:t-(n+1)=k:=by omega
   rw[<-this];exact a
theorem QV{C:rQ}(h:C.Ok){ev:Operand->Option Value}{e:Operand->Value}(d:∀x v,ev x=some v->e x=v){t:TypeId}{x:Operand}{q:pM}
  (f:oC C.T (.load t x) ev=some q) {y:q.ty.den} {w:World} (g:q.holds w.heap y):(vv t (e x)).run C.P w=.ok (q.ty.enc y) w:=by
 have c:(do pure (Next.value (<-vv t (e x))):Sem Next).run C.P w=.ok (.value (q.ty.enc y)) w:=sS h d (o:=⟨none,.load t x,0, "",#[],none⟩) f g;rw[Sem.run_bind]at c;cases hr:(vv t (e x)).run C.P w with
 |halt a b=>rw[hr]at c;cases c
 |ok v w'=>
  rw[hr]at c;simp only[Result.andThen_ok]at c;cases c;rfl
theorem ws{C:Ctx}(i:C.Ok){n:Nat}{a:Act}{ρ:Env}(f:Fits n a ρ):∀{rs:List ResultVar} {K:List Value->Prop} {w:World},wd C ρ rs K w.heap->
  ∃vs,(rs.mapM (fun| .tmp t=>pure (a.tmps.getD t undef)| .cell x t=>(do loadVar t (<-asAddr (a.tmps.getD x undef)):Sem Value)):Sem (List Value)).run C.P w=.ok vs w/\K vs
 |[],K,w,h=>⟨[],rfl,h⟩
 | .tmp t::r,K,w,h=>by
  simp only[wd]at h;split at h
  ·rename_i v o;obtain⟨vs,l,j⟩:=ws i f h;refine⟨v::vs,?_,j⟩;have k:a.tmps.getD t undef=v:=by simp[Array.getD_eq_getD_getElem?,f.get t v o]
   rw[List.mapM_cons,Sem.run_bind,Sem.run_pure,Result.andThen_ok,Sem.run_bind,l,k];rfl
  ·exact h.elim
 | .cell x t::r,K,w,h=>by
  simp only[wd]at h;split at h
  ·rename_i q d;obtain⟨y,p,h⟩:=h;obtain⟨vs,l,j⟩:=ws i f h;refine⟨q.ty.enc y::vs,?_,j⟩;have m:=QV i.toOk (e:=a.eval) (fun x v h=>f.eval h) d p;have s:∃c,a.eval (.tmp x)=.pointer (some c):=by
    unfold oC at d;simp only at d;split at d
    ·rename_i c b;exact⟨c,f.eval b⟩
    ·cases d
   obtain⟨c,b⟩:=s;have k:a.tmps.getD x undef=.pointer (some c):=b;rw[b]at m;rw[List.mapM_cons,Sem.run_bind];simp only[k];have g:(do loadVar t (<-asAddr (.pointer (some c))):Sem Value).run C.P w=.ok (q.ty.enc y) w:=m;rw[g,Result.andThen_ok,Sem.run_bind,l];rfl
  ·exact h.elim
theorem TS{C:Ctx}(l:C.Ok){f:FuncId}{d:Func}(y:C.P.funcs[f]?=some d){a:Nat}{i:an}{args:List Value}(z:args.length<=d.ntmps){R:Value->Heap->Prop}{h:Heap}
  (j:UV C d a i args R h):ab C.P f args.toArray h R:=by
 rintro w rfl;unfold UV at j;split at j
 ·rename_i c x;refine calls_of_wp y x ?_;have b:Fits d.ntmps {tmps:=args.toArray++yT (d.ntmps-args.toArray.size) undef,defers:=[]} (wn 0 args):=by
   refine⟨by simp;omega,rfl,fun t v p=>?_⟩;obtain⟨_,g⟩:=Dh p;rw[Nat.sub_zero]at g;have k:t<args.length:=(qk.1 g).1;simp only[Array.getElem?_append,List.size_toArray,k,if_true,List.getElem?_toArray];exact g
  refine wp_mono (Ij l a c i _ _ _ w b j) fun e a' w' q=>?_;obtain⟨ρ',n,x2,x3,o⟩:=q;have fin:wd C ρ' d.results.toList (fun vs=>R (wf vs) w'.heap) w'.heap->a'.defers=[]/\∃v,(results d a'.tmps).run C.P w'=.ok v w'/\(∃m,Ending.returned v=.returned m/\ct w w'/\R m w'.heap):=fun s=>by
   obtain⟨vs,u,g⟩:=ws l n s;refine⟨n.defers,wf vs,?_,wf vs,rfl,x3,g⟩;unfold results;rw[yL,map_eq_pure_bind,bind_assoc,Sem.run_bind];refine(congrArg (fun r=>Result.andThen r _) u).trans ?_;simp only[Result.andThen_ok,pure_bind,Sem.run_pure];cases vs with
   |nil=>rfl
   |cons v r=>cases r<;>rfl
  cases e<;>first|exact fin o|exact o.elim
 ·exact j.elim
theorem aq{C:Ctx}(i:C.Ok){f:FuncId}{b:Func}(g:C.P.funcs[f]?=some b)(a:an){args:List Value}{R:Value->Heap->Prop}{h:Heap}{Q:Prop}(d:Q)
  (c:vH args.length b.ntmps=true:=by kernel_rfl) (e:UV C b 300 a args R h=Q:=by kernel_rfl):ab C.P f args.toArray h R:=TS i g (wP c) (cast e.symm d)
def aw(P:Program)(s:Sem Value)(r:Rt)(h:Heap)(K:r.den->Heap->Prop):Prop:=ae P s h fun v a=>∃x:r.den,v=r.enc x/\K x a
def aL(P:Program)(s:Sem Value)(h:Heap)(K:Addr->Heap->Prop):Prop:=ae P s h fun v b=>∃a:Addr,v=.pointer (some a)/\K a b
def ac(P:Program)(f:FuncId)(args:Array Value)(r:Rt)(h:Heap)(K:r.den->Heap->Prop):Prop:=ab P f args h fun v a=>∃x:r.den,v=r.enc x/\K x a
def iJ(C:Ctx)(g:FuncId)(args:List Value)(r:Rt)(h:Heap)(K:r.den->Heap->Prop):Prop:=
 match C.fns[g]? with
 |some true=>ac C.P g args.toArray r h K
 |_=>False
theorem fZ{C:Ctx}{g:FuncId}{args:List Value}{r:Rt}{h:Heap}{K:r.den->Heap->Prop}(a:C.fns[g]?=some true)(b:ac C.P g args.toArray r h K):iJ C g args r h K:=by
 unfold iJ;rw[a];exact b
end Go.Vc
abbrev cu:=List (List UInt8)
abbrev aQ:=List UInt8
abbrev Fc:=List (List Int)
abbrev aB:=List Int
abbrev aK:=Option Go.Addr
abbrev aM:=List Go.Value
abbrev wt:=Go.Value->Go.Vc.Heap->Prop
abbrev dl:=Go.FuncId×Array Go.Value×Array Go.Value
abbrev Go.Vc.an.tn(a:Go.Vc.an):Go.Vc.an:=.two .n a
