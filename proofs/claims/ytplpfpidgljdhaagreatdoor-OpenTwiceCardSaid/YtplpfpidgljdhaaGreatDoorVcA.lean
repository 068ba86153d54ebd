/- Lemmas for the proof of the law; no condition. -/
import Derived.Calls
import Derived.Orders
import Derived.Scope
import Derived.KernelRfl
import Derived.Laws.Sem
import Derived.OrdersHeld
set_option linter.unusedVariables false
set_option linter.unusedSimpArgs false
open Nat renaming beq -> wJ, ble -> xq, blt -> xk, eq_of_beq_eq_true -> zI, le_of_ble_eq_true -> zE, le_refl -> qm
open Bool renaming and_eq_true -> qw, false_eq_true -> zf, or_eq_false_iff -> y7, or_eq_true -> zU, or_false -> xy
open List renaming cons_append -> zo, getElem?_eq_some_iff -> qj, getElem?_map -> qL, length_cons -> zh, mem_append_right -> yS, mem_cons -> qV, mem_cons_of_mem -> qH, mem_cons_self -> qP, mem_singleton -> qp
open BitVec renaming ofInt -> qK
open Go.IntKind renaming i64 -> xM
open Go.Instr renaming alloc -> yJ, box -> vQ, build -> xv, buildSlice -> zL, fill -> wC, loadAt -> xr, lookup -> xB, makeMap -> xl, makeSlice -> zw, mapUpdate -> yY, slice -> xE, sliceAt -> yu, sliceBound -> xf, sliceBounds -> wE, storeAt -> qE
open Option renaming map_eq_some_iff -> vl, map_some -> qQ, some -> zQ
open Array renaming ext' -> yD, getElem?_toList -> vZ, mapM_eq_mapM_toList -> vC, replicate -> vK, toList_map -> xg
open Go.Builtin renaming append_ -> zD, clear_ -> vS, copy_ -> yc, len_ -> xA
namespace Go.Qw
abbrev Heap:=Array Obj
def cellOf(h:Heap)(a:Addr):Option Value:=
 match h[a.block]? with
 |some (.cells c _ _)=>if a.spot.isSome then none else c[a.off]?
 |_=>none
def Sq(h:Heap)(a:Addr):Bool:=
 match h[a.block]? with
 |some (.cells _ _ (lo,hi))=>lo<=a.off&&a.off<hi
 |_=>false
def Sr(h:Heap)(a:Addr)(v:Value):Heap:=
 h.modify a.block λ
  | .cells c elem frozen=>.cells (if a.spot.isSome then c else c.setIfInBounds a.off v) elem frozen
  |o=>o
def shapeOf(h:Heap)(r:Nat):Option (TypeId×Nat):=match h[r]? with|some (.cells c elem _)=>some (elem,c.size)|_=>none
theorem Yy(w:World)(r:Nat):w.shape? r=shapeOf w.heap r:=rfl
theorem IQ(w:World)(a:Addr):w.cell? a=cellOf w.heap a:=rfl
theorem acm(w:World)(a:Addr):w.frozen? a=Sq w.heap a:=rfl
theorem acn(w:World)(a:Addr)(v:Value):(w.setCell a v).heap=Sr w.heap a v:=rfl
structure de (w w':World):Prop where
 os:w'.os=w.os
 tape:w'.tape=w.tape
 output:w'.output=w.output
 drawn:w.drawn<=w'.drawn
theorem de.refl(w:World):de w w:=⟨rfl,rfl,rfl,qm _⟩
theorem de.trans{a b c:World}(h:de a b)(k:de b c):de a c:=⟨k.os.trans h.os,k.tape.trans h.tape,k.output.trans h.output,Nat.le_trans h.drawn k.drawn⟩
def an(P:Program)(f:FuncId)(args:Array Value)(h:Heap)(R:Value->Heap->Prop):Prop:=
 ∀w,w.heap=h->Calls P f args w λe w'=>∃v,e=.returned v/\de w w'/\R v w'.heap
theorem an.mono{P:Program}{f:FuncId}{args:Array Value}{h:Heap}{R a:Value->Heap->Prop}(e:an P f args h R)
  (b:∀v h',R v h'->a v h'):an P f args h a:=λw g=>
 (e w g).mono λ_ _ ⟨v,c,d,r⟩=>⟨v,c,d,b _ _ r⟩
def au{α:Type}(P:Program)(s:Sem α)(h:Heap)(K:α->Heap->Prop):Prop:=
 ∀w,w.heap=h->∃v w',s.run P w=.ok v w'/\de w w'/\K v w'.heap
variable {α β:Type} {P:Program} {h:Heap}
theorem au.pure'{K:α->Heap->Prop}{a:α}(c:K a h):au P (Pure.pure a) h K:=λw b=>⟨a,w,rfl,de.refl w,by rw[b];exact c⟩
theorem au.bind{s:Sem α}{f:α->Sem β}{K:β->Heap->Prop}(g:au P s h λv h'=>au P (f v) h' K):au P (s>>=f) h K:=by intro w i;obtain⟨v,w',l,e,j⟩:=g w i;obtain⟨k,c,d,a,b⟩:=j w' rfl;exact⟨k,c,by rw[Sem.run_bind,l];exact d,e.trans a,b⟩
theorem au.mono{s:Sem α}{K d:α->Heap->Prop}(e:au P s h K)(g:∀v h',K v h'->d v h'):au P s h d:=λw f=>
 let⟨v,w',a,b,c⟩:=e w f;⟨v,w',a,b,g _ _ c⟩
theorem au.Yz{K:Program->Heap->Prop}(a:K P h):au P program h K:=λw b=>⟨P,w,rfl,de.refl w,by rw[b];exact a⟩
theorem au.adB{a:Addr}{v v0:Value}{m:Mode}{K:Unit->Heap->Prop}(d:v.oneCell'=true)(e:cellOf h a=some v0)(f:Sq h a=false)(c:K () (Sr h a v)):
  au P (store a v m) h K:=λw b=>
 ⟨(),w.setCell a v,by rw[run_store _ _ _ _ _ d,IQ,b,e];simp[acm,b,f],⟨rfl,rfl,rfl,qm _⟩,by rw[acn,b];exact c⟩
theorem au.nQ{o:Obj}{K:Nat->Heap->Prop}(b:K h.size (h.push o)):au P (newObj o) h K:=λw a=>
 ⟨w.heap.size,_,run_newObj P w o,⟨rfl,rfl,rfl,qm _⟩,by simp only[a];exact b⟩
theorem au.FB{n:Nat}{K:Unit->Heap->Prop}(b:K () h):au P (askRoom n) h K:=λw a=>⟨(),w,run_askRoom P w n,de.refl w,by rw[a];exact b⟩
theorem au.IR{q:Question}{K:Nat->Heap->Prop}(b:(q.forced=true->K 0 h)/\(q.forced=false->∀n,K (q.cut n) h)):au P (choose q) h K:=by
 intro w a;cases hq:q.forced with
 |true=>exact⟨0,w,by rw[run_choose,hq];rfl,de.refl w,by rw[a];exact b.1 hq⟩
 |false=>exact⟨q.cut (w.tape w.drawn q),{w with drawn:=w.drawn+1},by rw[run_choose,hq];rfl,⟨rfl,rfl,rfl,Nat.le_succ _⟩,by show K _ w.heap;rw[a];exact b.2 hq _⟩
theorem au.Rn{r:Nat}{o:Obj}{K:Obj->Heap->Prop}(d:h[r]?=some o)(g:∀c e f,o≠.cells c e f)(b:K o h):au P (getObj r) h K:=λw a=>by
 refine⟨o,w,?_,de.refl w,by rw[a];exact b⟩;simp only[getObj,Sem.run,a,d]
theorem au.Ro{r:Nat}{o a:Obj}{K:Unit->Heap->Prop}(g:h[r]?=some o)(i:∀c e f,o≠.cells c e f)(d:K () (h.setIfInBounds r a)):au P (setObj r a) h K:=λw b=>by
 refine⟨(),{w with heap:=w.heap.setIfInBounds r a},?_,⟨rfl,rfl,rfl,qm _⟩,by show K () (w.heap.setIfInBounds r a);rw[b];exact d⟩;simp only[setObj,Sem.run,b,g]
theorem au.adC{r:Nat}{K:Option (TypeId×Nat)->Heap->Prop}(b:K (shapeOf h r) h):au P (shape r) h K:=λw a=>
 ⟨_,w,run_shape P w r,de.refl w,by rw[a,Yy,a];exact b⟩
def Ag(P:Program)(s:Sem Next)(h:Heap)(K:Value->Heap->Prop):Prop:=
 au P s h λa h'=>match a with
  | .value v=>K v h'
  | .skip=>K undef h'
  | .enter f args=>an P f args h' K
  |_=>False
theorem afD{P:Program}{o:Oper}{a:Act}{w:World}{K:Value->Heap->Prop}{Q:Exit->Act->World->Prop}
  (k:Ag P (execOp a.eval o) w.heap K) {next:Act->World->Prop}
  (g:∀v w',de w w'->K v w'.heap->next (a.put o.dst v) w'):o.wp P a w next Q:=by
 obtain⟨h,w',j,d,b⟩:=k w rfl;unfold Oper.wp;rw[j];cases h<;>simp only at b<;>simp only[Oper.upon]
 case value v=>exact g _ _ d b
 case skip=>exact g _ _ d b
 case enter f args=>
  refine(b w' rfl).mono ?_;rintro e i ⟨v,rfl,c,r⟩;exact g _ _ (d.trans c) r
structure Sl where
 ptr:Option Addr
 len:Nat
 cap:Nat
 deriving Inhabited
inductive Sc where
 |int (k:IntKind)|bool|str|ptr|slc|flt (k:FloatKind)|cpx (k:FloatKind)|mp|fn|any|adr
@[reducible] def Sc.den:Sc->Type
 | .int _=>Int
 | .bool=>Bool
 | .str=>ByteArray
 | .ptr=>Option Addr
 | .slc=>Sl
 | .flt _=>Nat
 | .cpx _=>Nat×Nat
 | .mp=>Option Nat
 | .fn=>FuncId×Array Value×Array Value
 | .any=>Value
 | .adr=>Addr
@[reducible] def Sc.enc:(s:Sc)->s.den->Value
 | .int k,n=>.int k n
 | .bool,x=>.bool x
 | .str,x=>.string x
 | .ptr,a=>.pointer a
 | .slc,x=>.slice x.ptr x.len x.cap
 | .flt k,n=>.float k n
 | .cpx k,x=>.complex k x.1 x.2
 | .mp,r=>.map r
 | .fn,x=>.func (.func x.1) x.2.1 x.2.2
 | .any,v=>v
 | .adr,a=>.pointer (some a)
def Ah:IntKind->IntKind->Bool
 | .i8,.i8| .i16,.i16| .i32,.i32| .i64,.i64| .u8,.u8| .u16,.u16| .u32,.u32| .u64,.u64=>true
 |_,_=>false
theorem EY:∀{a b:IntKind},Ah a b=true->a=b:=by intro a b;cases a<;>cases b<;>simp[Ah]
def Cr:FloatKind->FloatKind->Bool
 | .f32,.f32| .f64,.f64=>true
 |_,_=>false
theorem Ct:∀{a b:FloatKind},Cr a b=true->a=b:=by intro a b;cases a<;>cases b<;>simp[Cr]
def Sc.dec:(s:Sc)->Value->Option s.den
 | .int k,.int k' n=>bif Ah k k' then some n else none
 | .bool,.bool x=>some x
 | .str,.string x=>some x
 | .ptr,.pointer a=>some a
 | .slc,.slice a l c=>some ⟨a,l,c⟩
 | .flt k,.float k' n=>bif Cr k k' then some n else none
 | .cpx k,.complex k' a b=>bif Cr k k' then some (a,b)else none
 | .mp,.map r=>some r
 | .fn,.func (.func g) f c=>some (g,f,c)
 | .any,v=>some v
 | .adr,.pointer (some a)=>some a
 |_,_=>none
theorem Sc.pf{s:Sc}{v:Value}{x:s.den}(h:s.dec v=some x):v=s.enc x:=by
 cases s<;>cases v<;>simp only[Sc.dec]at h<;>try(first|(cases h;done)|(cases h;rfl))
 case int.int k k' n=>
  cases hk:Ah k k'<;>simp[hk]at h;have:=EY hk;subst this;subst h;rfl
 case flt.float k k' n=>
  cases hk:Cr k k'<;>simp[hk]at h;have:=Ct hk;subst this;subst h;rfl
 case cpx.complex k k' a b=>
  cases hk:Cr k k'<;>simp[hk]at h;have:=Ct hk;subst this;subst h;rfl
 case fn.func g f c=>
  cases g<;>first|(cases h;done)|skip
  obtain⟨l⟩:=f;cases l<;>first|(cases h;done)|(cases h;rfl)
 case adr.pointer a=>
  cases a<;>first|(cases h;done)|(cases h;rfl)
@[reducible] def uY:List Sc->Type
 |[]=>Unit
 |[s]=>s.den
 |s::t::r=>s.den×uY (t::r)
@[reducible] def nf:(l:List Sc)->uY l->List Value
 |[],_=>[]
 |[s],x=>[s.enc x]
 |s::t::r,x=>s.enc x.1::nf (t::r) x.2
def Ss:(l:List Sc)->List Value->Option (uY l)
 |[],[]=>some ()
 |[s],[v]=>s.dec v
 |s::t::r,v::vs=>match s.dec v with
  |some x=>match Ss (t::r) vs with
   |some y=>some (x,y)
   |none=>none
  |none=>none
 |_,_=>none
theorem Ve:∀{l:List Sc} {vs:List Value} {x:uY l},Ss l vs=some x->vs=nf l x:=by
 intro l vs
 fun_induction Ss l vs with
 |case1=>intro x _;rfl
 |case2 s v=>intro x h;simp only[nf];rw[Sc.pf h]
 |case3 s t r v vs x hx y hy ih=>intro z h;cases h;simp only[nf];rw[Sc.pf hx,ih hy]
 |case4=>intro x h;cases h
 |case5=>intro x h;cases h
 |case6=>intro x h;cases h
inductive Ty where
 |sc (s:Sc)
 |agg (l:List Sc)
 |arr (s:Sc)
@[reducible] def Ty.den:Ty->Type
 | .sc s=>s.den
 | .agg l=>uY l
 | .arr s=>List s.den
@[reducible] def Ty.enc:(t:Ty)->t.den->Value
 | .sc s,x=>s.enc x
 | .agg l,x=>.agg (nf l x).toArray
 | .arr s,x=>.agg (x.map s.enc).toArray
def Ty.dec:(t:Ty)->Value->Option t.den
 | .sc s,v=>s.dec v
 | .agg l,.agg ⟨cs⟩=>Ss l cs
 |_,_=>none
theorem Ty.pf{t:Ty}{v:Value}{x:t.den}(h:t.dec v=some x):v=t.enc x:=by
 unfold Ty.dec at h;split at h
 ·exact Sc.pf h
 ·have:=Ve h;subst this;rfl
 ·cases h
@[reducible] def LD:List Ty->Type
 |[]=>Unit
 |[s]=>s.den
 |s::t::r=>s.den×LD (t::r)
@[reducible] def Su:(l:List Ty)->LD l->List Value
 |[],_=>[]
 |[s],x=>[s.enc x]
 |s::t::r,x=>s.enc x.1::Su (t::r) x.2
inductive Rt where
 |one (t:Ty)
 |many (l:List Ty)
@[reducible] def Rt.den:Rt->Type
 | .one t=>t.den
 | .many l=>LD l
@[reducible] def Rt.enc:(r:Rt)->r.den->Value
 | .one t,x=>t.enc x
 | .many l,x=>.tuple (Su l x).toArray
inductive ph where
 |val (t:Nat) (x:Value)
 |kil (lo hi:Nat)
abbrev Env:=List ph
def ph.eJ:ph->Nat->Bool
 | .val s _,t=>wJ s t
 | .kil lo hi,t=>xq lo t&&xk t hi
def Env.get:Env->Nat->Option Value
 |[],_=>none
 | .val s x::r,t=>bif wJ s t then some x else Env.get r t
 | .kil lo hi::r,t=>bif xq lo t&&xk t hi then none else Env.get r t
def Env.eJ:Env->Nat->Bool
 |[],_=>false
 |e::r,t=>e.eJ t||Env.eJ r t
theorem Env.YA(e:ph)(r:Env)(t:Nat)(h:e.eJ t=false):Env.get (e::r) t=Env.get r t:=by
 cases e<;>simp only[ph.eJ]at h<;>simp[Env.get,h]
theorem Env.get_append{δ ρ:Env}{t:Nat}(h:δ.eJ t=false):Env.get (δ++ρ) t=Env.get ρ t:=by
 induction δ with
 |nil=>rfl
 |cons e r ih=>
  simp only[Env.eJ,y7]at h;rw[zo,Env.YA _ _ _ h.1,ih h.2]
theorem Env.uZ{δ ρ:Env}{t:Nat}:Env.eJ (δ++ρ) t=(δ.eJ t||ρ.eJ t):=by
 induction δ with
 |nil=>simp[Env.eJ]
 |cons e r ih=>simp[Env.eJ,ih,Bool.or_assoc]
structure Fits (n:Nat) (a:Act) (ρ:Env):Prop where
 size:a.tmps.size=n
 defers:a.defers=[]
 get:∀t x,ρ.get t=some x->a.tmps[t]?=some x
def Ext(ρ c:Env)(a b:Act):Prop:=∃δ:Env,c=δ++ρ/\∀t,δ.eJ t=false->b.tmps[t]?=a.tmps[t]?
theorem Ext.refl(ρ:Env)(a:Act):Ext ρ ρ a a:=⟨[],rfl,λ_ _=>rfl⟩
theorem Ext.trans{ρ e b:Env}{a f c:Act}(h:Ext ρ e a f)(k:Ext e b f c):Ext ρ b a c:=by obtain⟨δ,rfl,h⟩:=h;obtain⟨g,rfl,k⟩:=k;refine⟨g++δ,by simp,λt d=>?_⟩;rw[Env.uZ,y7]at d;rw[k t d.1,h t d.2]
def Env.eval(ρ:Env):Operand->Option Value
 | .tmp t=>ρ.get t
 | .const v=>some v
 | .global g=>some (.pointer (some ⟨g,0,none⟩))
 | .func f=>some (.func (.func f) #[] #[])
theorem Fits.eval{n:Nat}{a:Act}{ρ:Env}(h:Fits n a ρ){x:Operand}{v:Value}(b:ρ.eval x=some v):a.eval x=v:=by
 cases x<;>simp only[Env.eval]at b<;>simp only[Act.eval]
 case tmp t=>have:=h.get t v b;simp[Array.getD_eq_getD_getElem?,this]
 all_goals (injection b)
theorem Fits.put{n:Nat}{a:Act}{ρ:Env}(h:Fits n a ρ){d:Nat}(f:xk d n=true)(v:Value):Fits n (a.put (some d) v) (.val d v::ρ):=by
 have c:d<n:=zE f;refine⟨by simp[Act.put,h.size],h.defers,λt x b=>?_⟩;simp only[Env.get]at b;simp only[Act.put,Array.getElem?_setIfInBounds];cases hb:wJ d t with
 |true=>
  rw[hb]at b;have:d=t:=zI hb;subst this;simp at b;simp[h.size,c,b]
 |false=>
  rw[hb]at b;have:d≠t:=λe=>by subst e;simp at hb
  simp only[this,if_false];exact h.get t x b
theorem Ext.put{ρ:Env}{a:Act}{d:Nat}(v u:Value):Ext ρ (.val d u::ρ) a (a.put (some d) v):=by
 refine⟨[.val d u],rfl,λt b=>?_⟩;simp only[Env.eJ,ph.eJ,xy]at b;have:d≠t:=λe=>by subst e;simp at b
 simp[Act.put,this]
abbrev dn:=List (Nat×Ty)
@[reducible] def dn.den:dn->Type
 |[]=>Unit
 |[s]=>s.2.den
 |s::t::r=>s.2.den×dn.den (t::r)
def dn.vals:(σ:dn)->σ.den->Env->Env
 |[],_,ρ=>ρ
 |[s],x,ρ=>.val s.1 (s.2.enc x)::ρ
 |s::t::r,x,ρ=>.val s.1 (s.2.enc x.1)::dn.vals (t::r) x.2 ρ
def dn.read:(σ:dn)->Env->Option σ.den
 |[],_=>some ()
 |[s],ρ=>match ρ.get s.1 with
  |some v=>s.2.dec v
  |none=>none
 |s::t::r,ρ=>match ρ.get s.1 with
  |some v=>match s.2.dec v with
   |some x=>match dn.read (t::r) ρ with
    |some y=>some (x,y)
    |none=>none
   |none=>none
  |none=>none
def dn.has:dn->Nat->Bool
 |[],_=>false
 |s::r,t=>wJ s.1 t||dn.has r t
abbrev db:=List (Nat×Nat)
def db.over:db->Env->Env
 |[],ρ=>ρ
 |(lo,hi)::r,ρ=>.kil lo hi::db.over r ρ
def db.has:db->Nat->Nat->Bool
 |[],_,_=>false
 |(lo,hi)::r,a,b=>(xq lo a&&xq b hi)||db.has r a b
def within(σ:dn)(κ:db):Env->Nat->Bool
 |_,0=>true
 |[],_+1=>true
 | .val t _::r,n+1=>(dn.has σ t||db.has κ t (t+1))&&within σ κ r n
 | .kil lo hi::r,n+1=>db.has κ lo hi&&within σ κ r n
theorem db.YB{κ:db}{a b:Nat}(h:κ.has a b=true){t:Nat}(f:a<=t)(e:t<b)(ρ:Env):∃δ:Env,κ.over ρ=δ++ρ/\δ.eJ t=true:=by
 induction κ with
 |nil=>simp[db.has]at h
 |cons p r ih=>
  obtain⟨d,c⟩:=p;simp only[db.has,zU,qw]at h;obtain⟨δ,i⟩:∃δ:Env,db.over r ρ=δ++ρ:=by
   clear ih h
   induction r with
   |nil=>exact⟨[],rfl⟩
   |cons q r ih=>obtain⟨δ,h⟩:=ih;exact⟨.kil q.1 q.2::δ,by show ph.kil q.1 q.2::db.over r ρ=_;rw[h];rfl⟩
  rcases h with h|h
  ·have l:=zE h.1;have k:=zE h.2;refine⟨.kil d c::δ,by simp[db.over,i],?_⟩;have g:xq d t=true:=Nat.ble_eq_true_of_le (by omega);have x2:xk t c=true:=by unfold xk;exact Nat.ble_eq_true_of_le (by omega)
   simp[Env.eJ,ph.eJ,g,x2]
  ·obtain⟨j,f,e⟩:=ih h;exact⟨.kil d c::j,by simp[db.over,f],by simp[Env.eJ,e]⟩
theorem db.LW(κ:db)(ρ:Env):κ.over ρ=κ.over []++ρ:=by
 induction κ with
 |nil=>rfl
 |cons p r ih=>obtain⟨a,b⟩:=p;simp[db.over,ih]
theorem dn.FC:∀(σ:dn) (x:σ.den) (ρ:Env),σ.vals x ρ=σ.vals x []++ρ
 |[],_,ρ=>rfl
 |[s],x,ρ=>rfl
 |s::t::r,x,ρ=>by simp only[dn.vals];rw[dn.FC (t::r) x.2 ρ];rfl
theorem dn.uo:∀(σ:dn) (x:σ.den) (t:Nat),(σ.vals x []).eJ t=σ.has t
 |[],_,_=>rfl
 |[s],x,t=>by simp[dn.vals,Env.eJ,ph.eJ,dn.has]
 |s::u::r,x,t=>by
  have:=dn.uo (u::r) x.2 t;simp only[dn.vals,Env.eJ,ph.eJ,this];rfl
theorem dn.LX:∀(σ:dn) (x:σ.den) (e:Env) (t:Nat),σ.has t=true->((σ.vals x [])++e).get t=(σ.vals x []).get t
 |[],_,_,_,h=>by cases h
 |[s],x,e,t,h=>by
  simp only[dn.has,xy]at h;simp[dn.vals,Env.get,h]
 |s::u::r,x,e,t,h=>by
  simp only[dn.vals,zo,Env.get];cases hb:wJ s.1 t with
  |true=>rfl
  |false=>
   have h':dn.has (u::r) t=true:=by have a:(wJ s.1 t||dn.has (u::r) t)=true:=h;rw[hb]at a;exact a
   simpa using dn.LX (u::r) x.2 e t h'
theorem db.JT{κ:db}{a b t:Nat}(h:κ.has a b=true)(e:a<=t)(d:t<b):(κ.over []).eJ t=true:=by obtain⟨δ,f,c⟩:=db.YB h e d [];rw[f];simpa using c
theorem pi{σ:dn}{κ:db}:∀{δ ρ:Env},within σ κ (δ++ρ) δ.length=true->∀t,σ.has t=false->(κ.over []).eJ t=false->δ.eJ t=false
 |[],_,_,_,_,_=>rfl
 | .val s x::r,ρ,h,t,h1,h2=>by
  simp only[zo,zh,within,qw,zU]at h;simp only[Env.eJ,ph.eJ,y7];refine⟨?_,pi h.2 t h1 h2⟩;cases hb:wJ s t with
  |false=>rfl
  |true=>
   have:s=t:=zI hb;subst this;rcases h.1 with h|h
   ·rw[h]at h1;cases h1
   ·rw[db.JT h (qm _) (Nat.lt_succ_self _)]at h2;cases h2
 | .kil lo hi::r,ρ,h,t,h1,h2=>by
  simp only[zo,zh,within,qw]at h;simp only[Env.eJ,ph.eJ,y7];refine⟨?_,pi h.2 t h1 h2⟩;cases hb:(xq lo t&&xk t hi)with
  |false=>rfl
  |true=>
   simp only[qw]at hb;have b:=zE hb.1;have a:t<hi:=zE hb.2;rw[db.JT h.1 b a]at h2;cases h2
theorem dn.LY:∀{σ:dn} {ρ:Env} {x:σ.den} {t:Nat} {v:Value},σ.read ρ=some x->(σ.vals x []).get t=some v->ρ.get t=some v∨False
 |[],_,_,_,_,_,h=>by simp[dn.vals,Env.get]at h
 |[s],ρ,x,t,v,h,hv=>by
  simp only[dn.read]at h;split at h
  ·rename_i u b;simp only[dn.vals,Env.get]at hv;cases hb:wJ s.1 t with
   |true=>
    rw[hb]at hv;have:=zI hb;simp at hv;subst hv;rw[<-Ty.pf h,<-this];exact .inl b
   |false=>rw[hb]at hv;simp at hv
  ·cases h
 |s::u::r,ρ,x,t,v,h,hv=>by
  simp only[dn.read]at h;split at h
  ·rename_i z a;split at h
   ·rename_i y d;split at h
    ·rename_i w c;cases h;simp only[dn.vals,Env.get]at hv;cases hb:wJ s.1 t with
     |true=>
      rw[hb]at hv;have:=zI hb;simp at hv;subst hv;rw[<-Ty.pf d,<-this];exact .inl a
     |false=>
      rw[hb]at hv;exact dn.LY (σ:=u::r) c hv
    ·cases h
   ·cases h
  ·cases h
theorem Fits.pj{n:Nat}{a d:Act}{σ:dn}{κ:db}{ρ g:Env}{x:σ.den}(i:Fits n a ρ)(h:Fits n d g)
  (b:∀t,σ.has t=false->(κ.over []).eJ t=false->d.tmps[t]?=a.tmps[t]?) (l:σ.read g=some x):
  Fits n d (σ.vals x (κ.over ρ))/\Ext ρ (σ.vals x (κ.over ρ)) a d:=by
 rw[dn.FC,db.LW];refine⟨⟨h.size,h.defers,λt v c=>?_⟩,⟨σ.vals x []++κ.over [],by simp,λt f=>?_⟩⟩
 ·cases h1:σ.has t with
  |true=>
   have:∀(e:Env),((σ.vals x [])++e).get t=(σ.vals x []).get t:=λe=>dn.LX σ x e t h1;rw[this]at c;rcases dn.LY l c with h2|h2
   ·exact h.get t v h2
   ·exact h2.elim
  |false=>
   rw[Env.get_append (by rw[dn.uo];exact h1)]at c;cases h2:(κ.over []).eJ t with
   |true=>
    have:∀(e:Env),((κ.over [])++e).get t=none:=by
     intro e;clear b c
     induction κ with
     |nil=>simp[db.over,Env.eJ]at h2
     |cons p r ih=>
      obtain⟨j,k⟩:=p;simp only[db.over,Env.eJ,ph.eJ]at h2;simp only[db.over,zo,Env.get];cases hb:(xq j t&&xk t k)with
      |true=>rfl
      |false=>rw[hb]at h2;simp at h2;simpa using ih h2
    rw[this]at c;cases c
   |false=>
    rw[Env.get_append h2]at c;rw[b t h1 h2];exact i.get t v c
 ·rw[Env.uZ,y7,dn.uo]at f;exact b t f.1 f.2
theorem Ext.within{a d:Act}{σ:dn}{κ:db}{ρ c:Env}(i:Ext ρ c a d)(e:within σ κ c (c.length-ρ.length)=true):
  ∀t,σ.has t=false->(κ.over []).eJ t=false->d.tmps[t]?=a.tmps[t]?:=by
 obtain⟨δ,rfl,h⟩:=i;have b:(δ++ρ).length-ρ.length=δ.length:=by simp
 rw[b]at e;exactλt g f=>h t (pi e t g f)
theorem Ext.pj{a c:Act}{σ:dn}{κ:db}{ρ:Env}{x:σ.den}(g:Ext ρ (σ.vals x (κ.over ρ)) a c):
  ∀t,σ.has t=false->(κ.over []).eJ t=false->c.tmps[t]?=a.tmps[t]?:=by
 obtain⟨δ,b,f⟩:=g;rw[dn.FC,db.LW,<-List.append_assoc]at b;have:=List.append_cancel_right b;subst this;exactλt e d=>f t (by rw[Env.uZ,dn.uo,e,d];rfl)
inductive nc where
 |int (k:IntKind)|bool|str|flt|cpx|mp|fn|other
 |slice (e:TypeId)|array (n:Nat) (e:TypeId)|struct (fs:List (Nat×TypeId))|ptr (e:TypeId)
def iP:Option TypeDesc->nc
 |some (.int k)=>.int k
 |some .bool=>.bool
 |some .string=>.str
 |some (.float _)=>.flt
 |some (.complex _)=>.cpx
 |some (.map ..)=>.mp
 |some (.func ..)=>.fn
 |some (.slice e)=>.slice e
 |some (.array n e)=>.array n e
 |some (.struct fs)=>.struct (fs.toList.map λf=>(f.offset,f.type))
 |some (.pointer e)=>.ptr e
 |_=>.other
structure TI where
 cz:nc
 ty:Ty
 size:Nat
 bytes:Nat
 zero:List Value
abbrev jX:=List TI
def jX.seen(P:Program)(t:TypeId):nc×Option (Nat×Nat×Option (List Value)):=
 (iP (P.underlying t),(P.info? t).map λi=>(i.size,i.bytes,i.zero.map (·.cells.toList)))
def jX.told(i:TI):nc×Option (Nat×Nat×Option (List Value)):=(i.cz,some (i.size,i.bytes,some i.zero))
def jX.get:jX->Nat->Option TI
 |[],_=>none
 |i::_,0=>some i
 |_::r,t+1=>jX.get r t
structure Ai where
 P:Program
 T:jX
structure Ai.Ok (C:Ai):Prop where
 RS:(List.range C.T.length).map (jX.seen C.P)=C.T.map jX.told
 mixed:C.P.follows .mixedOrders=true
theorem jX.get_eq:∀(T:jX) (t:Nat),T.get t=T[t]?
 |[],_=>rfl
 |_::_,0=>rfl
 |_::r,t+1=>by simp[jX.get,jX.get_eq r t]
theorem Ai.Ok.at{C:Ai}(h:C.Ok){t:Nat}{i:TI}(b:C.T.get t=some i):jX.seen C.P t=jX.told i:=by rw[jX.get_eq]at b;have a:t<C.T.length:=(qj.1 b).1;have:=congrArg (·[t]?) h.RS;simp[a]at this;rw[this,(qj.1 b).2]
def Br(b:Bool)(A B:Prop):Prop:=match b with
 |true=>A
 |false=>B
inductive PV:Type 1 where
 |no
 |val (v:Value)
 |cond (c:Prop) (v:Value)
 |ex (X:Type) (c:X->Prop) (v:X->Value)
 |br (b:Bool) (x y:Value)
def PV.holds(p:PV)(K:Value->Prop):Prop:=match p with
 | .no=>False
 | .val v=>K v
 | .cond c v=>c/\K v
 | .ex _ c v=>∃x,c x/\K (v x)
 | .br b x y=>Br b (K x) (K y)
def pZ(P:Program)(s:Sem Next)(v:Value):Prop:=∀w,s.run P w=.ok (.value v) w
def aH{α:Type}(P:Program)(s:Sem α)(v:α):Prop:=∀w,s.run P w=.ok v w
def jY(P:Program)(op:BinOp)(t:TypeId)(x y:Operand)(a b r:Value):Prop:=aH P (do eqGuard op t x y a b;binOp op t a b) r
def aaT:Operand->Bool
 | .tmp _=>true
 |_=>false
def YC(P:Program)(t:TypeId)(x y:Operand)(d:Option nc)(op:BinOp):Value->Value->PV
 | .int k a,.int k' b=>
  match op with
  | .shl=>.cond (0<=b) (.int k (k.wrap (a*2^min b.toNat k.bits)))
  | .shr=>.cond (0<=b) (.int k (a.fdiv (2^min b.toNat k.bits)))
  |_=>bif Ah k k' then
   match op with
   | .add=>.val (.int k (k.wrap (a+b)))
   | .sub=>.val (.int k (k.wrap (a-b)))
   | .mul=>.val (.int k (k.wrap (a*b)))
   | .quo=>.cond (b≠0) (.int k (k.wrap (a.tdiv b)))
   | .rem=>.cond (b≠0) (.int k (a.tmod b))
   | .and=>.val (.int k (k.wrap (qK k.bits a&&&qK k.bits b).toNat))
   | .or=>.val (.int k (k.wrap (qK k.bits a|||qK k.bits b).toNat))
   | .xor=>.val (.int k (k.wrap (qK k.bits a^^^qK k.bits b).toNat))
   | .andNot=>.val (.int k (k.wrap (qK k.bits a&&&~~~qK k.bits b).toNat))
   | .eql=>.val (.bool (a==b))
   | .neq=>.val (.bool (a !=b))
   | .lss=>.val (.bool (decide (a<b)))
   | .leq=>.val (.bool (decide (a<=b)))
   | .gtr=>.val (.bool (decide (a>b)))
   | .geq=>.val (.bool (decide (a>=b)))
   |_=>.no
  else .no
 | .float k a,.float k' b=>bif Cr k k' then
   match op with
   | .add=>.ex Nat (λr=>k.format.add a b=some r) (λr=>.float k r)
   | .sub=>.ex Nat (λr=>k.format.sub a b=some r) (λr=>.float k r)
   | .mul=>.ex Nat (λr=>k.format.mul a b=some r) (λr=>.float k r)
   | .quo=>.ex Nat (λr=>k.format.div a b=some r) (λr=>.float k r)
   | .eql=>.val (.bool (k.format.order a b==some .eq))
   | .neq=>.val (.bool (k.format.order a b !=some .eq))
   | .lss=>.val (.bool (k.format.order a b==some .lt))
   | .gtr=>.val (.bool (k.format.order a b==some .gt))
   |_=>.no
  else .no
 | .string a,.string b=>
  match op with
  | .eql=>.val (.bool (a.toList==b.toList))
  | .neq=>.val (.bool (!(a.toList==b.toList)))
  | .lss=>.val (.bool (Op.bytesLess a.toList b.toList))
  | .leq=>.val (.bool (Op.bytesLess a.toList b.toList||a.toList==b.toList))
  | .gtr=>.val (.bool (!(Op.bytesLess a.toList b.toList||a.toList==b.toList)))
  | .geq=>.val (.bool (!(Op.bytesLess a.toList b.toList)))
  | .add=>.cond (((a.size+b.size:Nat):Int)<=xM.max) (.string (a++b))
  |_=>.no
 | .bool a,.bool b=>
  match d with
  |some .bool=>match op with
   | .eql=>.val (.bool (a==b))
   | .neq=>.val (.bool (!(a==b)))
   |_=>.no
  |_=>.no
 | .pointer a,.pointer b=>bif aaT y then .ex Bool (λr=>jY P op t x y (.pointer a) (.pointer b) (.bool r)) (λr=>.bool r)else
  match b with
  |none=>match d with
   |some (.ptr _)=>match op with
    | .eql=>.val (.bool a.isNone)
    | .neq=>.val (.bool (!a.isNone))
    |_=>.no
   |_=>.no
  |some _=>.no
 | .slice a _ _,.slice none _ _=>
  match d with
  |some (.slice _)=>match op with
   | .eql=>.val (.bool a.isNone)
   | .neq=>.val (.bool (!a.isNone))
   |_=>.no
  |_=>.no
 | .agg a,.agg b=>.ex Bool (λr=>jY P op t x y (.agg a) (.agg b) (.bool r)) (λr=>.bool r)
 | .complex k a b,.complex k' c e=>
  match op with
  | .eql| .neq=>.ex Bool (λr=>jY P op t x y (.complex k a b) (.complex k' c e) (.bool r)) (λr=>.bool r)
  |_=>.ex (Nat×Nat) (λr=>jY P op t x y (.complex k a b) (.complex k' c e) (.complex k r.1 r.2)) (λr=>.complex k r.1 r.2)
 |_,_=>.no
def YD(P:Program)(t:TypeId)(x y:Operand)(d:Option nc)(op:BinOp)(a:Value):Value->PV
 | .nilIface=>.ex Bool (λr=>jY P op t x y a .nilIface (.bool r)) (λr=>.bool r)
 |b=>YC P t x y d op a b
def unV(op:UnOp):Value->PV
 | .bool b=>match op with
  | .not=>.val (.bool !b)
  |_=>.no
 | .int k n=>match op with
  | .neg=>.val (.int k (k.wrap (0-n)))
  | .xor=>.val (.int k (k.wrap (qK k.bits (if k.signed then-1 else k.max)^^^qK k.bits n).toNat))
  |_=>.no
 |_=>.no
def pd(ev:Operand->Option Value):List Operand->Option (List Value)
 |[]=>some []
 |x::r=>match ev x with
  |some v=>match pd ev r with
   |some vs=>some (v::vs)
   |none=>none
  |none=>none
def Cu(ev:Operand->Option Value):List (Nat×Operand)->Option (List (Nat×Value))
 |[]=>some []
 |(n,x)::r=>match ev x with
  |some v=>match Cu ev r with
   |some vs=>some ((n,v)::vs)
   |none=>none
  |none=>none
def placesOf(T:jX):List (Nat×TypeId)->Option (List (Nat×Nat))
 |[]=>some []
 |(off,t)::r=>match T.get t with
  |some j=>match placesOf T r with
   |some ps=>some ((off,j.size)::ps)
   |none=>none
  |none=>none
def GG(ev:Operand->Option Value):Option Operand->Option (Option Int)
 |none=>some none
 |some x=>match ev x with
  |some (.int _ n)=>some (some n)
  |_=>none
def adD(d:Option nc):Value->PV
 | .slice _ n _=>match d with
  |some (.slice _)=>.val (.int .i64 n)
  |_=>.no
 | .string s=>match d with
  |some .str=>.val (.int .i64 s.size)
  |_=>.no
 |_=>.no
def adE(d:Option nc):Value->PV
 | .slice _ _ n=>match d with
  |some (.slice _)=>.val (.int .i64 n)
  |_=>.no
 |_=>.no
def aaU(d:Option nc):Value->PV
 | .int _ n=>match d with
  |some (.int k)=>.val (.int k (k.wrap n))
  |_=>.no
 |_=>.no
def Aj(P:Program)(T:jX)(op:Op)(ev:Operand->Option Value):PV:=
 match op with
 | .move x| .assign x=>match ev x with
  |some v=>.val v
  |none=>.no
 | .pick c a b=>match ev c,ev a,ev b with
  |some (.bool t),some x,some y=>.br t x y
  |_,_,_=>.no
 | .nilCheck x=>match ev x with
  |some (.pointer p)=>.ex Addr (λa=>p=some a) (λa=>.pointer (some a))
  |_=>.no
 | .fieldAddr s x f=>match ev x with
  |some (.pointer (some a))=>match T.get s with
   |some i=>match i.cz with
    | .struct fs=>match fs[f]? with
     |some (off,t)=>match T.get t with
      |some j=>bif wJ j.size 0 then .no else .val (.pointer (some (a.add off)))
      |none=>.no
     |none=>.no
    |_=>.no
   |none=>.no
  |_=>.no
 | .indexAddr t x ix=>match ev ix with
  |some (.int _ n)=>match ev x with
   |some (.slice p len _)=>match T.get t with
    |some i=>match i.cz with
     | .slice e=>match T.get e with
      |some j=>.ex Addr (λa=>p=some a/\0<=n/\n<(len:Int)) (λa=>.pointer (some (a.add (n.toNat*j.size))))
      |none=>.no
     |_=>.no
    |none=>.no
   |some (.pointer (some a))=>match T.get t with
    |some i=>match i.cz with
     | .array m e=>match T.get e with
      |some j=>.cond (0<=n/\n<(m:Int)) (.pointer (some (a.add (n.toNat*j.size))))
      |none=>.no
     |_=>.no
    |none=>.no
   |_=>.no
  |_=>.no
 | .index t x ix=>match ev ix with
  |some (.int _ n)=>match ev x with
   |some (.string s)=>match T.get t with
    |some i=>match i.cz with
     | .str=>.ex UInt8 (λb=>0<=n/\s.data[n.toNat]?=some b) (λb=>.int .u8 b.toNat)
     |_=>.no
    |none=>.no
   |some (.agg cs)=>match T.get t with
    |some i=>match i.cz with
     | .array m e=>match T.get e with
      |some j=>match j.ty with
       | .sc s=>match j.cz with
        | .struct _=>.no
        | .array _ _=>.no
        | .other=>.no
        |_=>bif wJ j.size 1 then .ex s.den (λy=>0<=n/\n<(m:Int)/\cs[n.toNat]?=some (s.enc y)) (λy=>s.enc y)else .no
       |_=>.no
      |none=>.no
     |_=>.no
    |none=>.no
   |_=>.no
  |_=>.no
 | .field s x f=>match ev x with
  |some (.agg ⟨cs⟩)=>match T.get s with
   |some i=>match i.cz with
    | .struct fs=>match fs[f]? with
     |some (off,t)=>match T.get t with
      |some j=>match j.cz with
       | .struct _=>.val (.agg ((cs.drop off).take j.size).toArray)
       | .array _ _=>.val (.agg ((cs.drop off).take j.size).toArray)
       | .other=>.no
       |_=>match cs[off]? with
        |some v=>.val v
        |none=>.no
      |none=>.no
     |none=>.no
    |_=>.no
   |none=>.no
  |_=>.no
 | .slice t x lo hi mx=>match mx with
  |some _=>.no
  |none=>match GG ev lo,GG ev hi with
   |some l,some r=>match ev x with
    |some (.slice p len cap)=>match T.get t with
     |some i=>match i.cz with
      | .slice e=>match T.get e with
       |some j=>match l,r with
        |none,none=>.val (.slice p len cap)
        |none,some r=>.cond (0<=r/\r<=(cap:Int)) (.slice p r.toNat cap)
        |some l,none=>.cond (0<=l/\l<=(len:Int)) (.slice (if cap=l.toNat then p else p.map (·.add (l.toNat*j.size))) (len-l.toNat) (cap-l.toNat))
        |some l,some r=>.cond (0<=l/\l<=r/\r<=(cap:Int)) (.slice (if cap=l.toNat then p else p.map (·.add (l.toNat*j.size))) (r.toNat-l.toNat) (cap-l.toNat))
       |none=>.no
      |_=>.no
     |none=>.no
    |some (.string s)=>match T.get t with
     |some i=>match i.cz with
      | .str=>match l,r with
       |none,none=>.val (.string (s.extract 0 s.size))
       |none,some r=>.cond (0<=r/\r<=(s.size:Int)) (.string (s.extract 0 r.toNat))
       |some l,none=>.cond (0<=l/\l<=(s.size:Int)) (.string (s.extract l.toNat s.size))
       |some l,some r=>.cond (0<=l/\l<=r/\r<=(s.size:Int)) (.string (s.extract l.toNat r.toNat))
      |_=>.no
     |none=>.no
    |some (.pointer (some a))=>match T.get t with
     |some i=>match i.cz with
      | .array n e=>match T.get e with
       |some j=>match l,r with
        |none,none=>.val (.slice (some a) n n)
        |none,some r=>.cond (0<=r/\r<=(n:Int)) (.slice (some a) r.toNat n)
        |some l,none=>.cond (0<=l/\l<=(n:Int)) (.slice (some (if n=l.toNat then a else a.add (l.toNat*j.size))) (n-l.toNat) (n-l.toNat))
        |some l,some r=>.cond (0<=l/\l<=r/\r<=(n:Int)) (.slice (some (if n=l.toNat then a else a.add (l.toNat*j.size))) (r.toNat-l.toNat) (n-l.toNat))
       |none=>.no
      |_=>.no
     |none=>.no
    |_=>.no
   |_,_=>.no
 | .extract x n=>match ev x with
  |some (.tuple ⟨vs⟩)=>match vs[n]? with
   |some v=>.val v
   |none=>.no
  |_=>.no
 | .binOp op t x y _=>match ev x,ev y with
  |some a,some b=>YD P t x y ((T.get t).map (·.cz)) op a b
  |_,_=>.no
 | .unOp op _ x=>match ev x with
  |some v=>unV op v
  |none=>.no
 | .convert src dst x=>match ev x,(T.get src).map TI.cz with
  |some v,some (nc.int _)=>aaU ((T.get dst).map (·.cz)) v
  |_,_=>.no
 | .build t parts=>match Cu ev parts.toList with
  |some vs=>match T.get t with
   |some i=>bif xk 24 i.size then .ex Value (λv=>aH P (xv t vs.toArray) v) (λv=>v)else match i.cz with
    | .struct fs=>match placesOf T fs with
     |some ps=>match wC (λn=>ps[n]?) i.zero.toArray vs with
      |some cells=>.val (.agg cells)
      |none=>.no
     |none=>.no
    | .array _ e=>match T.get e with
     |some j=>match wC (λn=>some (n*j.size,j.size)) i.zero.toArray vs with
      |some cells=>.val (.agg cells)
      |none=>.no
     |none=>.no
    |_=>.no
   |none=>.no
  |none=>.no
 | .makeFunc fn first captured=>match pd ev first.toList,pd ev captured.toList with
  |some a,some b=>.val (.func fn a.toArray b.toArray)
  |_,_=>.no
 | .call c=>match c.callee with
  | .builtin b=>match b with
   | .len=>match c.argTypes.toList,c.args.toList with
    |t::_,[x]=>match ev x with
     |some v=>adD ((T.get t).map (·.cz)) v
     |none=>.no
    |_,_=>.no
   | .cap=>match c.argTypes.toList,c.args.toList with
    |t::_,[x]=>match ev x with
     |some v=>adE ((T.get t).map (·.cz)) v
     |none=>.no
    |_,_=>.no
   | .min=>match pd ev c.args.toList with
    |some [.int k a,.int _ b]=>.val (.int k (if b<a then b else a))
    |_=>.no
   | .max=>match pd ev c.args.toList with
    |some [.int k a,.int _ b]=>.val (.int k (if b>a then b else a))
    |_=>.no
   | .real=>match pd ev c.args.toList with
    |some [.complex k a _]=>.val (.float k a)
    |_=>.no
   | .imag=>match pd ev c.args.toList with
    |some [.complex k _ b]=>.val (.float k b)
    |_=>.no
   |_=>.no
  |_=>.no
 |_=>.no
theorem aH.next{P:Program}{s:Sem Value}{v:Value}(h:aH P s v):pZ P (do pure (.value (<-s))) v:=λw=>by
 rw[Sem.run_bind,h w];rfl
theorem aH.pure{α:Type}{P:Program}{v:α}:aH P (pure v) v:=λ_=>rfl
theorem aH.bind{α β:Type}{P:Program}{s:Sem α}{f:α->Sem β}{v:α}{u:β}(h:aH P s v)(k:aH P (f v) u):aH P (s>>=f) u:=λw=>by
 rw[Sem.run_bind,h w];exact k w
theorem Es{d:Option TypeDesc}{k:IntKind}(h:iP d=.int k):d=some (.int k):=by unfold iP at h;split at h<;>cases h;rfl
theorem YE{d:Option TypeDesc}(h:iP d=.bool):d=some .bool:=by unfold iP at h;split at h<;>cases h;rfl
theorem sG{d:Option TypeDesc}(h:iP d=.str):d=some .string:=by unfold iP at h;split at h<;>cases h;rfl
theorem jo{d:Option TypeDesc}{e:TypeId}(h:iP d=.slice e):d=some (.slice e):=by unfold iP at h;split at h<;>cases h;rfl
theorem rc{d:Option TypeDesc}{n:Nat}{e:TypeId}(h:iP d=.array n e):d=some (.array n e):=by unfold iP at h;split at h<;>cases h;rfl
theorem aco{d:Option TypeDesc}{e:TypeId}(h:iP d=.ptr e):d=some (.pointer e):=by unfold iP at h;split at h<;>cases h;rfl
theorem ou{d:Option TypeDesc}{a:List (Nat×TypeId)}(h:iP d=.struct a):∃b,d=some (.struct b)/\a=b.toList.map λf=>(f.offset,f.type):=by unfold iP at h;split at h<;>cases h;exact⟨_,rfl,rfl⟩
variable {t:TypeId} {i:TI}
section
variable {C:Ai}
theorem Ai.Ok.cz(h:C.Ok)(a:C.T.get t=some i):iP (C.P.underlying t)=i.cz:=congrArg Prod.fst (h.at a)
theorem Ai.Ok.info(h:C.Ok)(d:C.T.get t=some i):∃f,C.P.info? t=some f/\f.size=i.size/\f.bytes=i.bytes/\∃z,f.zero=some z/\z.cells.toList=i.zero:=by
 have:=congrArg Prod.snd (h.at d);simp only[jX.seen,jX.told]at this;cases hf:C.P.info? t with
 |none=>rw[hf]at this;cases this
 |some f=>
  rw[hf]at this;simp only[qQ,zQ.injEq,Prod.mk.injEq]at this;obtain⟨a,b,c⟩:=this;cases hz:f.zero with
  |none=>rw[hz]at c;cases c
  |some z=>rw[hz]at c;simp at c;exact⟨f,rfl,a,b,z,hz,by simpa using c⟩
theorem aG{P:Program}{t:TypeId}{d:TypeDesc}(h:P.underlying t=some d):aH P (underlying t) d:=λw=>by
 simp[underlying,h]
theorem cU{P:Program}{t:TypeId}{d:TypeInfo}(h:P.info? t=some d):aH P (typeInfo t) d:=λw=>by
 simp[typeInfo,h]
theorem dT(h:C.Ok)(a:C.T.get t=some i):aH C.P (sizeOf t) i.size:=by obtain⟨f,c,b,_⟩:=h.info a;rw[<-b];exact(cU c).bind .pure
theorem pM(h:C.Ok)(b:C.T.get t=some i):∃z,aH C.P (zeroValue t) z/\z.cells.toList=i.zero:=by obtain⟨f,d,_,_,z,a,c⟩:=h.info b;refine⟨z,(cU d).bind ?_,c⟩;rw[a];exact .pure
theorem kO(h:C.Ok)(j:C.T.get t=some i):(∀b,i.cz=.struct b->aH C.P (isAgg t) true)/\(∀n e,i.cz=.array n e->aH C.P (isAgg t) true)/\
  ((∀b,i.cz≠.struct b)->(∀n e,i.cz≠.array n e)->i.cz≠.other->aH C.P (isAgg t) false):=by
 have a:=h.cz j;refine⟨λb c=>?_,λn e c=>?_,λg f h3=>?_⟩
 ·rw[c]at a;obtain⟨l,k,_⟩:=ou a;exact(aG k).bind .pure
 ·rw[c]at a;exact(aG (rc a)).bind .pure
 ·cases hu:C.P.underlying t with
  |none=>rw[hu]at a;exact absurd a.symm h3
  |some d=>
   refine(aG hu).bind ?_;rw[hu]at a;cases d<;>first|exact .pure|(exfalso;simp only[iP]at a;first|exact g _ a.symm|exact f _ _ a.symm)
end
theorem AO{ev:Operand->Option Value}{e:Operand->Value}(b:∀x v,ev x=some v->e x=v):∀{l:List Operand} {vs:List Value},pd ev l=some vs->l.map e=vs:=by
 intro l
 induction l with
 |nil=>intro vs h;cases h;rfl
 |cons x r ih=>
  intro vs h;simp only[pd]at h;split at h
  ·rename_i v c;split at h
   ·rename_i us a;cases h;simp[b _ _ c,ih a]
   ·cases h
  ·cases h
theorem EZ{ev:Operand->Option Value}{e:Operand->Value}(b:∀x v,ev x=some v->e x=v):∀{l:List (Nat×Operand)} {vs:List (Nat×Value)},Cu ev l=some vs->l.map (λp=>(p.1,e p.2))=vs:=by
 intro l
 induction l with
 |nil=>intro vs h;cases h;rfl
 |cons x r ih=>
  intro vs h;obtain⟨n,x⟩:=x;simp only[Cu]at h;split at h
  ·rename_i v c;split at h
   ·rename_i us a;cases h;simp[b _ _ c,ih a]
   ·cases h
  ·cases h
theorem FD(t:TypeId)(x y:Value):Op.equal t x y=Op.equalIn (9999+1) t x y:=rfl
theorem acp{t:TypeId}(c:P.underlying t=some .bool)(d:Nat)(a b:Bool):aH P (Op.equalIn (d+1) t (.bool a) (.bool b)) (a==b):=λw=>by
 simp[Op.equalIn,underlying,c]
theorem adF{t e:TypeId}(b:P.underlying t=some (.pointer e))(d:Nat)(a:Option Addr):aH P (Op.equalIn (d+1) t (.pointer a) (.pointer none)) a.isNone:=λw=>by
 cases a<;>simp[Op.equalIn,underlying,b]
theorem YF{t e:TypeId}(g:P.underlying t=some (.slice e))(d:Nat)(a:Option Addr)(l c b f:Nat):aH P (Op.equalIn (d+1) t (.slice a l c) (.slice none b f)) a.isNone:=λw=>by
 cases a<;>simp[Op.equalIn,underlying,g]
theorem Sv{t:TypeId}{d:Option nc}{op:BinOp}{a b:Value}{x y:Operand}{K:Value->Prop}(o:∀q,d=some q->iP (P.underlying t)=q)
  (h:(YC P t x y d op a b).holds K):∃v,aH P (do eqGuard op t x y a b;binOp op t a b) v/\K v:=by
 have j:∀{a b:Value},¬(a=.nilIface/\b=.nilIface)->(∀u v,¬(a=.agg u/\b=.agg v))->aH P (eqGuard op t x y a b) ():=by
  intro a b i f w;simp only[eqGuard];cases op<;>simp only[Bool.not_true,Bool.not_false,zf,if_true,if_false]<;>
   first
    |rfl
    |(split<;>first|exact absurd ⟨rfl,rfl⟩ i|exact absurd ⟨rfl,rfl⟩ (f _ _)|rfl)
 unfold YC at h;split at h
 ·rename_i k a n b;have g:=j (a:=.int k a) (b:=.int n b) (by simp) (by simp);cases op<;>simp only at h
  case shl=>exact⟨_,g.bind λw=>by simp only[binOp,Op.shift];rw[if_neg (by have:=h.1;omega)];rfl,h.2⟩
  case shr=>exact⟨_,g.bind λw=>by simp only[binOp,Op.shift];rw[if_neg (by have:=h.1;omega)];rfl,h.2⟩
  all_goals
   cases hk:Ah k n with
   |false=>rw[hk]at h;simp[PV.holds]at h
   |true=>
    rw[hk]at h;simp only[cond_true,PV.holds]at h;have e:=EY hk;subst e
    first
     |exact⟨_,g.bind λw=>by simp[binOp,Op.intArith,Op.intBits,Op.intCmp],h⟩
     |exact⟨_,g.bind λw=>by simp[binOp,Op.intDiv,h.1],h.2⟩
     |exact h.elim
 ·rename_i k a n b;have g:=j (a:=.float k a) (b:=.float n b) (by simp) (by simp);cases hk:Cr k n with
  |false=>rw[hk]at h;simp[PV.holds]at h
  |true=>
   rw[hk]at h;have e:=Ct hk;subst e;cases op<;>simp only[cond_true,PV.holds]at h<;>
    first
     |(obtain⟨r,i,f⟩:=h;exact⟨_,g.bind λw=>by simp[binOp,Op.floatArith,i],f⟩)
     |exact⟨_,g.bind λw=>by simp[binOp,Op.floatCmp],h⟩
     |exact h.elim
 ·rename_i a b;have g:=j (a:=.string a) (b:=.string b) (by simp) (by simp);cases op<;>simp only[PV.holds]at h<;>
   first
    |exact⟨_,g.bind λw=>by simp[binOp,Op.stringOp],h⟩
    |exact⟨_,g.bind λw=>by simp only[binOp,Op.stringOp];rw[if_neg (by have:=h.1;omega)];rfl,h.2⟩
    |exact h.elim
 ·rename_i a b;have g:=j (a:=.bool a) (b:=.bool b) (by simp) (by simp);split at h
  ·have m:=YE (o _ rfl);cases op<;>simp only[PV.holds]at h<;>
    first
     |exact⟨_,g.bind (by simp only[binOp,FD];exact(acp m _ a b).bind .pure),h⟩
     |exact h.elim
  ·exact h.elim
 ·rename_i a b;cases hy:aaT y with
  |true=>
   rw[hy]at h;obtain⟨r,i,f⟩:=h;exact⟨_,i,f⟩
  |false=>
   rw[hy]at h;cases b with
   |some _=>exact h.elim
   |none=>
    have g:=j (a:=.pointer a) (b:=.pointer none) (by simp) (by simp);simp only[cond_false]at h;split at h
    ·rename_i e;have m:=aco (o _ rfl);cases op<;>simp only[PV.holds]at h<;>
      first
       |exact⟨_,g.bind (by simp only[binOp,FD];exact(adF m _ a).bind .pure),h⟩
       |exact h.elim
    ·exact h.elim
 ·rename_i a l c p s;have g:=j (a:=.slice a l c) (b:=.slice none p s) (by simp) (by simp);split at h
  ·rename_i e;have m:=jo (o _ rfl);cases op<;>simp only[PV.holds]at h<;>
    first
     |exact⟨_,g.bind (by simp only[binOp,FD];exact(YF m _ a l c p s).bind .pure),h⟩
     |exact h.elim
  ·exact h.elim
 ·obtain⟨r,i,f⟩:=h;exact⟨_,i,f⟩
 ·split at h
  ·obtain⟨r,i,f⟩:=h;exact⟨_,i,f⟩
  ·obtain⟨r,i,f⟩:=h;exact⟨_,i,f⟩
  ·obtain⟨r,i,f⟩:=h;exact⟨_,i,f⟩
 ·exact h.elim
theorem Sw{t:TypeId}{d:Option nc}{op:BinOp}{a b:Value}{x y:Operand}{K:Value->Prop}(f:∀q,d=some q->iP (P.underlying t)=q)
  (h:(YD P t x y d op a b).holds K):∃v,aH P (do eqGuard op t x y a b;binOp op t a b) v/\K v:=by
 unfold YD at h;split at h
 ·obtain⟨r,e,c⟩:=h;exact⟨_,e,c⟩
 ·exact Sv f h
theorem LZ(a:List Value)(off n:Nat):((a.drop off).take n).toArray=(a.toArray).extract off (off+n):=by apply yD;simp[List.extract_eq_take_drop]
variable {e:Operand->Value}
section
variable {C:Ai} {ev:Operand->Option Value}
theorem sQ(b:C.Ok):∀{a:List Field} {ps:List (Nat×Nat)},placesOf C.T (a.map λf=>(f.offset,f.type))=some ps->
  aH C.P (a.mapM λf=>(do pure (f.offset,<-sizeOf f.type):Sem (Nat×Nat))) ps
 |[],ps,h=>by cases h;exact .pure
 |f::r,ps,h=>by
  simp only[List.map_cons,placesOf]at h;split at h
  ·rename_i j c;split at h
   ·rename_i e d;cases h;rw[List.mapM_cons];exact aH.bind ((dT b c).bind .pure) ((sQ b d).bind .pure)
   ·cases h
  ·cases h
theorem Fa(h:C.Ok){t:TypeId}{j:TI}(f:C.T.get t=some j)(d:∀b,j.cz≠.struct b)(c:∀n e,j.cz≠.array n e)(h3:j.cz≠.other)
  {a:Array Value} {off:Nat} {v:Value} (g:a[off]?=some v):aH C.P (part t a off) v:=by
 refine((kO h f).2.2 d c h3).bind ?_;rw[g];exact .pure
theorem Ma(c:C.Ok){t:TypeId}{j:TI}(b:C.T.get t=some j)(h:(∃a,j.cz=.struct a)∨∃n e,j.cz=.array n e)
  {d:Array Value} {off:Nat}:aH C.P (part t d off) (.agg (d.extract off (off+j.size))):=by
 have f:aH C.P (isAgg t) true:=by
  rcases h with⟨a,h⟩|⟨n,e,h⟩
  ·exact(kO c b).1 a h
  ·exact(kO c b).2.1 n e h
 exact f.bind ((dT c b).bind .pure)
theorem GH(I:C.Ok)(G:∀x v,ev x=some v->e x=v){o:Oper}{K:Value->Prop}(h:(Aj C.P C.T o.op ev).holds K):
  ∃v,pZ C.P (execOp e o) v/\K v:=by
 have M:∀t q,(C.T.get t).map (·.cz)=some q->iP (C.P.underlying t)=q:=λt q h=>by
  cases F:C.T.get t with
  |none=>rw[F]at h;cases h
  |some i=>rw[F]at h;cases h;exact I.cz F
 cases hop:o.op<;>rw[hop]at h<;>simp only[Aj]at h<;>simp only[execOp,hop]
 case move x=>
  split at h
  ·rename_i v A;rw[G _ _ A];exact⟨v,λ_=>rfl,h⟩
  ·exact h.elim
 case assign x=>
  split at h
  ·rename_i v A;rw[G _ _ A];exact⟨v,λ_=>rfl,h⟩
  ·exact h.elim
 case pick c a b=>
  split at h
  ·rename_i t x y O h2 h3;rw[G _ _ O,G _ _ h2,G _ _ h3];cases t
   ·exact⟨y,λ_=>rfl,h⟩
   ·exact⟨x,λ_=>rfl,h⟩
  ·exact h.elim
 case nilCheck x=>
  split at h
  ·rename_i p hp;obtain⟨a,rfl,B⟩:=h;rw[G _ _ hp];exact⟨_,λ_=>rfl,B⟩
  ·exact h.elim
 case fieldAddr s x f=>
  split at h
  ·rename_i a ha;rw[G _ _ ha];split at h
   ·rename_i i F;split at h
    ·rename_i fs X;split at h
     ·rename_i off t al;split at h
      ·rename_i j R;cases hz:wJ j.size 0 with
       |true=>rw[hz]at h;exact h.elim
       |false=>
        rw[hz]at h;have E:=I.cz F;rw[X]at E;obtain⟨gs,hg,rfl⟩:=ou E;simp only[qL,vl]at al;obtain⟨g,ay,ao⟩:=al;cases ao;refine⟨_,aH.next ((aG hg).bind ?_),h⟩;have ad:gs[f]?=some g:=by simpa using ay
        simp only[ad];refine aH.bind (v:=a) .pure (aH.bind (v:=a.add g.offset) ?_ .pure);unfold fieldPlace;refine(dT I R).bind ?_;have:j.size≠0:=λe=>by rw[e]at hz;cases hz
        rw[if_neg this];exact .pure
      ·exact h.elim
     ·exact h.elim
    ·exact h.elim
   ·exact h.elim
  ·exact h.elim
 case indexAddr t x ix=>
  split at h
  ·rename_i k n hn;rw[G _ _ hn];split at h
   ·rename_i p len cap S;rw[G _ _ S];split at h
    ·rename_i i F;split at h
     ·rename_i el D;split at h
      ·rename_i j R;obtain⟨a,⟨rfl,h0,O⟩,B⟩:=h;have E:=I.cz F;rw[D]at E;have H:=jo E;refine⟨_,aH.next ?_,B⟩;unfold Instr.indexAt;refine aH.bind (v:=(k,n)) .pure ?_;refine(aG H).bind ?_;refine aH.bind (v:=(some a,len,el)) .pure ?_;intro w;have:=dT I R w;simp only[Sem.run_bind,aG H w,Result.andThen_ok];cases hl:decide (len<=1)<;>simp[h0,O,this]
      ·exact h.elim
     ·exact h.elim
    ·exact h.elim
   ·rename_i a S;rw[G _ _ S];split at h
    ·rename_i i F;split at h
     ·rename_i m el D;split at h
      ·rename_i j R;obtain⟨⟨h0,O⟩,B⟩:=h;have E:=I.cz F;rw[D]at E;have H:=rc E;refine⟨_,aH.next ?_,B⟩;unfold Instr.indexAt;refine aH.bind (v:=(k,n)) .pure ?_;refine(aG H).bind ?_;refine aH.bind (v:=(some a,m,el)) .pure ?_;intro w;have:=dT I R w;simp only[Sem.run_bind,aG H w,Result.andThen_ok];cases hl:decide (m<=1)<;>simp[h0,O,this]
      ·exact h.elim
     ·exact h.elim
    ·exact h.elim
   ·exact h.elim
  ·exact h.elim
 case index t x ix=>
  split at h
  ·rename_i k n hn;rw[G _ _ hn];split at h
   ·rename_i s S;rw[G _ _ S];split at h
    ·rename_i i F;split at h
     ·rename_i D;obtain⟨b,⟨h0,O⟩,B⟩:=h;have E:=I.cz F;rw[D]at E;have H:=sG E;refine⟨_,aH.next ?_,B⟩;unfold Instr.index;refine aH.bind (v:=(k,n)) .pure ?_;refine(aG H).bind ?_;have hb:s[n.toNat]?=some b:=by rw[Array.getElem?_eq_some_iff]at O;obtain⟨bk,hg⟩:=O;have a4:n.toNat<s.size:=bk;rw[getElem?_pos s n.toNat a4];exact congrArg some hg
      simp only[h0,if_true,hb];exact .pure
     ·exact h.elim
    ·exact h.elim
   ·rename_i cs S;rw[G _ _ S];split at h
    ·rename_i i F;split at h
     ·rename_i m el D;split at h
      ·rename_i j R;split at h
       ·rename_i s hs;have E:=I.cz F;rw[D]at E;have H:=rc E;have ah:(∃y,(0<=n/\n<(m:Int)/\cs[n.toNat]?=some (s.enc y))/\K (s.enc y))->(∀fs,j.cz≠.struct fs)->(∀n e,j.cz≠.array n e)->j.cz≠.other->j.size=1->
          ∃v,pZ C.P (do pure (.value (<-Instr.index t (.agg cs) (.int k n)))) v/\K v:=by
         rintro⟨y,⟨h0,O,h2⟩,B⟩ d1 d2 d3 a6;refine⟨_,aH.next ?_,B⟩;unfold Instr.index;refine aH.bind (v:=(k,n)) .pure ?_;refine(aG H).bind ?_;simp only[h0,O,and_self,if_true];refine(dT I R).bind ?_;rw[a6,Nat.mul_one];exact Fa I R d1 d2 d3 h2
        split at h
        ·exact h.elim
        ·exact h.elim
        ·exact h.elim
        ·rename_i d1 d2 d3;cases hz:wJ j.size 1 with
         |false=>rw[hz]at h;exact h.elim
         |true=>
          rw[hz]at h;exact ah h d1 d2 d3 (zI hz)
       ·exact h.elim
      ·exact h.elim
     ·exact h.elim
    ·exact h.elim
   ·exact h.elim
  ·exact h.elim
 case field s x f=>
  split at h
  ·rename_i cs S;rw[G _ _ S];split at h
   ·rename_i i F;split at h
    ·rename_i fs X;split at h
     ·rename_i off t al;split at h
      ·rename_i j R;have E:=I.cz F;rw[X]at E;obtain⟨gs,hg,rfl⟩:=ou E;simp only[qL,vl]at al;obtain⟨g,ay,ao⟩:=al;cases ao;have ad:gs[f]?=some g:=by simpa using ay
       have ah:∀v,aH C.P (part g.type ⟨cs⟩ g.offset) v->K v->∃v,pZ C.P (do pure (.value (<-Instr.field s (.agg ⟨cs⟩) f))) v/\K v:=by intro v A B;refine⟨v,aH.next ((aG hg).bind ?_),B⟩;simp only[ad];exact aH.bind (v:=(⟨cs⟩:Array Value)) .pure A
       split at h
       ·rename_i bq ap;refine ah _ (Ma I R (.inl ⟨_,ap⟩)) ?_;rw[<-LZ];exact h
       ·rename_i n' e' ap;refine ah _ (Ma I R (.inr ⟨_,_,ap⟩)) ?_;rw[<-LZ];exact h
       ·exact h.elim
       ·rename_i d1 d2 d3;split at h
        ·rename_i v A;exact ah v (Fa I R d1 d2 d3 (by simpa using A)) h
        ·exact h.elim
      ·exact h.elim
     ·exact h.elim
    ·exact h.elim
   ·exact h.elim
  ·exact h.elim
 case slice t x W hi0 mx=>
  split at h
  ·exact h.elim
  ·split at h
   ·rename_i l r hl hr;have ar:(W=none/\l=none)∨∃y k m,W=some y/\e y=.int k m/\l=some m:=by
     cases W with
     |none=>cases hl;exact .inl ⟨rfl,rfl⟩
     |some y=>
      simp only[GG]at hl;split at hl
      ·rename_i k m hm;cases hl;exact .inr ⟨y,k,m,rfl,G _ _ hm,rfl⟩
      ·cases hl
    have ax:(hi0=none/\r=none)∨∃y k m,hi0=some y/\e y=.int k m/\r=some m:=by
     cases hi0 with
     |none=>cases hr;exact .inl ⟨rfl,rfl⟩
     |some y=>
      simp only[GG]at hr;split at hr
      ·rename_i k m hm;cases hr;exact .inr ⟨y,k,m,rfl,G _ _ hm,rfl⟩
      ·cases hr
    have J:∀(bb:Bool) (len cap:Nat) (W F:Option Value) (a b:Nat),(W=none->a=0)->(∀v,W=some v->∃k m,v=.int k m/\0<=m/\a=m.toNat/\m<=(b:Int))->
      (F=none->b=len)->(∀v,F=some v->∃k m,v=.int k m/\0<=m/\b=m.toNat/\m<=(cap:Int))->
      aH C.P (wE bb len cap W F none) (a,b,cap):=by
     intro bb len cap W F a b O h2 h3 h4 w;cases F with
     |none=>
      have e1:=h3 rfl;subst e1;cases W with
      |none=>rw[O rfl];simp[wE]
      |some v=>
       obtain⟨k,m,rfl,x1,rfl,x2⟩:=h2 v rfl;simp[wE,xf,asIntOf,x1,x2]
     |some u=>
      obtain⟨k',V,rfl,y1,rfl,y2⟩:=h4 u rfl;cases W with
      |none=>rw[O rfl];simp[wE,xf,asIntOf,y1,y2]
      |some v=>
       obtain⟨k,m,rfl,x1,rfl,x2⟩:=h2 v rfl;have x3:¬max V 0<m:=by omega
       simp[wE,xf,asIntOf,x1,y1,y2,x3]
    split at h
    ·rename_i p len cap S;rw[G _ _ S];split at h
     ·rename_i i F;split at h
      ·rename_i el D;split at h
       ·rename_i j R;have E:=I.cz F;rw[D]at E;have H:=jo E;have fin:∀(a b:Nat) (v:Value),aH C.P (wE true len cap (W.map e) (hi0.map e) none) (a,b,cap)->
          v=.slice (if cap=a then p else p.map (·.add (a*j.size))) (b-a) (cap-a)->K v->
          ∃v,pZ C.P (do pure (.value (<-yu t (.slice p len cap) (W.map e) (hi0.map e) (Option.map e none)))) v/\K v:=by
         intro a b v hb A B;refine⟨v,aH.next ?_,B⟩;unfold yu;refine(aG H).bind ?_;simp only[xE,Option.map_none];refine(aG H).bind ?_;refine hb.bind ?_;subst A;exact(dT I R).bind .pure
        have ab:(if cap=0 then p else p.map (·.add (0*j.size)))=p:=by
         cases p<;>simp[Addr.add]
        rcases ar with⟨rfl,rfl⟩|⟨y,k,m,rfl,hy,rfl⟩<;>rcases ax with⟨rfl,rfl⟩|⟨y',k',V,rfl,hy',rfl⟩
        ·exact fin 0 len _ (J _ _ _ _ _ _ _ (λ_=>rfl) (by simp) (λ_=>rfl) (by simp)) (by rw[ab];rfl) h
        ·obtain⟨⟨U,Z⟩,B⟩:=h;exact fin 0 V.toNat _ (J _ _ _ _ _ _ _ (λ_=>rfl) (by simp) (by simp) λv A=>by cases A;exact⟨k',V,hy',U,rfl,Z⟩) (by rw[ab];rfl) B
        ·obtain⟨⟨U,Z⟩,B⟩:=h;exact fin m.toNat len _ (J _ _ _ _ _ _ _ (by simp) (λv A=>by cases A;exact⟨k,m,hy,U,rfl,Z⟩) (λ_=>rfl) (by simp)) rfl B
        ·obtain⟨⟨U,Z,a3⟩,B⟩:=h;exact fin m.toNat V.toNat _ (J _ _ _ _ _ _ _ (by simp) (λv A=>by cases A;exact⟨k,m,hy,U,rfl,by omega⟩) (by simp) λv A=>by cases A;exact⟨k',V,hy',by omega,rfl,a3⟩) rfl B
       ·exact h.elim
      ·exact h.elim
     ·exact h.elim
    ·rename_i s S;rw[G _ _ S];split at h
     ·rename_i i F;split at h
      ·rename_i D;have E:=I.cz F;rw[D]at E;have H:=sG E;have fin:∀(a b:Nat) (v:Value),aH C.P (wE false s.size s.size (W.map e) (hi0.map e) none) (a,b,s.size)->
         v=.string (s.extract a b)->K v->
         ∃v,pZ C.P (do pure (.value (<-yu t (.string s) (W.map e) (hi0.map e) (Option.map e none)))) v/\K v:=by
        intro a b v hb A B;refine⟨v,aH.next ?_,B⟩;unfold yu;refine(aG H).bind ?_;simp only[xE,Option.map_none];refine(aG H).bind ?_;subst A;intro w;simp[hb w]
       rcases ar with⟨rfl,rfl⟩|⟨y,k,m,rfl,hy,rfl⟩<;>rcases ax with⟨rfl,rfl⟩|⟨y',k',V,rfl,hy',rfl⟩
       ·exact fin 0 s.size _ (J _ _ _ _ _ _ _ (λ_=>rfl) (by simp) (λ_=>rfl) (by simp)) rfl h
       ·obtain⟨⟨U,Z⟩,B⟩:=h;exact fin 0 V.toNat _ (J _ _ _ _ _ _ _ (λ_=>rfl) (by simp) (by simp) λv A=>by cases A;exact⟨k',V,hy',U,rfl,Z⟩) rfl B
       ·obtain⟨⟨U,Z⟩,B⟩:=h;exact fin m.toNat s.size _ (J _ _ _ _ _ _ _ (by simp) (λv A=>by cases A;exact⟨k,m,hy,U,rfl,Z⟩) (λ_=>rfl) (by simp)) rfl B
       ·obtain⟨⟨U,Z,a3⟩,B⟩:=h;exact fin m.toNat V.toNat _ (J _ _ _ _ _ _ _ (by simp) (λv A=>by cases A;exact⟨k,m,hy,U,rfl,by omega⟩) (by simp) λv A=>by cases A;exact⟨k',V,hy',by omega,rfl,a3⟩) rfl B
      ·exact h.elim
     ·exact h.elim
    ·rename_i a S;rw[G _ _ S];split at h
     ·rename_i i F;split at h
      ·rename_i n el D;split at h
       ·rename_i j R;have E:=I.cz F;rw[D]at E;have H:=rc E;have fin:∀(a' b:Nat) (v:Value),aH C.P (wE false n n (W.map e) (hi0.map e) none) (a',b,n)->
          v=.slice (some (if n=a' then a else a.add (a'*j.size))) (b-a') (n-a')->K v->
          ∃v,pZ C.P (do pure (.value (<-yu t (.pointer (some a)) (W.map e) (hi0.map e) (Option.map e none)))) v/\K v:=by
         intro a' b v hb A B;refine⟨v,aH.next ?_,B⟩;unfold yu;refine(aG H).bind ?_;simp only[Option.map_none];refine aH.bind (v:=a) .pure ?_;refine hb.bind ?_;subst A;exact(dT I R).bind .pure
        have ab:(if n=0 then a else a.add (0*j.size))=a:=by simp[Addr.add]
        rcases ar with⟨rfl,rfl⟩|⟨y,k,m,rfl,hy,rfl⟩<;>rcases ax with⟨rfl,rfl⟩|⟨y',k',V,rfl,hy',rfl⟩
        ·exact fin 0 n _ (J _ _ _ _ _ _ _ (λ_=>rfl) (by simp) (λ_=>rfl) (by simp)) (by rw[ab];rfl) h
        ·obtain⟨⟨U,Z⟩,B⟩:=h;exact fin 0 V.toNat _ (J _ _ _ _ _ _ _ (λ_=>rfl) (by simp) (by simp) λv A=>by cases A;exact⟨k',V,hy',U,rfl,Z⟩) (by rw[ab];rfl) B
        ·obtain⟨⟨U,Z⟩,B⟩:=h;exact fin m.toNat n _ (J _ _ _ _ _ _ _ (by simp) (λv A=>by cases A;exact⟨k,m,hy,U,rfl,Z⟩) (λ_=>rfl) (by simp)) rfl B
        ·obtain⟨⟨U,Z,a3⟩,B⟩:=h;exact fin m.toNat V.toNat _ (J _ _ _ _ _ _ _ (by simp) (λv A=>by cases A;exact⟨k,m,hy,U,rfl,by omega⟩) (by simp) λv A=>by cases A;exact⟨k',V,hy',by omega,rfl,a3⟩) rfl B
       ·exact h.elim
      ·exact h.elim
     ·exact h.elim
    ·exact h.elim
   ·exact h.elim
 case extract x n=>
  split at h
  ·rename_i vs S;rw[G _ _ S];split at h
   ·rename_i v A;refine⟨v,aH.next ?_,h⟩;have:(⟨vs⟩:Array Value)[n]?=some v:=by simpa using A
    simp only[Instr.extract,this];exact .pure
   ·exact h.elim
  ·exact h.elim
 case binOp op t x y u=>
  split at h
  ·rename_i a b ha hb;rw[G _ _ ha,G _ _ hb];obtain⟨v,A,B⟩:=Sw (P:=C.P) (x:=x) (y:=y) (M t) h;exact⟨v,A.next,B⟩
  ·exact h.elim
 case unOp op t x=>
  split at h
  ·rename_i v A;rw[G _ _ A];unfold unV at h;split at h
   ·split at h
    ·exact⟨_,aH.next .pure,h⟩
    ·exact h.elim
   ·split at h
    ·exact⟨_,aH.next .pure,h⟩
    ·exact⟨_,aH.next .pure,h⟩
    ·exact h.elim
   ·exact h.elim
  ·exact h.elim
 case convert s d x=>
  split at h
  ·rename_i v ks A bd;rw[G _ _ A];have hs:=Es (M _ _ bd);unfold aaU at h;split at h
   ·split at h
    ·rename_i n _ k B;have H:=Es (M _ _ B);refine⟨_,aH.next ?_,h⟩;unfold convert;refine(aG hs).bind ((aG H).bind ?_);exact .pure
    ·exact h.elim
   ·exact h.elim
  ·exact h.elim
 case build t parts=>
  split at h
  ·rename_i vs bl;have hp:(parts.map λ(i,x)=>(i,e x)).toList=vs:=by have:=EZ G bl;simpa using this
   split at h
   ·rename_i i F;obtain⟨z,hz,a9⟩:=pM I F;have am:i.zero.toArray=z.cells:=by rw[<-a9]
    cases hbig:xk 24 i.size with
    |true=>
     rw[hbig]at h;obtain⟨v,A,B⟩:=h;have a5:(parts.map λ(i,x)=>(i,e x))=vs.toArray:=by rw[<-hp]
     refine⟨v,aH.next ?_,B⟩;show aH C.P (xv t (parts.map λ(i,x)=>(i,e x))) v;rw[a5];exact A
    |false=>
    rw[hbig]at h;simp only[cond_false]at h;split at h
    ·rename_i fs X;have E:=I.cz F;rw[X]at E;obtain⟨gs,hg,rfl⟩:=ou E;split at h
     ·rename_i ps a8;split at h
      ·rename_i cells N;refine⟨_,aH.next (hz.bind ((aG hg).bind ?_)),h⟩;have a7:aH C.P (gs.mapM λf=>(do pure (f.offset,<-sizeOf f.type):Sem (Nat×Nat))) ps.toArray:=by rw[vC];intro w;have:=sQ I a8 w;rw[map_eq_pure_bind,Sem.run_bind,this];rfl
       refine a7.bind ?_;have a0:wC (λn=>ps.toArray[n]?) z.cells (parts.map λ(i,x)=>(i,e x)).toList=some cells:=by rw[hp,<-am];simpa using N
       rw[a0];exact .pure
      ·exact h.elim
     ·exact h.elim
    ·rename_i n el X;have E:=I.cz F;rw[X]at E;have H:=rc E;split at h
     ·rename_i j R;split at h
      ·rename_i cells N;refine⟨_,aH.next (hz.bind ((aG H).bind ((dT I R).bind ?_))),h⟩;have a0:wC (λi=>some (i*j.size,j.size)) z.cells (parts.map λ(i,x)=>(i,e x)).toList=some cells:=by rw[hp,<-am];exact N
       rw[a0];exact .pure
      ·exact h.elim
     ·exact h.elim
    ·exact h.elim
   ·exact h.elim
  ·exact h.elim
 case makeFunc fn first captured=>
  split at h
  ·rename_i a b ha hb;have O:first.map e=a.toArray:=by apply yD;simpa using AO G ha
   have h2:captured.map e=b.toArray:=by apply yD;simpa using AO G hb
   refine⟨_,aH.next ?_,h⟩;rw[O,h2];exact .pure
  ·exact h.elim
 case call c=>
  split at h
  ·rename_i b hb;have L:∀{v:Value},aH C.P (builtin b c.argTypes o.type (c.args.map λ| .const _=>true|_=>false) (c.args.map e)) (.value v)->
     pZ C.P (do let d<-resolve e c o.type;invoke d.target d.args) v:=by
    intro v A w;have:=A w;unfold resolve;rw[hb];exact this
   have Q:∀{vs:List Value},pd ev c.args.toList=some vs->c.args.map e=vs.toArray:=λA=>by
    apply yD;simpa using AO G A
   have Y:∀{s:Sem Value} {v:Value},aH C.P s v->aH C.P (do pure (Next.value (<-s))) (.value v):=λhs=>hs.bind .pure;split at h
   case h_1=>
    split at h
    ·rename_i t ts x O h2;split at h
     ·rename_i v A;have ha:c.args.map e=#[v]:=by apply yD;rw[xg,h2];simp[G _ _ A]
      have ht:c.argTypes[0]?=some t:=by rw[<-vZ,O];rfl
      unfold adD at h;split at h
      ·rename_i p n cap;split at h
       ·rename_i el D;have H:=jo (M _ _ D);refine⟨_,L ?_,h⟩;rw[ha];refine Y ?_;intro w;simp[xA,ht,underlying,H,goInt]
       ·exact h.elim
      ·rename_i s;split at h
       ·rename_i D;have H:=sG (M _ _ D);refine⟨_,L ?_,h⟩;rw[ha];refine Y ?_;intro w;simp[xA,ht,underlying,H,goInt]
       ·exact h.elim
      ·exact h.elim
     ·exact h.elim
    ·exact h.elim
   case h_2=>
    split at h
    ·rename_i t ts x O h2;split at h
     ·rename_i v A;have ha:c.args.map e=#[v]:=by apply yD;rw[xg,h2];simp[G _ _ A]
      have ht:c.argTypes[0]?=some t:=by rw[<-vZ,O];rfl
      unfold adE at h;split at h
      ·rename_i p n cap;split at h
       ·rename_i el D;have H:=jo (M _ _ D);refine⟨_,L ?_,h⟩;rw[ha];refine Y ?_;intro w;simp[Builtin.cap_,ht,underlying,H,goInt]
       ·exact h.elim
      ·exact h.elim
     ·exact h.elim
    ·exact h.elim
   case h_3=>
    split at h
    ·rename_i k a k' b A;refine⟨_,L ?_,h⟩;rw[Q A];refine Y ?_;intro w;simp[Builtin.min_,Builtin.min2]
    ·exact h.elim
   case h_4=>
    split at h
    ·rename_i k a k' b A;refine⟨_,L ?_,h⟩;rw[Q A];refine Y ?_;intro w;simp[Builtin.max_,Builtin.max2]
    ·exact h.elim
   case h_5=>
    split at h
    ·rename_i k a b A;refine⟨_,L ?_,h⟩;rw[Q A];exact Y .pure
    ·exact h.elim
   case h_6=>
    split at h
    ·rename_i k a b A;refine⟨_,L ?_,h⟩;rw[Q A];exact Y .pure
    ·exact h.elim
   all_goals exact h.elim
  ·exact h.elim
 all_goals exact h.elim
end
def bp(h:Heap)(a:Addr):Nat->List Value->Prop
 |_,[]=>True
 |n,v::r=>cellOf h (a.add n)=some v/\bp h a (n+1) r
structure uq where
 a:Addr
 ty:Ty
 n:Nat
def uq.holds(r:uq)(h:Heap)(y:r.ty.den):Prop:=
 match r.ty,y with
 | .sc s,y=>cellOf h r.a=some (s.enc y)
 | .agg l,y=>bp h r.a 0 (nf l y)
 | .arr s,y=>y.length=r.n/\bp h r.a 0 (y.map s.enc)
def sS(T:jX)(op:Op)(ev:Operand->Option Value):Option uq:=
 match op with
 | .load t x=>match ev x with
  |some (.pointer (some a))=>match T.get t with
   |some i=>match i.cz with
    | .struct _=>match i.ty with
     | .agg l=>bif wJ l.length i.size then some ⟨a,i.ty,i.size⟩else none
     |_=>none
    | .array _ _=>match i.ty with
     | .arr _=>some ⟨a,i.ty,i.size⟩
     |_=>none
    | .other=>none
    |_=>match i.ty with
     | .sc _=>some ⟨a,i.ty,1⟩
     |_=>none
   |none=>none
  |_=>none
 |_=>none
theorem Fb:∀(l:List Sc) (x:uY l),(nf l x).length=l.length
 |[],_=>rfl
 |[_],_=>rfl
 |_::t::r,x=>by simp only[nf,zh];rw[Fb (t::r) x.2];rfl
theorem run_loadCells{P:Program}{w:World}{a:Addr}:∀(vs:List Value) (i:Nat) (b:Array Value),bp w.heap a i vs->
  (loadCellsFrom a i vs.length b).run P w=.ok (b++vs.toArray) w
 |[],i,b,_=>by simp[loadCellsFrom]
 |v::r,i,b,h=>by
  simp only[zh,loadCellsFrom,Sem.run_bind,run_load,IQ,h.1,Result.andThen_ok];rw[run_loadCells r (i+1) (b.push v) h.2];simp
theorem AP{C:Ai}(k:C.Ok){ev:Operand->Option Value}{e:Operand->Value}(H:∀x v,ev x=some v->e x=v){o:Oper}{r:uq}
  (b:sS C.T o.op ev=some r) {y:r.ty.den} {w:World} (d:r.holds w.heap y):(execOp e o).run C.P w=.ok (.value (r.ty.enc y)) w:=by
 unfold sS at b;split at b
 ·rename_i t x u;simp only[execOp,u];split at b
  ·rename_i a B;rw[H _ _ B];split at b
   ·rename_i i p;have f:(∀v,(loadVar t a).run C.P w=.ok v w->(do let s<-xr t (.pointer (some a));pure (Next.value s):Sem Next).run C.P w=.ok (.value v) w):=by intro v F;have:xr t (.pointer (some a))=loadVar t a:=rfl;rw[this,Sem.run_bind,F];rfl
    split at b
    ·rename_i z h;split at b
     ·rename_i l g;cases hb:wJ l.length i.size with
      |false=>rw[hb]at b;cases b
      |true=>
       rw[hb]at b;simp only[cond_true,zQ.injEq]at b;subst b;have j:=zI hb;have c:∀(ty:Ty) (y:ty.den),ty=.agg l->uq.holds ⟨a,ty,i.size⟩ w.heap y->(loadVar t a).run C.P w=.ok (ty.enc y) w:=by rintro ty y rfl d;unfold loadVar;rw[Sem.run_bind,(kO k p).1 z h w];simp only[Result.andThen_ok,if_true,Sem.run_bind,dT k p w];have m:=run_loadCells (P:=C.P) (w:=w) (a:=a) (nf l y) 0 #[] d;rw[Fb,j]at m;unfold loadCells;rw[m];simp
       exact f _ (c i.ty y g d)
     ·cases b
    ·rename_i n E h;split at b
     ·rename_i s g;cases b;have c:∀(ty:Ty) (y:ty.den),ty=.arr s->uq.holds ⟨a,ty,i.size⟩ w.heap y->(loadVar t a).run C.P w=.ok (ty.enc y) w:=by rintro ty y rfl ⟨g,d⟩;unfold loadVar;rw[Sem.run_bind,(kO k p).2.1 n E h w];simp only[Result.andThen_ok,if_true,Sem.run_bind,dT k p w];have m:=run_loadCells (P:=C.P) (w:=w) (a:=a) (y.map s.enc) 0 #[] d;rw[List.length_map,g]at m;unfold loadCells;rw[m];simp
      exact f _ (c i.ty y g d)
     ·cases b
    ·cases b
    ·rename_i A G D;split at b
     ·rename_i s g;cases b;have c:∀(ty:Ty) (y:ty.den),ty=.sc s->uq.holds ⟨a,ty,1⟩ w.heap y->(loadVar t a).run C.P w=.ok (ty.enc y) w:=by rintro ty y rfl d;have q:cellOf w.heap a=some (s.enc y):=d;unfold loadVar;rw[Sem.run_bind,(kO k p).2.2 A G D w];simp[IQ,q]
      exact f _ (c i.ty y g d)
     ·cases b
   ·cases b
  ·cases b
 ·cases b
def Typed(t:Ty)(K:Value->Heap->Prop)(v:Value)(h:Heap):Prop:=∃x:t.den,v=t.enc x/\K (t.enc x) h
def GI(t:Rt)(K:Value->Heap->Prop)(v:Value)(h:Heap):Prop:=∃x:t.den,v=t.enc x/\K (t.enc x) h
def GJ(K:Value->Heap->Prop)(v:Value)(h:Heap):Prop:=∃a:Addr,v=.pointer (some a)/\K (.pointer (some a)) h
def adG(T:jX)(t:TypeId)(tup:List (TypeId×List Ty)):Option Rt:=
 match tup.find? (λp=>wJ p.1 t)with
 |some p=>some (.many p.2)
 |none=>match T.get t with
  |some i=>some (.one i.ty)
  |none=>none
structure Ctx extends Ai where
 tup:List (TypeId×List Ty)
 fns:List Bool
structure Ctx.Ok (C:Ctx):Prop extends Ai.Ok C.toAi where
 fns:(C.P.funcs.toList.map λf=>!(f.name== "runtime.NumGoroutine")&&f.body.isSome)=C.fns
def Sx(C:Ctx)(g:FuncId)(args:List Value)(t:TypeId)(K:Value->Heap->Prop)(h:Heap):Prop:=
 match C.fns[g]? with
 |some true=>match adG C.T t C.tup with
  |some r=>an C.P g args.toArray h (GI r K)
  |none=>False
 |_=>False
def GK(C:Ctx)(o:Oper)(ev:Operand->Option Value)(K:Value->Heap->Prop)(h:Heap):Prop:=
 match o.op with
 | .store t a x=>match ev a,ev x with
  |some p,some v=>au C.P (qE t p v) h λ_ h'=>K undef h'
  |_,_=>False
 | .alloc t=>au C.P (yJ t true (.tuple #[])) h (GJ K)
 | .box t x=>match ev x with
  |some v=>au C.P (vQ t v) h (GJ K)
  |none=>False
 | .makeSlice t l c=>match ev l,ev c with
  |some l,some c=>au C.P (zw t l c) h (Typed (.sc .slc) K)
  |_,_=>False
 | .buildSlice t n parts=>match Cu ev parts.toList with
  |some ps=>au C.P (zL t n ps.toArray) h (Typed (.sc .slc) K)
  |none=>False
 | .makeMap t none=>au C.P (xl t none) h (Typed (.sc .mp) K)
 | .lookup t x ix ok=>match ev x,ev ix,adG C.T o.type C.tup with
  |some m,some k,some r=>au C.P (xB t m k ok) h (GI r K)
  |_,_,_=>False
 | .mapUpdate t m k x=>match ev m,ev k,ev x with
  |some m,some k,some v=>au C.P (yY t m k v) h λ_ h'=>K undef h'
  |_,_,_=>False
 | .insert t m k x=>match ev m,ev k,ev x with
  |some m,some k,some v=>au C.P (yY t m k v) h λ_ h'=>K undef h'
  |_,_,_=>False
 | .convert s d x=>match ev x,C.T.get o.type with
  |some v,some i=>au C.P (convert s d v) h (Typed i.ty K)
  |_,_=>False
 | .binOp op t x y _=>match ev x,ev y,C.T.get o.type with
  |some a,some b,some i=>au C.P (do eqGuard op t x y a b;binOp op t a b) h (Typed i.ty K)
  |some a,some b,none=>au C.P (do eqGuard op t x y a b;binOp op t a b) h (Typed (.sc .bool) K)
  |_,_,_=>False
 | .slice t x lo hi mx=>match optVal ev lo,optVal ev hi,optVal ev mx,ev x with
  |some l,some r,some m,some v=>au C.P (yu t v l r m) h (Typed (.sc .slc) K)
  |_,_,_,_=>False
 | .call c=>match c.callee with
  | .builtin .append=>match pd ev c.args.toList with
   |some vs=>au C.P (zD c.argTypes o.type vs.toArray) h (Typed (.sc .slc) K)
   |none=>False
  | .builtin .copy=>match pd ev c.args.toList with
   |some vs=>au C.P (yc c.argTypes o.type vs.toArray) h (Typed (.sc (.int .i64)) K)
   |none=>False
  | .builtin .clear=>match pd ev c.args.toList with
   |some vs=>au C.P (vS c.argTypes o.type vs.toArray) h K
   |none=>False
  | .builtin .len=>match pd ev c.args.toList with
   |some vs=>au C.P (xA c.argTypes o.type vs.toArray) h (Typed (.sc (.int .i64)) K)
   |none=>False
  | .builtin .unsafeString=>match pd ev c.args.toList with
   |some vs=>au C.P (Builtin.unsafeString_ c.argTypes o.type vs.toArray) h (Typed (.sc .str) K)
   |none=>False
  | .builtin .delete=>match pd ev c.args.toList with
   |some vs=>au C.P (Builtin.delete_ c.argTypes o.type vs.toArray) h K
   |none=>False
  | .value f=>match ev f,pd ev c.args.toList with
   |some (.func (.func g) ⟨first⟩ ⟨caps⟩),some vs=>Sx C g (first++vs++caps) o.type K h
   |_,_=>False
  |_=>False
 |_=>False
where
 optVal (ev:Operand->Option Value):Option Operand->Option (Option Value)
  |none=>some none
  |some x=>match ev x with
   |some v=>some (some v)
   |none=>none
variable {K:Value->Heap->Prop}
theorem fZ{s:Sem Value}(a:au P s h K):Ag P (do pure (.value (<-s))) h K:=
 au.bind (a.mono λ_ _ b=>au.pure' b)
theorem FE{s:Sem Unit}(a:au P s h λ_ h'=>K undef h'):Ag P (do s;pure .skip) h K:=
 au.bind (a.mono λ_ _ b=>au.pure' b)
theorem Typed.out{t:Ty}{v:Value}{h:Heap}(x:Typed t K v h):K v h:=by obtain⟨y,rfl,a⟩:=x;exact a
theorem GI.out{t:Rt}{v:Value}{h:Heap}(x:GI t K v h):K v h:=by obtain⟨y,rfl,a⟩:=x;exact a
theorem GJ.out{v:Value}{h:Heap}(x:GJ K v h):K v h:=by obtain⟨y,rfl,a⟩:=x;exact a
theorem PA{C:Ctx}(e:C.Ok){g:FuncId}{args:List Value}{t:TypeId}{K:Value->Heap->Prop}{h:Heap}(b:Sx C g args t K h):
  Ag C.P (callFunc g args.toArray) h K:=by
 unfold Sx at b;split at b
 ·rename_i f;split at b
  ·rename_i r i;have a:=congrArg (·[g]?) e.fns;simp only[qL,f]at a;cases hf:C.P.funcs.toList[g]? with
   |none=>rw[hf]at a;cases a
   |some fn=>
    rw[hf]at a;simp only[qQ,zQ.injEq,qw,Bool.not_eq_true']at a;have c:C.P.funcs[g]?=some fn:=by simpa using hf
    have d:fn.body.isNone=false:=by cases hbb:fn.body<;>simp[hbb]at a⊢
    unfold callFunc;refine au.bind (au.Yz ?_);simp only[c,a.1,d];exact au.pure' (b.mono λv h' x=>x.out)
  ·exact b.elim
 ·exact b.elim
theorem Sy{C:Ctx}(Y:C.Ok){ev:Operand->Option Value}{e:Operand->Value}(A:∀x v,ev x=some v->e x=v){o:Oper}
  {K:Value->Heap->Prop} {h:Heap} (j:GK C o ev K h):Ag C.P (execOp e o) h K:=by
 have G:∀{x:Option Operand} {r:Option Value},GK.optVal ev x=some r->x.map e=r:=by
  intro x r J;cases x with
  |none=>cases J;rfl
  |some y=>
   simp only[GK.optVal]at J;split at J
   ·rename_i v B;cases J;rw[qQ,A _ _ B]
   ·cases J
 unfold GK at j;split at j
 ·rename_i t a x q;simp only[execOp,q];split at j
  ·rename_i p v S B;rw[A _ _ S,A _ _ B];exact FE j
  ·exact j.elim
 ·rename_i t q;simp only[execOp,q];exact fZ (j.mono λ_ _ x=>x.out)
 ·rename_i t x q;simp only[execOp,q];split at j
  ·rename_i v B;rw[A _ _ B];exact fZ (j.mono λ_ _ x=>x.out)
  ·exact j.elim
 ·rename_i t l c q;simp only[execOp,q];split at j
  ·rename_i v u B T;rw[A _ _ B,A _ _ T];exact fZ (j.mono λ_ _ x=>x.out)
  ·exact j.elim
 ·rename_i t n parts q;simp only[execOp,q];split at j
  ·rename_i ps O;have:(parts.map λ(i,x)=>(i,e x))=ps.toArray:=by apply yD;have:=EZ A O;simpa using this
   rw[this];exact fZ (j.mono λ_ _ x=>x.out)
  ·exact j.elim
 ·rename_i t q;simp only[execOp,q];exact fZ (j.mono λ_ _ x=>x.out)
 ·rename_i t x Z ok q;simp only[execOp,q];split at j
  ·rename_i m k r H E R;rw[A _ _ H,A _ _ E];exact fZ (j.mono λ_ _ x=>x.out)
  ·exact j.elim
 ·rename_i t m k x q;simp only[execOp,q];split at j
  ·rename_i V X v H E B;rw[A _ _ H,A _ _ E,A _ _ B];exact FE j
  ·exact j.elim
 ·rename_i t m k x q;simp only[execOp,q];split at j
  ·rename_i V X v H E B;rw[A _ _ H,A _ _ E,A _ _ B];exact FE j
  ·exact j.elim
 ·rename_i s d x q;simp only[execOp,q];split at j
  ·rename_i v i B Q;rw[A _ _ B];exact fZ (j.mono λ_ _ x=>x.out)
  ·exact j.elim
 ·rename_i op t x y u q;simp only[execOp,q];split at j
  ·rename_i a b i L M Q;rw[A _ _ L,A _ _ M];exact fZ (j.mono λ_ _ x=>x.out)
  ·rename_i a b L M Q;rw[A _ _ L,A _ _ M];exact fZ (j.mono λ_ _ x=>x.out)
  ·exact j.elim
 ·rename_i t x lo Q mx q;simp only[execOp,q];split at j
  ·rename_i l r m v U R H B;rw[G U,G R,G H,A _ _ B];exact fZ (j.mono λ_ _ x=>x.out)
  ·exact j.elim
 ·rename_i c q;simp only[execOp,q];have w:∀{vs:List Value},pd ev c.args.toList=some vs->c.args.map e=vs.toArray:=λB=>by
   apply yD;simpa using AO A B
  split at j
  ·rename_i D;split at j
   ·rename_i vs z;unfold resolve;rw[D,w z];exact fZ (j.mono λ_ _ x=>x.out)
   ·exact j.elim
  ·rename_i D;split at j
   ·rename_i vs z;unfold resolve;rw[D,w z];exact fZ (j.mono λ_ _ x=>x.out)
   ·exact j.elim
  ·rename_i D;split at j
   ·rename_i vs z;unfold resolve;rw[D,w z];exact fZ j
   ·exact j.elim
  ·rename_i D;split at j
   ·rename_i vs z;unfold resolve;rw[D,w z];exact fZ (j.mono λ_ _ x=>x.out)
   ·exact j.elim
  ·rename_i D;split at j
   ·rename_i vs z;unfold resolve;rw[D,w z];exact fZ (j.mono λ_ _ x=>x.out)
   ·exact j.elim
  ·rename_i D;split at j
   ·rename_i vs z;unfold resolve;rw[D,w z];exact fZ j
   ·exact j.elim
  ·rename_i f D;split at j
   ·rename_i g first F vs W z
    unfold resolve;rw[D,w z];simp only[A _ _ W];have:=PA Y j;have I:(⟨first⟩:Array Value)++vs.toArray++(⟨F⟩:Array Value)=(first++vs++F).toArray:=by simp
    have N:Ag C.P (callFunc g ((⟨first⟩:Array Value)++vs.toArray++(⟨F⟩:Array Value))) h K:=by rw[I];exact this
    simp only[Deferred.ofValue];exact N
   ·exact j.elim
  ·exact j.elim
 ·exact j.elim
def put(n:Nat)(a:Option Tmp)(K:Env->Heap->Prop)(ρ:Env)(v:Value)(h:Heap):Prop:=
 match a with
 |some d=>bif xk d n then K (.val d v::ρ) h else False
 |none=>K ρ h
theorem sT{n:Nat}{b:Option Tmp}{K:Env->Heap->Prop}{ρ:Env}{v:Value}{h:Heap}(c:put n b K ρ v h){a:Act}(e:Fits n a ρ):
  ∃ρ',Fits n (a.put b v) ρ'/\Ext ρ ρ' a (a.put b v)/\K ρ' h:=by
 unfold put at c;cases b with
 |none=>exact⟨ρ,e,Ext.refl _ _,c⟩
 |some d=>
  simp only at c;cases hb:xk d n with
  |false=>rw[hb]at c;exact c.elim
  |true=>rw[hb]at c;exact⟨_,e.put hb v,Ext.put v v,c⟩
def YG(C:Ctx)(n:Nat)(o:Oper)(K:Env->Heap->Prop)(ρ:Env)(h:Heap):Prop:=
 match Aj C.P C.T o.op ρ.eval with
 | .no=>match sS C.T o.op ρ.eval with
  |some r=>∃y:r.ty.den,r.holds h y/\put n o.dst K ρ (r.ty.enc y) h
  |none=>GK C o ρ.eval (put n o.dst K ρ) h
 |p=>p.holds λv=>put n o.dst K ρ v h
def GL(ops:Array Oper)(o:Oper)(ρ:Env)(a skip:Env->Prop):Prop:=
 match o.guard with
 |none=>a ρ
 |some (j,want)=>match(ops[j]?).bind (·.dst)with
  |some d=>match ρ.get d with
   |some (.bool b)=>Br b (bif want then a (.val d (.bool true)::ρ)else skip (.val d (.bool true)::ρ)) (bif want then skip (.val d (.bool false)::ρ)else a (.val d (.bool false)::ρ))
   |some (.tuple _)=>skip ρ
   |_=>False
  |none=>False
theorem Fits.known{n:Nat}{a:Act}{ρ:Env}(c:Fits n a ρ){d:Nat}{v:Value}(e:ρ.get d=some v):Fits n a (.val d v::ρ)/\Ext ρ (.val d v::ρ) a a:=by
 refine⟨⟨c.size,c.defers,λt x b=>?_⟩,⟨[.val d v],rfl,λ_ _=>rfl⟩⟩;simp only[Env.get]at b;cases hb:wJ d t with
 |false=>rw[hb]at b;exact c.get t x b
 |true=>
  rw[hb]at b;have:=zI hb;subst this;rw[cond_true]at b;exact c.get _ x (e.trans b)
theorem Fc{ops:Array Oper}{o:Oper}{ρ:Env}{g skip:Env->Prop}{n:Nat}{a:Act}(f:Fits n a ρ)(c:GL ops o ρ g skip):
  ∃ρ',Fits n a ρ'/\Ext ρ ρ' a a/\((Region.wanted o (yielded ops a.tmps)=true/\g ρ')∨(Region.wanted o (yielded ops a.tmps)=false/\skip ρ')):=by
 unfold GL at c;unfold Region.wanted;split at c
 ·rename_i l;rw[l];exact⟨ρ,f,Ext.refl _ _,.inl ⟨rfl,c⟩⟩
 ·rename_i j e l;rw[l];split at c
  ·rename_i d p;split at c
   ·rename_i b i;have m:yielded ops a.tmps j=some b:=by unfold yielded;rw[p];simp[f.get _ _ i]
    simp only[m];obtain⟨k,h⟩:=f.known i;cases b<;>cases e<;>simp only[Br,cond_true,cond_false]at c
    ·exact⟨_,k,h,.inl ⟨rfl,c⟩⟩
    ·exact⟨_,k,h,.inr ⟨rfl,c⟩⟩
    ·exact⟨_,k,h,.inr ⟨rfl,c⟩⟩
    ·exact⟨_,k,h,.inl ⟨rfl,c⟩⟩
   ·rename_i vs i;have m:yielded ops a.tmps j=none:=by unfold yielded;rw[p];simp[f.get _ _ i]
    simp only[m];exact⟨ρ,f,Ext.refl _ _,.inr ⟨by simp,c⟩⟩
   ·exact c.elim
  ·exact c.elim
theorem Vf{C:Ctx}(g:C.Ok){n:Nat}{o:Oper}{K:Env->Heap->Prop}{ρ:Env}{a:Act}{w:World}(j:Fits n a ρ)(d:YG C n o K ρ w.heap)
  {Q:Exit->Act->World->Prop} {next:Act->World->Prop}
  (q:∀a' w' ρ',Fits n a' ρ'->Ext ρ ρ' a a'->de w w'->K ρ' w'.heap->next a' w'):o.wp C.P a w next Q:=by
 have f:∀x v,ρ.eval x=some v->a.eval x=v:=λx v h=>j.eval h;have b:∀v w',de w w'->put n o.dst K ρ v w'.heap->next (a.put o.dst v) w':=λv w' p k=>by
  obtain⟨ρ',s,l,h3⟩:=sT k j;exact q _ _ _ s l p h3
 have c:(Aj C.P C.T o.op ρ.eval).holds (λv=>put n o.dst K ρ v w.heap)->o.wp C.P a w next Q:=λh=>by
  obtain⟨v,m,i⟩:=GH g.toOk f h;unfold Oper.wp;rw[m w];exact b v w (de.refl w) i
 unfold YG at d;split at d
 ·split at d
  ·rename_i r e;obtain⟨y,t,i⟩:=d;unfold Oper.wp;rw[AP g.toOk f e t];exact b _ w (de.refl w) i
  ·exact afD (Sy g f d) b
 ·exact c d
def Et(C:Ctx)(n:Nat)(ops:Array Oper)(o:Oper)(K:Env->Heap->Prop)(ρ:Env)(h:Heap):Prop:=
 GL ops o ρ (λρ=>YG C n o K ρ h) (λρ=>put n o.dst K ρ undef h)
theorem GM{C:Ctx}(l:C.Ok){n:Nat}{ops:Array Oper}{o:Oper}{i:Nat}(p:ops[i]?=some o){K:Env->Heap->Prop}{ρ:Env}{a:Act}{w:World}
  (k:Fits n a ρ) (q:Et C n ops o K ρ w.heap) {Q:Exit->Act->World->Prop} {next:Act->World->Prop}
  (d:∀a' w' ρ',Fits n a' ρ'->Ext ρ ρ' a a'->de w w'->K ρ' w'.heap->next a' w'):wpOp C.P ops Q i next a w:=by
 obtain⟨ρ',e,c,h3⟩:=Fc k q;unfold wpOp;simp only[p];rcases h3 with⟨hw,hr⟩|⟨hw,hr⟩
 ·simp only[hw,if_true];exact .inl (Vf l e hr λa' w' b j x2 x3 g=>d _ _ _ j (c.trans x2) x3 g)
 ·simp only[hw,zf,if_false];obtain⟨b,h,m,f⟩:=sT hr e;exact d _ _ _ h (c.trans m) (de.refl w) f
def YH(C:Ctx)(n:Nat)(ops:Array Oper)(K:Env->Heap->Prop):List Oper->Env->Heap->Prop
 |[],ρ,h=>K ρ h
 |o::r,ρ,h=>Et C n ops o (YH C n ops K r) ρ h
def Out(n:Nat)(Q:Exit->Env->Heap->Prop)(ρ:Env)(a:Act)(w:World):Exit->Act->World->Prop:=λe a' w'=>
 ∃ρ',Fits n a' ρ'/\Ext ρ ρ' a a'/\de w w'/\Q e ρ' w'.heap
theorem JU{C:Ctx}(c:C.Ok){n:Nat}{ops:Array Oper}{K:Env->Heap->Prop}{Q:Exit->Act->World->Prop}{ρ0:Env}{a0:Act}{w0:World}
  (b:∀a w ρ,Fits n a ρ->Ext ρ0 ρ a0 a->de w0 w->K ρ w.heap->Q .normal a w):
  ∀(r:List Oper) (i:Nat),(∀j,r[j]?=ops[i+j]?)->∀(ρ:Env) (a:Act) (w:World),Fits n a ρ->Ext ρ0 ρ a0 a->de w0 w->YH C n ops K r ρ w.heap->
   wpOps C.P ops Q (List.range' i r.length) a w
 |[],i,_,ρ,a,w,hf,hx,hl,hs=>b a w ρ hf hx hl hs
 |o::r,i,hr,ρ,a,w,hf,hx,hl,hs=>by
  have e:ops[i]?=some o:=by simpa using(hr 0).symm
  rw[zh,List.range'_succ,wpOps_cons];refine GM c e hf hs λa' w' ρ' g f h3 d=>?_;exact JU c b r (i+1) (λj=>by have:=hr (j+1);simpa[Nat.add_assoc,Nat.add_comm 1 j]using this) ρ' a' w' g (hx.trans f) (hl.trans h3) d
abbrev bQ:=List (Addr×Value)
def bQ.ok:bQ->Heap->Prop
 |[],_=>True
 |p::r,h=>cellOf h p.1=some p.2/\bQ.ok r h
def nD(a:Addr):Nat->List Value->bQ->bQ
 |_,[],L=>L
 |n,v::r,L=>(a.add n,v)::nD a (n+1) r L
theorem nj{a:Addr}{h:Heap}:∀{vs:List Value} {n:Nat} {L:bQ},(nD a n vs L).ok h↔bp h a n vs/\L.ok h
 |[],_,L=>by simp[nD,bp]
 |v::r,n,L=>by simp only[nD,bQ.ok,bp,nj (vs:=r),and_assoc]
def uq.held(r:uq)(y:r.ty.den)(L:bQ):bQ:=
 match r.ty,y with
 | .sc s,y=>(r.a,s.enc y)::L
 | .agg l,y=>nD r.a 0 (nf l y) L
 | .arr s,y=>nD r.a 0 (y.map s.enc) L
theorem uq.acq{r:uq}{y:r.ty.den}{L:bQ}{b:Heap}(c:r.holds b y){m:Heap}:(r.held y L).ok m↔r.holds m y/\L.ok m:=by
 obtain⟨a,ty,n⟩:=r;cases ty with
 |sc s=>exact Iff.rfl
 |agg l=>exact nj
 |arr s=>exact nj.trans ⟨λx=>⟨⟨c.1,x.1⟩,x.2⟩,λx=>⟨x.1.2,x.2⟩⟩
structure gj where
 op:Nat
 r:uq
 y:r.ty.den
def flat:List gj->bQ
 |[]=>[]
 |p::r=>p.r.held p.y (flat r)
def gj.ok(p:gj)(w:World):Prop:=p.r.holds w.heap p.y
def waits(ops:Array Oper)(j i:Nat):Bool:=match ops[j]? with
 |some o=>o.after.any λe=>Region.binds .any e&&wJ e.on i
 |none=>false
def keep(ops:Array Oper)(j:Nat):List gj->List gj
 |[]=>[]
 |p::r=>bif waits ops j p.op then keep ops j r else p::keep ops j r
theorem pk{ops:Array Oper}{j:Nat}:∀{L:List gj},∀p∈keep ops j L,p∈L
 |[],p,h=>by cases h
 |q::r,p,h=>by
  unfold keep at h;cases hw:waits ops j q.op with
  |true=>rw[hw]at h;exact qH _ (pk p h)
  |false=>
   rw[hw]at h;rcases qV.1 h with rfl|h
   ·exact qP
   ·exact qH _ (pk p h)
theorem AQ{ops:Array Oper}{j:Nat}:∀{L:List gj} {p:gj},p∈L->waits ops j p.op=false->p∈keep ops j L
 |q::r,p,h,hw=>by
  unfold keep;rcases qV.1 h with rfl|h
  ·rw[hw];exact qP
  ·cases hq:waits ops j q.op with
   |true=>exact AQ h hw
   |false=>exact qH _ (AQ h hw)
theorem FF{ops:Array Oper}{j:Nat}{p:gj}:∀{M:List gj},p∈keep ops j M->waits ops j p.op=false
 |[],h=>by cases h
 |q::r,h=>by
  unfold keep at h;cases hq:waits ops j q.op with
  |true=>rw[hq]at h;exact FF h
  |false=>
   rw[hq]at h;rcases qV.1 h with rfl|h
   ·exact hq
   ·exact FF h
theorem Cv{ops:Array Oper}{j:Nat}{L a:List gj}(c:∀p∈a,p∈L):∀p∈keep ops j a,p∈keep ops j L:=
 λp b=>AQ (c p (pk p b)) (FF b)
def lJ(P:Program)(ops:Array Oper)(Q:Exit->Act->World->Prop):Nat->List gj->Array Bool->Act->World->Prop
 |0,_,listed,a,w=>Region.ready .any ops listed=[]/\Q .normal a w
 |fuel+1,L,listed,a,w=>
  (Region.ready .any ops listed=[]->Q .normal a w)/\
  ∀i∈Region.ready .any ops listed,wpOp P ops Q i (λa' w'=>(∀p∈keep ops i L,p.ok w')/\lJ P ops Q fuel (keep ops i L) (listed.setIfInBounds i true) a' w') a w
theorem GN{P:Program}{ops:Array Oper}{Q:Exit->Act->World->Prop}:∀(b:Nat) (L:List gj) (c:Array Bool) (a:Act) (w:World),lJ P ops Q b L c a w->wpAny P .any ops Q b c a w
 |0,_,_,_,_,h=>h
 |b+1,_,_,_,_,h=>⟨h.1,λi d=>wpOp_mono (λa' w' h'=>GN b _ _ a' w' h'.2) (h.2 i d)⟩
theorem AR{P:Program}{ops:Array Oper}{Q:Exit->Act->World->Prop}:∀(b:Nat) {L d:List gj} (c:Array Bool) (a:Act) (w:World),(∀p∈d,p∈L)->lJ P ops Q b L c a w->lJ P ops Q b d c a w
 |0,_,_,_,_,_,_,h=>h
 |b+1,_,_,_,_,_,hs,h=>⟨h.1,λi e=>wpOp_mono (λa' w' h'=>⟨λp f=>h'.1 p (Cv hs p f),AR b _ a' w' (Cv hs) h'.2⟩) (h.2 i e)⟩
theorem Mb{P:Program}{ops:Array Oper}{Q:Exit->Act->World->Prop}{i:Nat}{u:Oper}{v:Value}{T:World->Prop}{N:List gj}(Z:ops[i]?=some u)(y:∀(j:Nat) (o:Oper) cs b,ops[j]?=some o->o.op≠.select cs b)
  (hQ:∀c a w,Q (.panic c) (a.put u.dst v) w->Q (.panic c) a w) (hN:∀p∈N,p.op=i) (hT:∀w,(∀p∈N,p.ok w)->T w):
  ∀(f:Nat) (L:List gj) (d:Array Bool) (a:Act) (w:World),
   (∀j r,ops[j]?=some r->j≠i->d.getD j true=false->(∀e∈r.after,Region.binds .any e=true->e.on≠i)->u.apart ops r=true)->
   i∈Region.ready .any ops d->YieldsIf P ops T u v a->(∀p∈N,p.ok w)->(∀p∈L,p.ok w)->
   lJ P ops Q f (N++L) (d.setIfInBounds i true) (a.put u.dst v) w->lJ P ops Q (f+1) L d a w:=by
 intro f;have A:∀(f:Nat) (L:List gj) (d:Array Bool) (a:Act) (w:World),YieldsIf P ops T u v a->(∀p∈N,p.ok w)->(∀p∈L,p.ok w)->
   lJ P ops Q f (N++L) (d.setIfInBounds i true) (a.put u.dst v) w->
   wpOp P ops Q i (λa' w'=>(∀p∈keep ops i L,p.ok w')/\lJ P ops Q f (keep ops i L) (d.setIfInBounds i true) a' w') a w:=λf L d a w G n K H=>
  G.wpOp Z (hT w n) ⟨λp g=>K p (pk p g),AR f _ _ _ (λp g=>yS _ (pk p g)) H⟩
 induction f with
 |zero=>
  intro L d a w _ F G n K H;refine⟨λh=>(by rw[h]at F;cases F),λj S=>?_⟩;by_cases l:j=i
  ·subst l;exact A 0 L d a w G n K H
  ·have:=ready_mono S l;rw[H.1]at this;cases this
 |succ f ih=>
  intro L d a w q F G n K H;refine⟨λh=>(by rw[h]at F;cases F),λj S=>?_⟩;by_cases l:j=i
  ·subst l;exact A (f+1) L d a w G n K H
  ·have E:=H.2 j (ready_mono S l);obtain⟨z,r,t,I⟩:=mem_ready.1 S;have x:∀e∈r.after,Region.binds .any e=true->e.on≠i:=λe he J V=>by
    have E:=I e he J;have Y:=(mem_ready.1 F).1;rw[V]at E;rcases Nat.lt_or_ge i d.size with h'|h'
    ·simp[h']at Y E;rw[Y]at E;cases E
    ·simp[Array.getElem?_eq_none h']at E
   have O:(r.after.any λe=>Region.binds .any e&&wJ e.on i)=false:=by
    cases hc:r.after.any λe=>Region.binds .any e&&wJ e.on i with
    |false=>rfl
    |true=>
     obtain⟨k,W,J⟩:=Array.any_eq_true.1 hc;simp only[qw]at J;exact absurd (zI J.2) (x _ (Array.getElem_mem W) J.1)
   have D:waits ops j i=false:=by unfold waits;rw[t];exact O
   have B:∀p,p∈N->p∈keep ops j (N++L):=λp g=>AQ (List.mem_append_left _ g) (by rw[hN p g];exact D);have m:∀p,p∈keep ops j L->p∈keep ops j (N++L):=Cv λp g=>yS _ g;have h2:=wpOp_putIf t (q j r t l z x) (λcs b=>y i u cs b Z) (λcs b=>y j r cs b t) hQ G E;have s:∀k ok,ops[k]?=some ok->k≠i->(d.setIfInBounds j true).getD k true=false->
     (∀e∈ok.after,Region.binds .any e=true->e.on≠i)->u.apart ops ok=true:=λk ok W X M U=>by
    refine q k ok W X ?_ U;by_cases R:j=k
    ·subst R;exact z
    ·rw[getD_set_ne true R]at M;exact M
   refine wpOp_mono (λa' w' h3=>⟨λp g=>h3.2.1 p (m p g),ih (keep ops j L) (d.setIfInBounds j true) a' w' s (ready_mono F (Ne.symm l)) h3.1 (λp g=>h3.2.1 p (B p g)) (λp g=>h3.2.1 p (m p g)) ?_⟩) h2;rw[Array.setIfInBounds_comm _ _ l];refine AR _ _ _ _ (λp g=>?_) h3.2.2;rcases List.mem_append.1 g with g|g
   ·exact B p g
   ·exact m p g
theorem vn{P:Program}{ops:Array Oper}{Q:Exit->Act->World->Prop}{i:Nat}{e:Oper}{v:Value}{T:World->Prop}{N:List gj}{d:Nat}{L:List gj}{b:Array Bool}{a:Act}{w:World}(g:ops[i]?=some e)
  (o:Region.noSelect ops=true) (l:Region.free .any ops b i=true) (r:(Region.ready .any ops b).contains i=true)
  (m:∀c a w,Q (.panic c) (a.put e.dst v) w->Q (.panic c) a w) (k:∀p∈N,p.op=i) (n:∀w,(∀p∈N,p.ok w)->T w) (q:YieldsIf P ops T e v a) (f:∀p∈N,p.ok w) (j:∀p∈L,p.ok w)
  (h:lJ P ops Q d (N++L) (b.setIfInBounds i true) (a.put e.dst v) w):lJ P ops Q (d+1) L b a w:=
 Mb g (Region.noSelect_spec o) m k n d L b a w (Region.free_spec g l) (by simpa using r) q f j h
theorem IS:∀{L:List gj} {w0:World},(∀p∈L,p.ok w0)->∀{m:Heap},(flat L).ok m->∀p∈L,p.r.holds m p.y
 |[],_,_,_,_,p,a=>by cases a
 |q::r,w0,h0,m,h,p,a=>by
  have h:=(uq.acq (h0 q qP)).1 h;rcases qV.1 a with rfl|a
  ·exact h.1
  ·exact IS (λp a=>h0 p (qH _ a)) h.2 p a
def aaV(T:jX)(t:TypeId):Bool:=match T.get t with
 |some i=>match i.ty with
  | .sc .slc=>true
  |_=>false
 |none=>false
def aaW(T:jX):Op->Bool
 | .convert s d _=>!(aaV T s||aaV T d)
 | .move _| .assign _| .pick .. | .nilCheck _| .fieldAddr .. | .indexAddr .. | .index .. | .field .. | .extract .. | .binOp .. | .unOp .. | .build .. | .makeFunc .. | .load .. =>true
 | .slice _ _ _ _ none=>true
 | .call c=>match c.callee with
  | .builtin .len| .builtin .cap| .builtin .min| .builtin .max| .builtin .real| .builtin .imag=>true
  |_=>false
 |_=>false
def nE(T:jX)(ops:Array Oper)(a:Array Bool):List Nat->Option Nat
 |[]=>none
 |i::r=>match ops[i]? with
  |some o=>bif aaW T o.op&&Region.free .any ops a i then some i else nE T ops a r
  |none=>nE T ops a r
def Sz(C:Ctx)(n:Nat)(ops:Array Oper)(i:Nat)(o:Oper)(L:List gj)(K:List gj->Env->Heap->Prop)(ρ:Env)(h:Heap):Prop:=
 GL ops o ρ (λρ=>match Aj C.P C.T o.op ρ.eval with
  | .no=>match sS C.T o.op ρ.eval with
   |some r=>∃y:r.ty.den,r.holds h y/\put n o.dst (K (⟨i,r,y⟩::L)) ρ (r.ty.enc y) h
   |none=>False
  |p=>p.holds λv=>put n o.dst (K L) ρ v h) (λρ=>put n o.dst (K L) ρ undef h)
def Mc(C:Ctx)(n:Nat)(ops:Array Oper)(K:Nat->Env->Heap->Prop)(ρ:Env)(h:Heap):List Nat->Prop
 |[]=>True
 |[i]=>match ops[i]? with
  |some o=>Et C n ops o (K i) ρ h
  |none=>False
 |i::j::r=>(match ops[i]? with
  |some o=>Et C n ops o (K i) ρ h
  |none=>False)/\Mc C n ops K ρ h (j::r)
def sU(C:Ctx)(n:Nat)(ops:Array Oper)(K:Env->Heap->Prop):Nat->Array Bool->List gj->Env->Heap->Prop
 |0,listed,_,ρ,h=>bif (Region.ready .any ops listed).isEmpty then K ρ h else False
 |k+1,listed,L,ρ,h=>match nE C.T ops listed (Region.ready .any ops listed)with
  |some i=>match ops[i]? with
   |some o=>Sz C n ops i o L (sU C n ops K k (listed.setIfInBounds i true)) ρ h
   |none=>False
  |none=>match Region.ready .any ops listed with
   |[]=>K ρ h
   |i::r=>Mc C n ops (λi ρ h=>(flat (keep ops i L)).ok h/\sU C n ops K k (listed.setIfInBounds i true) (keep ops i L) ρ h) ρ h (i::r)
theorem rz{T:jX}{ops:Array Oper}{a:Array Bool}:∀{rs:List Nat} {i:Nat},nE T ops a rs=some i->i∈rs/\Region.free .any ops a i=true
 |[],_,h=>by cases h
 |j::r,i,h=>by
  simp only[nE]at h;split at h
  ·rename_i o b;cases hb:(aaW T o.op&&Region.free .any ops a j)with
   |true=>
    rw[hb]at h;cases h;simp only[qw]at hb;exact⟨qP,hb.2⟩
   |false=>
    rw[hb]at h;have:=rz h;exact⟨qH _ this.1,this.2⟩
  ·have:=rz h;exact⟨qH _ this.1,this.2⟩
theorem JV{C:Ctx}{n:Nat}{ops:Array Oper}{K:Nat->Env->Heap->Prop}{ρ:Env}{h:Heap}:∀{l:List Nat},Mc C n ops K ρ h l->∀i∈l,∃o,ops[i]?=some o/\Et C n ops o (K i) ρ h
 |[],_,i,hi=>by cases hi
 |[j],ha,i,hi=>by
  simp only[qp]at hi;subst hi;simp only[Mc]at ha;split at ha
  ·rename_i o b;exact⟨o,b,ha⟩
  ·exact ha.elim
 |j::k::r,ha,i,hi=>by
  obtain⟨a,c⟩:=ha;rcases qV.1 hi with rfl|hi
  ·split at a
   ·rename_i o b;exact⟨o,b,a⟩
   ·exact a.elim
  ·exact JV c i hi
variable {n:Nat} {ops:Array Oper} {Q:Exit->Act->World->Prop} {ρ0:Env} {a0:Act} {w0:World}
section
variable {C:Ctx} {K:Env->Heap->Prop}
theorem JW(H:C.Ok)(M:Region.noSelect ops=true)
  (U:∀a w ρ,Fits n a ρ->Ext ρ0 ρ a0 a->de w0 w->K ρ w.heap->Q .normal a w) (A:∀c a w,¬Q (.panic c) a w):
  ∀(k:Nat) (b:Array Bool) (L:List gj) (ρ:Env) (a:Act) (w:World),Fits n a ρ->Ext ρ0 ρ a0 a->de w0 w->(∀p∈L,p.ok w)->
   sU C n ops K k b L ρ w.heap->lJ C.P ops Q k L b a w
 |0,b,L,ρ,a,w,hf,hx,hl,hL,h=>by
  simp only[sU]at h;cases hb:(Region.ready .any ops b).isEmpty with
  |false=>rw[hb]at h;exact h.elim
  |true=>rw[hb]at h;exact⟨by simpa using hb,U _ _ _ hf hx hl h⟩
 |k+1,b,L,ρ,a,w,hf,hx,hl,hL,h=>by
  have G:=JW H M U A k;simp only[sU]at h;split at h
  ·rename_i i J;obtain⟨F,f⟩:=rz J;have e:(Region.ready .any ops b).contains i=true:=by simpa using F
   split at h
   ·rename_i o B;unfold Sz at h;obtain⟨ρ',I,R,h3⟩:=Fc hf h;have q:∀c a w (v:Value),Q (.panic c) (Act.put a o.dst v) w->Q (.panic c) a w:=λc a w v hq=>absurd hq (A c _ w);have Z:∀x v,Env.eval ρ' x=some v->a.eval x=v:=λx v h=>I.eval h;rcases h3 with⟨t,g⟩|⟨t,g⟩
    ·have s:(Aj C.P C.T o.op (Env.eval ρ')).holds (λv=>put n o.dst (sU C n ops K k (b.setIfInBounds i true) L) ρ' v w.heap)->
       lJ C.P ops Q (k+1) L b a w:=λd=>by
      obtain⟨v,hv,W⟩:=GH H.toOk Z d;obtain⟨l,z,D,u⟩:=sT W I;exact vn (N:=[]) (T:=λ_=>True) B M f e (λc a w=>q c a w v) (λp d=>by cases d) (λ_ _=>trivial) (.inl ⟨t,λw _=>hv w⟩) (λp d=>by cases d) hL
       (G _ L l _ w z (hx.trans (R.trans D)) hl hL u)
     split at g
     ·split at g
      ·rename_i r E;obtain⟨y,X,W⟩:=g;obtain⟨l,z,D,u⟩:=sT W I;have S:∀p∈[(⟨i,r,y⟩:gj)],p.ok w:=λp d=>by rw[qp]at d;subst d;exact X
       refine vn (N:=[⟨i,r,y⟩]) (T:=λw=>r.holds w.heap y) B M f e (λc a w=>q c a w _) (λp d=>by rw[qp]at d;subst d;rfl)
        (λw h=>h ⟨i,r,y⟩ (qp.2 rfl)) (.inl ⟨t,λw t=>AP H.toOk Z E t⟩) S hL ?_
       refine G _ (⟨i,r,y⟩::L) l _ w z (hx.trans (R.trans D)) hl (λp d=>?_) u;rcases qV.1 d with rfl|d
       ·exact X
       ·exact hL p d
      ·exact g.elim
     ·exact s g
    ·obtain⟨l,z,D,u⟩:=sT g I;exact vn (N:=[]) (T:=λ_=>True) B M f e (λc a w=>q c a w undef) (λp d=>by cases d) (λ_ _=>trivial) (.inr ⟨t,rfl⟩) (λp d=>by cases d) hL
      (G _ L l _ w z (hx.trans (R.trans D)) hl hL u)
   ·exact h.elim
  ·split at h
   ·rename_i g;exact⟨λ_=>U _ _ _ hf hx hl h,λi J=>by rw[g]at J;cases J⟩
   ·rename_i i r g;refine⟨λh0=>absurd (g▸h0) (by simp),λj Y=>?_⟩;rw[g]at Y;obtain⟨o,B,V⟩:=JV h j Y;have m:∀p∈keep ops j L,p.ok w:=λp d=>hL p (pk p d);exact GM H B hf V λa' w' ρ' x1 x2 x3 O=>⟨IS m O.1,G _ (keep ops j L) ρ' a' w' x1 (hx.trans x2) (hl.trans x3) (IS m O.1) O.2⟩
end
def sched(T:jX)(ops:Array Oper):Nat->Array Bool->Option (List (Nat×Bool))
 |0,listed=>bif (Region.ready .any ops listed).isEmpty then some []else none
 |k+1,listed=>match nE T ops listed (Region.ready .any ops listed)with
  |some i=>(sched T ops k (listed.setIfInBounds i true)).map ((i,true)::·)
  |none=>match Region.ready .any ops listed with
   |[]=>some []
   |[i]=>(sched T ops k (listed.setIfInBounds i true)).map ((i,false)::·)
   |_::_::_=>none
def rf(C:Ctx)(n:Nat)(ops:Array Oper)(K:Env->Heap->Prop):List (Nat×Bool)->List gj->Env->Heap->Prop
 |[],_,ρ,h=>K ρ h
 |(i,true)::r,L,ρ,h=>match ops[i]? with
  |some o=>Sz C n ops i o L (rf C n ops K r) ρ h
  |none=>False
 |(i,false)::r,L,ρ,h=>match ops[i]? with
  |some o=>Et C n ops o (λρ h=>(flat (keep ops i L)).ok h/\rf C n ops K r (keep ops i L) ρ h) ρ h
  |none=>False
theorem JX{C:Ctx}{n:Nat}{ops:Array Oper}{K:Env->Heap->Prop}:∀(k:Nat) (a:Array Bool) (l:List (Nat×Bool)),sched C.T ops k a=some l->
  sU C n ops K k a=rf C n ops K l
 |0,a,l,hs=>by
  simp only[sched]at hs;cases hb:(Region.ready .any ops a).isEmpty with
  |false=>rw[hb]at hs;cases hs
  |true=>
   rw[hb]at hs;cases hs;funext L ρ h;simp only[sU,hb,rf,cond_true]
 |k+1,a,l,hs=>by
  have d:=λi=>JX (C:=C) (n:=n) (ops:=ops) (K:=K) k (a.setIfInBounds i true);funext L ρ h;unfold sched at hs;unfold sU;cases hi:nE C.T ops a (Region.ready .any ops a)with
  |some i=>
   rw[hi]at hs;obtain⟨b,c,rfl⟩:=vl.1 hs;simp only[rf,d i b c]
  |none=>
   rw[hi]at hs;generalize e:Region.ready .any ops a=rd at hs
   match rd,hs with
   |[],hs=>cases hs;simp only[rf]
   |[i],hs=>
    obtain⟨b,c,rfl⟩:=vl.1 hs;simp only[Mc,rf,d i b c]
def IT(C:Ctx)(n:Nat)(ops:Array Oper)(a:Bool)(K:Env->Heap->Prop)(ρ:Env)(h:Heap):Prop:=
 match a with
 |false=>YH C n ops K ops.toList ρ h
 |true=>bif Region.noSelect ops then(match sched C.T ops ops.size (vK ops.size false)with
  |some l=>rf C n ops K l [] ρ h
  |none=>sU C n ops K ops.size (vK ops.size false) [] ρ h)else False
theorem Md{C:Ctx}(g:C.Ok){n:Nat}{id:Nat}{ops:Array Oper}{b:Bool}{Q:Exit->Env->Heap->Prop}{ρ:Env}{a:Act}{w:World}(i:Fits n a ρ)
  (h:IT C n ops b (Q .normal) ρ w.heap):(Code.region id ops b).wp C.P (λe a' w'=>(∀c,e≠.panic c)/\Out n Q ρ a w e a' w') a w:=by
 cases b with
 |false=>
  refine wp_region ?_;have:=JU g (Q:=λe a' w'=>(∀c,e≠.panic c)/\Out n Q ρ a w e a' w') (K:=Q .normal) (ρ0:=ρ) (a0:=a) (w0:=w) (λa' w' ρ' f x2 x3 d=>⟨λc e=>(by cases e),ρ',f,x2,x3,d⟩)
   ops.toList 0 (λj=>by simp) ρ a w i (Ext.refl _ _) (de.refl _) h
  rw[List.range_eq_range'];simpa using this
 |true=>
  simp only[IT]at h;cases hb:Region.noSelect ops with
  |false=>rw[hb]at h;exact h.elim
  |true=>
   rw[hb]at h;have h:sU C n ops (Q .normal) ops.size (vK ops.size false) [] ρ w.heap:=by
    simp only[cond_true]at h;split at h
    ·rename_i l o;rw[JX _ _ _ o];exact h
    ·exact h
   refine wp_region_any g.mixed (GN _ [] _ _ _ ?_);exact JW g hb (Q:=λe a' w'=>(∀c,e≠.panic c)/\Out n Q ρ a w e a' w') (ρ0:=ρ) (a0:=a) (w0:=w) (λa' w' ρ' f x2 x3 d=>⟨λc e=>(by cases e),ρ',f,x2,x3,d⟩)
    (λc a w m=>m.1 c rfl) _ _ [] ρ a {w with drawn:=w.drawn+1} i (Ext.refl _ _) ⟨rfl,rfl,rfl,Nat.le_succ _⟩ (λp k=>by cases k) h
def LF{σ:Type}(rest:σ->Heap->Prop)(B:(σ->Heap->Prop)->Prop):Prop:=∃R:σ->Heap->Prop,(∀s h,R s h->rest s h)/\B R
def gU{σ:Type}(B:σ->(σ->Heap->Prop)->Heap->Prop)(s:σ)(h:Heap):Prop:=
 ∃(τ:Type) (V:τ->σ) (I:τ->Heap->Prop) (μ:τ->Nat) (t0:τ),s=V t0/\I t0 h/\∀t h,I t h->B (V t) (λb h'=>∃a,b=V a/\I a h'/\μ a<μ t) h
theorem Vg{P:Program}{c:Code}{Q:Exit->Act->World->Prop}{a:Act}{w:World}{σ:Type}(R:σ->Act->World->Prop)(μ:σ->World->Nat)(t:σ)(v:R t a w)
  (g:∀s a w,R s a w->c.wp P (Exit.then (λa' w'=>∃m,R m a' w'/\μ m w'<μ s w) Q) a w):(Code.loop c).wp P Q a w:=by
 intro b k cs;have o:∀n s a w,μ s w=n->R s a w->
   ∃e a' w',Q e a' w'/\Arrives P (lone (b.at a (.code c::.inLoop c::k)) cs w) b k cs e a' w':=by
  intro n
  induction n using Nat.strongRecOn with
  |_ n ih=>
   intro s a w A z;obtain⟨e,j,h,f,d⟩:=g s a w z b (.inLoop c::k) cs;cases e with
   |normal=>
    obtain⟨m,r,p⟩:=f;obtain⟨y,B,u,q,i⟩:=ih (μ m h) (A▸p) m j h rfl r;exact⟨y,B,u,q,.of_steps (Steps.trans d (.one step_inLoop)) i⟩
   |exit id=>exact⟨_,j,h,f,.pass (x:=.inLoop c) rfl (λ_ _=>.inl (by simp)) d⟩
   |goto l=>exact⟨_,j,h,f,.pass (x:=.inLoop c) rfl (λ_ _=>.inl (by simp)) d⟩
   |ret=>exact⟨_,j,h,f,.pass (x:=.inLoop c) rfl (λ_ _=>.inl (by simp)) d⟩
   |panic ch=>exact⟨_,j,h,f,.pass (x:=.inLoop c) rfl (λ_ _=>.inl (by simp)) d⟩
   |outgrown=>exact⟨_,j,h,f,.pass (x:=.inLoop c) rfl (λ_ _=>.inl (by simp)) d⟩
 obtain⟨e,a',w',f,d⟩:=o _ t a w rfl v;exact⟨e,a',w',f,.of_steps (.one step_loop) d⟩
inductive cJ where
 |n
 |two (a b:cJ)
 |inn (a:cJ)
 |loop (σ:dn) (κ:db) (a:cJ)
 |join (σ:dn) (κ:db) (a:cJ)
 |scope (l:Nat) (σ:dn) (κ:db) (pre rest:List cJ) (fwd:List (Nat×List cJ))
 |fwd (a:cJ) (fwd:List (Nat×List cJ))
def cJ.fst:cJ->cJ
 | .two a _=>a
 |_=>.n
def cJ.snd:cJ->cJ
 | .two _ b=>b
 |_=>.n
def cJ.sub:cJ->cJ
 | .inn a=>a
 |_=>.n
abbrev QT:=Exit->Env->Heap->Prop
def GO(σ:dn)(κ:db)(ρ:Env)(K:σ.den->Heap->Prop)(Q:QT):QT
 | .normal,ρ',h=>bif within σ κ ρ' (ρ'.length-ρ.length)then(match σ.read ρ' with|some s=>K s h|none=>False)else False
 |e,ρ',h=>Q e ρ' h
def Eu(next:Env->Heap->Prop)(Q:QT):QT
 | .normal,ρ,h=>next ρ h
 |e,ρ,h=>Q e ρ h
def Vh(id:Nat)(Q:QT):QT
 | .exit i,ρ,h=>bif wJ i id then Q .normal ρ h else Q (.exit i) ρ h
 |e,ρ,h=>Q e ρ h
abbrev Rec:=Code->cJ->QT->Env->Heap->Prop
def ur(rec:Rec):List Code->List cJ->QT->Env->Heap->Prop
 |[],_,Q,ρ,h=>Q .normal ρ h
 |c::cs,[],Q,ρ,h=>rec c .n (Eu (ur rec cs [] Q) Q) ρ h
 |c::cs,x::xs,Q,ρ,h=>rec c x (Eu (ur rec cs xs Q) Q) ρ h
def chain:Code->Nat->Option (List Code×List Code)
 | .seq a b,l=>match chain a l with
  |some (p,r)=>some (p,r++[b])
  |none=>match chain b l with
   |some (p,r)=>some (a::p,r)
   |none=>none
 | .label l',l=>bif wJ l' l then some ([],[])else none
 |_,_=>none
def aaX(a:List (Nat×List cJ))(l:Nat):Option (List cJ):=
 match a with
 |[]=>none
 |p::r=>bif wJ p.1 l then some p.2 else aaX r l
def Ew(rec:Rec)(c:Code)(a:List (Nat×List cJ))(Q:QT):Nat->QT
 |0=>λ_ _ _=>False
 |g+1=>λe ρ h=>match e with
  | .goto l=>match aaX a l with
   |some xs=>match chain c l with
    |some (_,r)=>ur rec r xs (Ew rec c a Q g) ρ h
    |none=>False
   |none=>Q (.goto l) ρ h
  |e=>Q e ρ h
def SB(l:Nat)(σ:dn)(κ:db)(ρ:Env)(K:σ.den->Heap->Prop)(Q:QT):QT
 | .goto l',ρ',h=>bif wJ l' l then(bif within σ κ ρ' (ρ'.length-ρ.length)then(match σ.read ρ' with|some s=>K s h|none=>False)else False)else Q (.goto l') ρ' h
 |e,ρ',h=>Q e ρ' h
def Mf(c:Code)(Q:QT):QT
 | .goto l,ρ,h=>match findLabel c l with
  |none=>Q (.goto l) ρ h
  |some _=>False
 |e,ρ,h=>Q e ρ h
def Mg(C:Ctx)(n:Nat)(rec:Rec)(c:Code)(d:cJ)(Q:QT)(ρ:Env)(h:Heap):Prop:=
 match d with
 | .join σ κ a=>LF (λs h=>Q .normal (σ.vals s (κ.over ρ)) h) (λK=>rec c a (GO σ κ ρ K Q) ρ h)
 |d=>match c with
  | .skip=>Q .normal ρ h
  | .label _=>Q .normal ρ h
  | .region _ ops draw=>IT C n ops draw (Q .normal) ρ h
  | .seq a b=>rec a d.fst (Eu (rec b d.snd Q) Q) ρ h
  | .cond x a b=>match ρ.eval x with
   |some (.bool t)=>Br t (rec a d.fst Q ρ h) (rec b d.snd Q ρ h)
   |_=>False
  | .block id c=>rec c d.sub (Vh id Q) ρ h
  | .exit id=>Q (.exit id) ρ h
  | .goto l=>Q (.goto l) ρ h
  | .ret=>Q .ret ρ h
  | .loop c=>match d with
   | .loop σ κ a=>match σ.read ρ with
    |some s0=>gU (λs K h=>rec c a (GO σ κ (σ.vals s (κ.over ρ)) K Q) (σ.vals s (κ.over ρ)) h) s0 h
    |none=>False
   |_=>False
  | .scope c=>match d with
   | .scope l σ κ pre rest fwd=>match chain c l with
    |some (p,r)=>ur rec p pre (Eu (λρ' h'=>match σ.read ρ' with
     |some s0=>gU (λs K h=>ur rec r rest (Ew rec c fwd (SB l σ κ (σ.vals s (κ.over ρ')) K (Mf c Q)) 4) (σ.vals s (κ.over ρ')) h) s0 h'
     |none=>False) (Mf c Q)) ρ h
    |none=>False
   | .fwd a fwd=>rec c a (Ew rec c fwd (Mf c Q) 4) ρ h
   |_=>False
  |_=>False
def vc(C:Ctx)(n:Nat):Nat->Rec
 |0=>λ_ _ _ _ _=>False
 |f+1=>Mg C n (vc C n f)
def Ex(C:Ctx)(n:Nat)(rec:Rec):Prop:=∀(c:Code) (b:cJ) (Q:QT) (ρ:Env) (a:Act) (w:World),Fits n a ρ->rec c b Q ρ w.heap->c.wp C.P (Out n Q ρ a w) a w
variable {ρ ρ':Env} {a a':Act} {w w':World}
section
variable {C:Ctx} {Q:QT}
theorem Out.base{e:Exit}{c:Act}{b:World}(k:Ext ρ ρ' a a')(j:de w w')(h:Out n Q ρ' a' w' e c b):Out n Q ρ a w e c b:=by obtain⟨d,i,f,h3,g⟩:=h;exact⟨d,i,k.trans f,j.trans h3,g⟩
theorem Out.then{next:Env->Heap->Prop}{N:Act->World->Prop}{i:Exit->Act->World->Prop}{e:Exit}{c:Act}{b:World}(h:Out n (Eu next Q) ρ a w e c b)
  (k:∀ρ',Fits n c ρ'->Ext ρ ρ' a c->de w b->next ρ' b.heap->N c b) (l:Out n Q ρ a w e c b->e≠.normal->i e c b):Exit.then N i e c b:=by
 obtain⟨d,j,f,h3,g⟩:=h;cases e<;>first|exact k d j f h3 g|exact l ⟨d,j,f,h3,g⟩ (by simp)
def nk(P:Program):List Code->(Exit->Act->World->Prop)->Act->World->Prop
 |[],Q,a,w=>Q .normal a w
 |c::cs,Q,a,w=>c.wp P (Exit.then (nk P cs Q) Q) a w
theorem kv{P:Program}{Q d:Exit->Act->World->Prop}(b:∀e a w,Q e a w->d e a w):∀(l:List Code) (a:Act) (w:World),nk P l Q a w->nk P l d a w
 |[],_,_,h=>b _ _ _ h
 |c::cs,a,w,h=>wp_mono h λe a w h=>by
  cases e<;>first|exact kv b cs a w h|exact b _ _ _ h
theorem ov{rec:Rec}(d:Ex C n rec):∀(l:List Code) (xs:List cJ) (Q:QT) (ρ:Env) (a:Act) (w:World),Fits n a ρ->ur rec l xs Q ρ w.heap->nk C.P l (Out n Q ρ a w) a w
 |[],_,Q,ρ,a,w,hf,h=>⟨ρ,hf,Ext.refl _ _,de.refl _,h⟩
 |c::cs,[],Q,ρ,a,w,hf,h=>by
  refine wp_mono (d c .n _ ρ a w hf h) λe a' w' b=>b.then (λρ' g x2 x3 f=>?_) λb _=>b;exact kv (λe a w h=>h.base x2 x3) cs a' w' (ov d cs [] Q ρ' a' w' g f)
 |c::cs,x::xs,Q,ρ,a,w,hf,h=>by
  refine wp_mono (d c x _ ρ a w hf h) λe a' w' b=>b.then (λρ' g x2 x3 f=>?_) λb _=>b;exact kv (λe a w h=>h.base x2 x3) cs a' w' (ov d cs xs Q ρ' a' w' g f)
end
theorem vY{P:Program}{b:Code}{Q:Exit->Act->World->Prop}:∀(l:List Code) (a:Act) (w:World),nk P (l++[b]) Q a w->nk P l (Exit.then (b.wp P Q) Q) a w
 |[],a,w,h=>by
  refine wp_mono h λe a w h=>?_;cases e<;>exact h
 |c::cs,a,w,h=>wp_mono h λe a w h=>by
  cases e<;>first|exact vY cs a w h|exact h
theorem pN:∀{c:Code} {l:Nat} {p r:List Code},chain c l=some (p,r)->∃k,findLabel c l=some k/\
  (∀{P:Program} {Q:Exit->Act->World->Prop} {a:Act} {w:World},nk P r Q a w->k.wp P Q a w)/\
  (∀{P:Program} {Q:Exit->Act->World->Prop} {a:Act} {w:World},nk P p (Exit.then (nk P r Q) Q) a w->c.wp P Q a w)
 | .seq x y,l,p,r,h=>by
  simp only[chain]at h;split at h
  ·rename_i s m d;cases h;obtain⟨k,j,i,h3⟩:=pN d;refine⟨.seq k y,by simp[findLabel,j],λ{P Q a w} h=>wp_seq (i (vY m a w h)),λ{P Q a w} h=>wp_seq (h3 ?_)⟩;refine kv (λe a w g=>?_) p a w h;cases e<;>first|exact vY m a w g|exact g
  ·rename_i d;split at h
   ·rename_i s m n;cases h;obtain⟨k,j,i,h3⟩:=pN n;have q:findLabel x l=none:=by
     clear j i h3 n
     induction x with
     |seq a b iha ihb=>
      simp only[chain]at d;split at d
      ·cases d
      ·rename_i o;split at d
       ·cases d
       ·rename_i f;simp[findLabel,iha o,ihb f]
     |label l'=>
      simp only[chain]at d;cases f:wJ l' l with
      |true=>rw[f]at d;cases d
      |false=>
       have:¬l'=l:=λe=>by subst e;simp at f
       simp[findLabel,this]
     |_=>rfl
    refine⟨k,by simp[findLabel,q,j],i,λ{P Q a w} h=>wp_seq (wp_mono h λe a w g=>?_)⟩;cases e<;>first|exact h3 g|exact g
   ·cases h
 | .label l',l,p,r,h=>by
  simp only[chain]at h;cases f:wJ l' l with
  |false=>rw[f]at h;cases h
  |true=>
   rw[f]at h;cases h;have:=zI f;subst this;exact⟨.skip,by simp[findLabel],λh=>wp_skip h,λh=>wp_label h⟩
 | .skip,_,_,_,h=>by cases h
 | .region ..,_,_,_,h=>by cases h
 | .cond ..,_,_,_,h=>by cases h
 | .block ..,_,_,_,h=>by cases h
 | .loop _,_,_,_,h=>by cases h
 | .rangeFunc ..,_,_,_,h=>by cases h
 | .exit _,_,_,_,h=>by cases h
 | .scope _,_,_,_,h=>by cases h
 | .goto _,_,_,_,h=>by cases h
 | .ret,_,_,_,h=>by cases h
 | .refuse _,_,_,_,h=>by cases h
variable {c:Code} {b:Frame} {k:List Item} {cs:List Frame}
def Reach(P:Program)(c:Code)(Q:Exit->Act->World->Prop)(b:Frame)(k:List Item)(d:List Frame)(a:Act)(w:World)(r:Code):Prop:=
 ∃e a' w',Q e a' w'/\Arrives P (lone (b.at a (.code r::.inScope c::k)) d w) b k d e a' w'
def Good(P:Program)(c:Code)(Q:Exit->Act->World->Prop)(b:Frame)(k:List Item)(d:List Frame):Exit->Act->World->Prop
 | .goto l,a,w=>match findLabel c l with
  |some r=>Reach P c Q b k d a w r
  |none=>Q (.goto l) a w
 |e,a,w=>Q e a w
theorem Mh{m:Machine}{e:Exit}{a:Act}{w:World}(f:Good P c Q b k cs e a w)(d:Arrives P m b (.inScope c::k) cs e a w):
  ∃e a' w',Q e a' w'/\Arrives P m b k cs e a' w':=by
 cases e with
 |normal=>exact⟨.normal,a,w,f,Steps.trans d (.one step_inScope)⟩
 |exit id=>exact⟨.exit id,a,w,f,λi j=>d i (by simp[exitTo,j])⟩
 |goto l=>
  simp only[Good]at f;cases hf:findLabel c l with
  |none=>
   rw[hf]at f;exact⟨.goto l,a,w,f,λi j=>d i (by simp[gotoIn,hf,j])⟩
  |some r=>
   rw[hf]at f;obtain⟨o,p,n,h,g⟩:=f;exact⟨o,p,n,h,.of_steps (d _ (by simp[gotoIn,hf])) g⟩
 |ret=>exact⟨_,a,w,f,d⟩
 |panic ch=>exact⟨_,a,w,f,d⟩
 |outgrown=>exact⟨_,a,w,f,d⟩
theorem Mi{r:Code}{a:Act}{w:World}(h:r.wp P (Good P c Q b k cs) a w):Reach P c Q b k cs a w r:=by obtain⟨e,a',w',f,d⟩:=h b (.inScope c::k) cs;exact Mh f d
theorem BW{a:Act}{w:World}(h:∀b k cs,c.wp P (Good P c Q b k cs) a w):(Code.scope c).wp P Q a w:=by intro b k cs;obtain⟨e,m,l,j,d⟩:=h b k cs b (.inScope c::k) cs;obtain⟨f,a',w',g,i⟩:=Mh j d;exact⟨f,a',w',g,.of_steps (.one step_scope) i⟩
variable {rec:Rec}
section
variable {C:Ctx}
theorem AS(u:Ex C n rec){c:Code}{m:List (Nat×List cJ)}{t:QT}{s:Exit->Act->World->Prop}{b:Frame}{k:List Item}{q:List Frame}{ρ:Env}{a0:Act}{w0:World}
  (j:∀e i f d,Fits n f i->Ext ρ i a0 f->de w0 d->t e i d.heap->Good C.P c s b k q e f d):
  ∀(g:Nat) (e:Exit) (i:Env) (f:Act) (d:World),Fits n f i->Ext ρ i a0 f->de w0 d->Ew rec c m t g e i d.heap->Good C.P c s b k q e f d
 |0,_,_,_,_,_,_,_,h=>h.elim
 |g+1,e,i,f,d,hf,hx,hl,h=>by
  cases e with
  |goto l=>
   simp only[Ew]at h;split at h
   ·split at h
    ·rename_i p r o;obtain⟨F,E,y,_⟩:=pN o;simp only[Good,E];refine Mi (y ?_);refine kv (λe a w A=>?_) _ _ _ (ov u _ _ _ i f d hf h);obtain⟨D,x,B,v,z⟩:=A;exact AS u j g e D a w x (hx.trans B) (hl.trans v) z
    ·exact h.elim
   ·exact j _ _ _ _ hf hx hl h
  |normal=>exact j _ _ _ _ hf hx hl h
  |exit id=>exact j _ _ _ _ hf hx hl h
  |ret=>exact j _ _ _ _ hf hx hl h
  |panic ch=>exact j _ _ _ _ hf hx hl h
  |outgrown=>exact j _ _ _ _ hf hx hl h
theorem nR{c:Code}{Q:QT}{b:Frame}{k:List Item}{o:List Frame}{ρ:Env}{a0:Act}{w0:World}{e:Exit}{a:Env}{i:Act}{j:World}
  (d:Fits n i a) (f:Ext ρ a a0 i) (g:de w0 j) (h:Mf c Q e a j.heap):Good C.P c (Out n Q ρ a0 w0) b k o e i j:=by
 cases e with
 |goto l=>
  simp only[Mf]at h;simp only[Good];split at h
  ·rename_i m;simp only[m];exact⟨a,d,f,g,h⟩
  ·exact h.elim
 |normal=>exact⟨a,d,f,g,h⟩
 |exit id=>exact⟨a,d,f,g,h⟩
 |ret=>exact⟨a,d,f,g,h⟩
 |panic ch=>exact⟨a,d,f,g,h⟩
 |outgrown=>exact⟨a,d,f,g,h⟩
theorem JY{a:Act}{σ:dn}{κ:db}{ρ:Env}{s:σ.den}(b:Fits n a ρ)(c:σ.read ρ=some s):Fits n a (σ.vals s (κ.over ρ))/\Ext ρ (σ.vals s (κ.over ρ)) a a:=
 b.pj b (λ_ _ _=>rfl) c
theorem PB(F:Ex C n rec){c:Code}{l:Nat}{σ:dn}{κ:db}{pre rest:List cJ}{H:List (Nat×List cJ)}{p r:List Code}(X:chain c l=some (p,r)){Q:QT}{ρ:Env}{a:Act}{w:World}(hf:Fits n a ρ)
  (h:ur rec p pre (Eu (λρ' h'=>match σ.read ρ' with
     |some O=>gU (λs K h=>ur rec r rest (Ew rec c H (SB l σ κ (σ.vals s (κ.over ρ')) K (Mf c Q)) 4) (σ.vals s (κ.over ρ')) h) O h'
     |none=>False) (Mf c Q)) ρ w.heap):(Code.scope c).wp C.P (Out n Q ρ a w) a w:=by
 refine BW λb k cs=>?_;obtain⟨kk,h1,h2,h3⟩:=pN X;refine h3 (kv (λe a' w' y=>?_) _ _ _ (ov F _ _ _ ρ a w hf h));refine y.then (λρ' N x2 x3 L=>?_) (λy _=>?_)
 ·split at L
  ·rename_i O G;obtain⟨τ,V,I,μ,t0,Z,U,i⟩:=L;subst Z;have g:=JY (κ:=κ) N G;have x:∀(m:Nat) (t:τ) (v:Act) (u:World),μ t=m->I t u.heap->Fits n v (σ.vals (V t) (κ.over ρ'))->Ext ρ' (σ.vals (V t) (κ.over ρ')) a' v->de w' u->
     nk C.P r (Good C.P c (Out n Q ρ a w) b k cs) v u:=by
    intro m
    induction m using Nat.strongRecOn with
    |_ m ih=>
     intro t v u W E D d f;refine kv (λe a2 w2 y=>?_) _ _ _ (ov F _ _ _ _ v u D (i t u.heap E));obtain⟨ρ2,B,A,J,M⟩:=y;refine AS F (ρ:=σ.vals (V t) (κ.over ρ')) (a0:=v) (w0:=u) (λe S a3 w3 o j z3 z4=>?_) 4 e ρ2 a2 w2 B A J M;cases e with
     |goto l'=>
      simp only[SB]at z4;cases hb:wJ l' l with
      |false=>
       rw[hb]at z4;exact nR o (x2.trans (d.trans j)) (x3.trans (f.trans z3)) z4
      |true=>
       rw[hb]at z4;have:=zI hb;subst this;simp only[Good,h1];cases hw:within σ κ S (S.length-(σ.vals (V t) (κ.over ρ')).length)with
       |false=>rw[hw]at z4;exact z4.elim
       |true=>
        rw[hw]at z4;simp only[cond_true]at z4;split at z4
        ·rename_i s' z;have q:∀t,σ.has t=false->(κ.over []).eJ t=false->a3.tmps[t]?=a'.tmps[t]?:=λt R T=>by
          rw[j.within hw t R T,d.pj t R T]
         obtain⟨Y,u2⟩:=N.pj (κ:=κ) o q z;obtain⟨t',e1,i1,i2⟩:=z4;subst e1;exact Mi (h2 (ih _ (by rw[<-W];exact i2) t' a3 w3 rfl i1 Y u2 (f.trans z3)))
        ·exact z4.elim
     |normal=>exact nR o (x2.trans (d.trans j)) (x3.trans (f.trans z3)) z4
     |exit id=>exact nR o (x2.trans (d.trans j)) (x3.trans (f.trans z3)) z4
     |ret=>exact nR o (x2.trans (d.trans j)) (x3.trans (f.trans z3)) z4
     |panic ch=>exact nR o (x2.trans (d.trans j)) (x3.trans (f.trans z3)) z4
     |outgrown=>exact nR o (x2.trans (d.trans j)) (x3.trans (f.trans z3)) z4
   exact x _ t0 a' w' rfl U g.1 g.2 (de.refl _)
  ·exact L.elim
 ·obtain⟨ρ1,B,A,J,M⟩:=y;exact nR B A J M
theorem acr(Z:C.Ok)(o:Ex C n rec):Ex C n (Mg C n rec):=by
 intro c N Q ρ a w j h;have u:∀{σ:dn} {κ:db} {K:σ.den->Heap->Prop} {e:Exit} {a':Act} {w':World},Out n (GO σ κ ρ K Q) ρ a w e a' w'->(∀s h,K s h->Q .normal (σ.vals s (κ.over ρ)) h)->Out n Q ρ a w e a' w':=by
  intro σ κ K e a' w' g hk;obtain⟨ρ',f,x2,x3,d⟩:=g;cases e with
  |normal=>
   simp only[GO]at d;cases hw:within σ κ ρ' (ρ'.length-ρ.length)with
   |false=>rw[hw]at d;exact d.elim
   |true=>
    rw[hw]at d;simp only[cond_true]at d;split at d
    ·rename_i s hs;obtain⟨H,F⟩:=j.pj (κ:=κ) f (x2.within hw) hs;exact⟨_,H,F,x3,hk _ _ d⟩
    ·exact d.elim
  |exit id=>exact⟨ρ',f,x2,x3,d⟩
  |goto l=>exact⟨ρ',f,x2,x3,d⟩
  |ret=>exact⟨ρ',f,x2,x3,d⟩
  |panic ch=>exact⟨ρ',f,x2,x3,d⟩
  |outgrown=>exact⟨ρ',f,x2,x3,d⟩
 unfold Mg at h;split at h
 ·rename_i σ κ x;obtain⟨K,X,Y⟩:=h;exact wp_mono (o c x _ ρ a w j Y) λe a' w' g=>u g X
 ·split at h
  ·exact wp_skip ⟨ρ,j,Ext.refl _ _,de.refl _,h⟩
  ·exact wp_label ⟨ρ,j,Ext.refl _ _,de.refl _,h⟩
  ·exact wp_mono (Md Z j h) λe a' w' g=>g.2
  ·rename_i x y;refine wp_seq (wp_mono (o x _ _ ρ a w j h) λe a' w' g=>g.then (λρ' f x2 x3 d=>?_) λg _=>g);exact wp_mono (o y _ _ ρ' a' w' f d) λe ab U g=>g.base x2 x3
  ·rename_i x y z;split at h
   ·rename_i t P;refine wp_cond_split (j.eval P) (λe=>?_) (λe=>?_)
    ·subst e;exact o y _ _ ρ a w j h
    ·subst e;exact o z _ _ ρ a w j h
   ·exact h.elim
  ·rename_i id x;refine wp_block (wp_mono (o x _ _ ρ a w j h) λe a' w' g=>?_);obtain⟨ρ',f,x2,x3,d⟩:=g;cases e with
   |exit i=>
    simp only[Exit.inBlock];simp only[Vh]at d;cases hb:wJ i id with
    |true=>
     rw[hb]at d;rw[if_pos (zI hb)];exact⟨ρ',f,x2,x3,d⟩
    |false=>
     rw[hb]at d;rw[if_neg λe=>by subst e;simp at hb];exact⟨ρ',f,x2,x3,d⟩
   |normal=>exact⟨ρ',f,x2,x3,d⟩
   |goto l=>exact⟨ρ',f,x2,x3,d⟩
   |ret=>exact⟨ρ',f,x2,x3,d⟩
   |panic ch=>exact⟨ρ',f,x2,x3,d⟩
   |outgrown=>exact⟨ρ',f,x2,x3,d⟩
  ·exact wp_exit ⟨ρ,j,Ext.refl _ _,de.refl _,h⟩
  ·exact wp_goto ⟨ρ,j,Ext.refl _ _,de.refl _,h⟩
  ·exact wp_ret ⟨ρ,j,Ext.refl _ _,de.refl _,h⟩
  ·rename_i x;split at h
   ·rename_i σ κ y _;split at h
    ·rename_i s0 E;obtain⟨τ,V,I,μ,t0,T,S,q⟩:=h;subst T;have m:=JY (κ:=κ) j E;refine Vg (σ:=τ) (λt D B=>Fits n D (σ.vals (V t) (κ.over ρ))/\Ext ρ (σ.vals (V t) (κ.over ρ)) a D/\de w B/\I t B.heap) (λt _=>μ t) t0 ⟨m.1,m.2,de.refl _,S⟩ ?_;rintro t D B ⟨J,v,z3,z4⟩;refine wp_mono (o x y _ _ D B J (q t _ z4)) λe R w2 g=>?_;obtain⟨ρ',f,x2,x3,d⟩:=g;cases e with
     |normal=>
      simp only[GO]at d;cases hw:within σ κ ρ' (ρ'.length-(σ.vals (V t) (κ.over ρ)).length)with
      |false=>rw[hw]at d;exact d.elim
      |true=>
       rw[hw]at d;simp only[cond_true]at d;split at d
       ·rename_i s' G;have A:∀t,σ.has t=false->(κ.over []).eJ t=false->R.tmps[t]?=a.tmps[t]?:=λt L M=>by
         rw[x2.within hw t L M,v.pj t L M]
        obtain⟨H,F⟩:=j.pj (κ:=κ) f A G;obtain⟨t',e1,W,O⟩:=d;subst e1;exact⟨t',⟨H,F,z3.trans x3,W⟩,O⟩
       ·exact d.elim
     |exit id=>exact⟨ρ',f,v.trans x2,z3.trans x3,d⟩
     |goto l=>exact⟨ρ',f,v.trans x2,z3.trans x3,d⟩
     |ret=>exact⟨ρ',f,v.trans x2,z3.trans x3,d⟩
     |panic ch=>exact⟨ρ',f,v.trans x2,z3.trans x3,d⟩
     |outgrown=>exact⟨ρ',f,v.trans x2,z3.trans x3,d⟩
    ·exact h.elim
   ·exact h.elim
  ·rename_i x;split at h
   ·split at h
    ·rename_i p r hc;exact PB o hc j h
    ·exact h.elim
   ·refine BW λb k cs=>wp_mono (o x _ _ ρ a w j h) λe a' w' g=>?_;obtain⟨ρ',f,x2,x3,d⟩:=g;exact AS o (ρ:=ρ) (a0:=a) (w0:=w) (λe ρ3 a3 w3 J v z3 z4=>nR J v z3 z4) 4 e ρ' a' w' f x2 x3 d
   ·exact h.elim
  ·exact h.elim
theorem Mj(a:C.Ok):∀f,Ex C n (vc C n f)
 |0=>λ_ _ _ _ _ _ _ h=>h.elim
 |f+1=>acr a (Mj a f)
end
def Cw(C:Ctx)(ρ:Env):List ResultVar->(List Value->Prop)->Heap->Prop
 |[],K,_=>K []
 | .tmp t::r,K,h=>match ρ.get t with
  |some v=>Cw C ρ r (λvs=>K (v::vs)) h
  |none=>False
 | .cell a t::r,K,h=>match sS C.T (.load t (.tmp a)) ρ.eval with
  |some q=>∃y:q.ty.den,q.holds h y/\Cw C ρ r (λvs=>K (q.ty.enc y::vs)) h
  |none=>False
def Cx:List Value->Value
 |[v]=>v
 |vs=>.tuple vs.toArray
def agi(C:Ctx)(rs:List ResultVar)(R:Value->Heap->Prop):QT
 | .normal,ρ,h=>Cw C ρ rs (λvs=>R (Cx vs) h) h
 | .ret,ρ,h=>Cw C ρ rs (λvs=>R (Cx vs) h) h
 |_,_,_=>False
def Cy:Nat->List Value->Env
 |_,[]=>[]
 |n,v::r=>.val n v::Cy (n+1) r
def Vi(C:Ctx)(d:Func)(a:Nat)(b:cJ)(args:List Value)(R:Value->Heap->Prop)(h:Heap):Prop:=
 match d.body with
 |some c=>vc C d.ntmps a c b (agi C d.results.toList R) (Cy 0 args) h
 |none=>False
theorem GP:∀{args:List Value} {n t:Nat} {v:Value},(Cy n args).get t=some v->n<=t/\args[t-n]?=some v
 |[],_,_,_,h=>by cases h
 |u::r,n,t,v,h=>by
  simp only[Cy,Env.get]at h;cases hb:wJ n t with
  |true=>
   rw[hb]at h;have:=zI hb;subst this;simpa using h
  |false=>
   rw[hb]at h;obtain⟨c,a⟩:=GP (args:=r) h;refine⟨by omega,?_⟩;obtain⟨k,b⟩:∃k,t-n=k+1:=⟨t-(n+1),by omega⟩
   rw[b,List.getElem?_cons_succ];have:t-(n+1)=k:=by omega
   rw[<-this];exact a
theorem YI{C:Ai}(h:C.Ok){ev:Operand->Option Value}{e:Operand->Value}(d:∀x v,ev x=some v->e x=v){t:TypeId}{x:Operand}{q:uq}
  (f:sS C.T (.load t x) ev=some q) {y:q.ty.den} {w:World} (g:q.holds w.heap y):(xr t (e x)).run C.P w=.ok (q.ty.enc y) w:=by
 have c:(do pure (Next.value (<-xr t (e x))):Sem Next).run C.P w=.ok (.value (q.ty.enc y)) w:=AP h d (o:=⟨none,.load t x,0, "",#[],none⟩) f g;rw[Sem.run_bind]at c;cases hr:(xr t (e x)).run C.P w with
 |halt a b=>rw[hr]at c;cases c
 |ok v w'=>
  rw[hr]at c;simp only[Result.andThen_ok]at c;cases c;rfl
theorem Cz{C:Ctx}(k:C.Ok){n:Nat}{a:Act}{ρ:Env}(f:Fits n a ρ):∀{rs:List ResultVar} {K:List Value->Prop} {w:World},Cw C ρ rs K w.heap->
  ∃vs,(rs.mapM (λ| .tmp t=>pure (a.tmps.getD t undef)| .cell x t=>(do loadVar t (<-asAddr (a.tmps.getD x undef)):Sem Value)):Sem (List Value)).run C.P w=.ok vs w/\K vs
 |[],K,w,h=>⟨[],rfl,h⟩
 | .tmp t::r,K,w,h=>by
  simp only[Cw]at h;split at h
  ·rename_i v p;obtain⟨vs,l,i⟩:=Cz k f h;refine⟨v::vs,?_,i⟩;have j:a.tmps.getD t undef=v:=by simp[Array.getD_eq_getD_getElem?,f.get t v p]
   rw[List.mapM_cons,Sem.run_bind,Sem.run_pure,Result.andThen_ok,Sem.run_bind,l,j];rfl
  ·exact h.elim
 | .cell x t::r,K,w,h=>by
  simp only[Cw]at h;split at h
  ·rename_i q d;obtain⟨y,s,h⟩:=h;obtain⟨vs,l,i⟩:=Cz k f h;refine⟨q.ty.enc y::vs,?_,i⟩;have m:=YI k.toOk (e:=a.eval) (λx v h=>f.eval h) d s;have o:∃c,a.eval (.tmp x)=.pointer (some c):=by
    unfold sS at d;simp only at d;split at d
    ·rename_i c b;exact⟨c,f.eval b⟩
    ·cases d
   obtain⟨c,b⟩:=o;have j:a.tmps.getD x undef=.pointer (some c):=b;rw[b]at m;rw[List.mapM_cons,Sem.run_bind];simp only[j];have g:(do loadVar t (<-asAddr (.pointer (some c))):Sem Value).run C.P w=.ok (q.ty.enc y) w:=m;rw[g,Result.andThen_ok,Sem.run_bind,l];rfl
  ·exact h.elim
theorem Rp{C:Ctx}(o:C.Ok){f:FuncId}{b:Func}(s:C.P.funcs[f]?=some b){a:Nat}{g:cJ}{args:List Value}(z:args.length<=b.ntmps){R:Value->Heap->Prop}{h:Heap}
  (j:Vi C b a g args R h):an C.P f args.toArray h R:=by
 rintro w rfl;unfold Vi at j;split at j
 ·rename_i c x;refine calls_of_wp s x ?_;have d:Fits b.ntmps {tmps:=args.toArray++vK (b.ntmps-args.toArray.size) undef,defers:=[]} (Cy 0 args):=by refine⟨by simp;omega,rfl,λt v p=>?_⟩;obtain⟨_,i⟩:=GP p;rw[Nat.sub_zero]at i;have k:t<args.length:=(qj.1 i).1;simp only[Array.getElem?_append,List.size_toArray,k,if_true,List.getElem?_toArray];exact i
  refine wp_mono (Mj o a c g _ _ _ w d j) λe a' w' q=>?_;obtain⟨ρ',m,x2,x3,l⟩:=q;have fin:Cw C ρ' b.results.toList (λvs=>R (Cx vs) w'.heap) w'.heap->a'.defers=[]/\∃v,(results b a'.tmps).run C.P w'=.ok v w'/\(∃n,Ending.returned v=.returned n/\de w w'/\R n w'.heap):=λy=>by
   obtain⟨vs,u,i⟩:=Cz o m y;refine⟨m.defers,Cx vs,?_,Cx vs,rfl,x3,i⟩;unfold results;rw[vC,map_eq_pure_bind,bind_assoc,Sem.run_bind];refine(congrArg (λr=>Result.andThen r _) u).trans ?_;simp only[Result.andThen_ok,pure_bind,Sem.run_pure];cases vs with
   |nil=>rfl
   |cons v r=>cases r<;>rfl
  cases e<;>first|exact fin l|exact l.elim
 ·exact j.elim
theorem adH{C:Ctx}(i:C.Ok){f:FuncId}{b:Func}(d:C.P.funcs[f]?=some b)(a:cJ){args:List Value}{R:Value->Heap->Prop}{h:Heap}{Q:Prop}(g:Q)
  (c:xq args.length b.ntmps=true:=by kernel_rfl) (e:Vi C b 300 a args R h=Q:=by kernel_rfl):an C.P f args.toArray h R:=Rp i d (zE c) (cast e.symm g)
def bz(P:Program)(s:Sem Value)(r:Rt)(h:Heap)(K:r.den->Heap->Prop):Prop:=au P s h λv h'=>∃x:r.den,v=r.enc x/\K x h'
def ow(P:Program)(s:Sem Value)(h:Heap)(K:Addr->Heap->Prop):Prop:=au P s h λv h'=>∃a:Addr,v=.pointer (some a)/\K a h'
def ox(P:Program)(f:FuncId)(args:Array Value)(r:Rt)(h:Heap)(K:r.den->Heap->Prop):Prop:=an P f args h λv h'=>∃x:r.den,v=r.enc x/\K x h'
def wd(C:Ctx)(g:FuncId)(args:List Value)(r:Rt)(h:Heap)(K:r.den->Heap->Prop):Prop:=
 match C.fns[g]? with
 |some true=>ox C.P g args.toArray r h K
 |_=>False
theorem dL{C:Ctx}{g:FuncId}{args:List Value}{r:Rt}{h:Heap}{K:r.den->Heap->Prop}(b:C.fns[g]?=some true)(a:ox C.P g args.toArray r h K):wd C g args r h K:=by unfold wd;rw[b];exact a
namespace Rk
open Go
inductive Er where
 |val (t:Nat) (v:Value)
 |tf (t:Nat) (b:Nat)
abbrev Ev:=List Er
def adI:Nat->Value
 |0=>.bool false
 |_+1=>.bool true
def SC:Bool->Value->Ev->Nat->Value
 |true,x,_,_=>x
 |false,_,[],_=>.tuple #[]
 |false,_,.val s x::r,t=>SC (s==t) x r t
 |false,_,.tf s n::r,t=>SC (s==t) (adI n) r t
abbrev FG(ρ:Ev)(t:Nat):Value:=SC false (.tuple #[]) ρ t
inductive Gd where
 |k (n:Nat)
 |v (v:Value)
def LG:Bool->Gd->Ev->Nat->Gd
 |true,x,_,_=>x
 |false,_,[],_=>.k 0
 |false,_,.val s x::r,t=>LG (s==t) (.v x) r t
 |false,_,.tf s n::r,t=>LG (s==t) (.k n) r t
abbrev adJ(ρ:Ev)(t:Nat):Gd:=LG false (.k 0) ρ t
def eK(ρ:Ev):Operand->Value
 | .tmp t=>FG ρ t
 | .const v=>v
 | .global g=>.pointer (some ⟨g,0,none⟩)
 | .func f=>.func (.func f) #[] #[]
def GQ(ρ:Ev):List Operand->List Value
 |[]=>[]
 |x::r=>eK ρ x::GQ ρ r
def LH(ρ:Ev):List (Nat×Operand)->List (Nat×Value)
 |[]=>[]
 |(n,x)::r=>(n,eK ρ x)::LH ρ r
def GR(ρ:Ev):Option Operand->Option Value
 |none=>none
 |some x=>some (eK ρ x)
def SD:Bool->Bool
 |true=>false
 |false=>true
def adK:Bool->Bool->Bool
 |true,b=>b
 |false,_=>false
def YJ:Bool->Bool->Bool
 |true,_=>true
 |false,b=>b
def FH:Bool->Bool->Bool
 |true,b=>SD b
 |false,_=>false
def mM{α:Type}(d:α):List α->Nat->α
 |[],_=>d
 |a::_,0=>a
 |_::r,n+1=>mM d r n
def Mk{α:Type}:Nat->List α->List α
 |0,l=>l
 |_+1,[]=>[]
 |n+1,_::r=>Mk n r
def Ml{α:Type}:Nat->List α->List α
 |0,_=>[]
 |_+1,[]=>[]
 |n+1,a::r=>a::Ml n r
def pO{α:Type}:List α->List α->List α
 |[],m=>m
 |a::r,m=>a::pO r m
def YK{α:Type}:List α->Nat
 |[]=>0
 |_::r=>YK r+1
def SE:TI:=⟨.other,.sc .any,0,0,[]⟩
def adL(l:List TI)(t:Nat):TI:=mM SE l t
def SF:nc->Nat->Nat×TypeId
 | .struct fs,f=>mM (0,0) fs f
 | .int _,_| .bool,_| .str,_| .flt,_| .cpx,_| .mp,_| .fn,_| .other,_| .slice _,_| .array ..,_| .ptr _,_=>(0,0)
def GS:nc->TypeId
 | .slice e=>e
 | .array _ e=>e
 | .int _| .bool| .str| .flt| .cpx| .mp| .fn| .other| .struct _| .ptr _=>0
inductive Rz:Type 1 where
 |val (v:Value)
 |cond (c:Prop) (v:Value)
 |ex (X:Type) (c:X->Prop) (v:X->Value)
 |br (b:Bool) (x y:Value)
 |ld (a:Addr) (t:Ty) (n:Nat)
 |ru (α:Type) (s:Sem α)
 |ra (s:Sem Value)
 |rr (s:Sem Value) (t:Rt)
 |ca (f:FuncId) (l:List Value) (t:Rt)
 |dy (f:FuncId) (l:List Value) (t:Rt)
 |bad
def adM:Value->Value->Value->Rz
 | .bool b,x,y=>.br b x y
 |_,_,_=>.bad
def adN:Value->Rz
 | .pointer p=>.ex Addr (λa=>p=some a) (λa=>.pointer (some a))
 |_=>.bad
def adO:Value->Nat->Rz
 | .pointer (some a),n=>.val (.pointer (some (a.add n)))
 |_,_=>.bad
def adP:Value->Value->nc->Nat->Rz
 | .slice p len _,.int _ n,.slice _,z=>.ex Addr (λa=>p=some a/\0<=n/\n<(len:Int)) (λa=>.pointer (some (a.add (n.toNat*z))))
 | .pointer (some a),.int _ n,.array m _,z=>.cond (0<=n/\n<(m:Int)) (.pointer (some (a.add (n.toNat*z))))
 |_,_,_,_=>.bad
def aaY:Ty->Nat->List Value->Int->Array Value->Rz
 | .sc s,m,_,n,cs=>.ex s.den (λy=>0<=n/\n<(m:Int)/\cs[n.toNat]?=some (s.enc y)) (λy=>s.enc y)
 |_,_,_,_,_=>.bad
def adQ:Value->Value->nc->Ty->Rz
 | .string s,.int _ n,.str,_=>.ex UInt8 (λb=>0<=n/\s.data[n.toNat]?=some b) (λb=>.int .u8 b.toNat)
 | .agg cs,.int _ n,.array m _,t=>aaY t m [] n cs
 |_,_,_,_=>.bad
def aaZ:nc->List Value->Nat->Nat->Value
 | .struct _,cs,o,z=>.agg (Ml z (Mk o cs)).toArray
 | .array ..,cs,o,z=>.agg (Ml z (Mk o cs)).toArray
 | .int _,cs,o,_| .bool,cs,o,_| .str,cs,o,_| .flt,cs,o,_| .cpx,cs,o,_| .mp,cs,o,_| .fn,cs,o,_| .other,cs,o,_| .slice _,cs,o,_| .ptr _,cs,o,_=>mM (.tuple #[]) cs o
def adR:Value->Nat->TI->Rz
 | .agg cs,o,i=>.val (aaZ i.cz cs.toList o i.size)
 |_,_,_=>.bad
def adS:Value->Nat->Rz
 | .tuple vs,n=>.val (mM (.tuple #[]) vs.toList n)
 |_,_=>.bad
def adT:Value->nc->Nat->Option Value->Option Value->Rz
 | .slice p n c,.slice _,_,none,none=>.val (.slice p n c)
 | .slice p _ c,.slice _,_,none,some (.int _ r)=>.cond (0<=r/\r<=(c:Int)) (.slice p r.toNat c)
 | .slice p n c,.slice _,z,some (.int _ l),none=>.cond (0<=l/\l<=(n:Int)) (.slice (if c=l.toNat then p else p.map (·.add (l.toNat*z))) (n-l.toNat) (c-l.toNat))
 | .slice p _ c,.slice _,z,some (.int _ l),some (.int _ r)=>.cond (0<=l/\l<=r/\r<=(c:Int)) (.slice (if c=l.toNat then p else p.map (·.add (l.toNat*z))) (r.toNat-l.toNat) (c-l.toNat))
 | .string s,.str,_,none,none=>.val (.string (s.extract 0 s.size))
 | .string s,.str,_,none,some (.int _ r)=>.cond (0<=r/\r<=(s.size:Int)) (.string (s.extract 0 r.toNat))
 | .string s,.str,_,some (.int _ l),none=>.cond (0<=l/\l<=(s.size:Int)) (.string (s.extract l.toNat s.size))
 | .string s,.str,_,some (.int _ l),some (.int _ r)=>.cond (0<=l/\l<=r/\r<=(s.size:Int)) (.string (s.extract l.toNat r.toNat))
 | .pointer (some a),.array n _,_,none,none=>.val (.slice (some a) n n)
 | .pointer (some a),.array n _,_,none,some (.int _ r)=>.cond (0<=r/\r<=(n:Int)) (.slice (some a) r.toNat n)
 | .pointer (some a),.array n _,z,some (.int _ l),none=>.cond (0<=l/\l<=(n:Int)) (.slice (some (if n=l.toNat then a else a.add (l.toNat*z))) (n-l.toNat) (n-l.toNat))
 | .pointer (some a),.array n _,z,some (.int _ l),some (.int _ r)=>.cond (0<=l/\l<=r/\r<=(n:Int)) (.slice (some (if n=l.toNat then a else a.add (l.toNat*z))) (r.toNat-l.toNat) (n-l.toNat))
 |_,_,_,_,_=>.bad
def adU(k:IntKind)(a b:Int):BinOp->Rz
 | .add=>.val (.int k (k.wrap (a+b)))
 | .sub=>.val (.int k (k.wrap (a-b)))
 | .mul=>.val (.int k (k.wrap (a*b)))
 | .quo=>.cond (b≠0) (.int k (k.wrap (a.tdiv b)))
 | .rem=>.cond (b≠0) (.int k (a.tmod b))
 | .and=>.val (.int k (k.wrap (qK k.bits a&&&qK k.bits b).toNat))
 | .or=>.val (.int k (k.wrap (qK k.bits a|||qK k.bits b).toNat))
 | .xor=>.val (.int k (k.wrap (qK k.bits a^^^qK k.bits b).toNat))
 | .andNot=>.val (.int k (k.wrap (qK k.bits a&&&~~~qK k.bits b).toNat))
 | .shl=>.cond (0<=b) (.int k (k.wrap (a*2^min b.toNat k.bits)))
 | .shr=>.cond (0<=b) (.int k (a.fdiv (2^min b.toNat k.bits)))
 | .eql=>.val (.bool (a==b))
 | .neq=>.val (.bool (a !=b))
 | .lss=>.val (.bool (decide (a<b)))
 | .leq=>.val (.bool (decide (a<=b)))
 | .gtr=>.val (.bool (decide (a>b)))
 | .geq=>.val (.bool (decide (a>=b)))
def adV(a b:ByteArray):BinOp->Rz
 | .eql=>.val (.bool (a.toList==b.toList))
 | .neq=>.val (.bool (!(a.toList==b.toList)))
 | .lss=>.val (.bool (Op.bytesLess a.toList b.toList))
 | .leq=>.val (.bool (Op.bytesLess a.toList b.toList||a.toList==b.toList))
 | .gtr=>.val (.bool (!(Op.bytesLess a.toList b.toList||a.toList==b.toList)))
 | .geq=>.val (.bool (!(Op.bytesLess a.toList b.toList)))
 | .add=>.cond (((a.size+b.size:Nat):Int)<=xM.max) (.string (a++b))
 |_=>.bad
def adW(a b:Bool):BinOp->Rz
 | .eql=>.val (.bool (a==b))
 | .neq=>.val (.bool (!(a==b)))
 |_=>.bad
def adX(k:FloatKind)(a b:Nat):BinOp->Rz
 | .add=>.ex Nat (λr=>k.format.add a b=some r) (λr=>.float k r)
 | .sub=>.ex Nat (λr=>k.format.sub a b=some r) (λr=>.float k r)
 | .mul=>.ex Nat (λr=>k.format.mul a b=some r) (λr=>.float k r)
 | .quo=>.ex Nat (λr=>k.format.div a b=some r) (λr=>.float k r)
 | .eql=>.val (.bool (k.format.order a b==some .eq))
 | .neq=>.val (.bool (k.format.order a b !=some .eq))
 | .lss=>.val (.bool (k.format.order a b==some .lt))
 | .gtr=>.val (.bool (k.format.order a b==some .gt))
 |_=>.bad
def Mm{α:Type}(p:Option α):BinOp->Rz
 | .eql=>.val (.bool p.isNone)
 | .neq=>.val (.bool (!p.isNone))
 |_=>.bad
def adY(P:Program)(k:FloatKind)(op:BinOp)(t:TypeId)(x y:Operand)(a b:Value):BinOp->Rz
 | .eql=>.ex Bool (λr=>jY P op t x y a b (.bool r)) (λr=>.bool r)
 | .neq=>.ex Bool (λr=>jY P op t x y a b (.bool r)) (λr=>.bool r)
 |_=>.ex (Nat×Nat) (λr=>jY P op t x y a b (.complex k r.1 r.2)) (λr=>.complex k r.1 r.2)
def SG(P:Program)(op:BinOp)(t:TypeId)(x y:Operand)(a b:Value):Rz:=.ex Bool (λr=>jY P op t x y a b (.bool r)) (λr=>.bool r)
def adZ(P:Program)(op:BinOp)(t:TypeId)(x:Operand)(p q:Option Addr):Operand->Rz
 | .tmp n=>SG P op t x (.tmp n) (.pointer p) (.pointer q)
 | .const _=>Mm p op
 | .global _=>Mm p op
 | .func _=>Mm p op
def aba(P:Program)(op:BinOp)(t:TypeId)(x y:Operand):Value->Value->Rz
 | .int k a,.int _ b=>adU k a b op
 | .float k a,.float _ b=>adX k a b op
 | .string a,.string b=>adV a b op
 | .bool a,.bool b=>adW a b op
 | .pointer a,.pointer b=>adZ P op t x a b y
 | .slice a _ _,.slice .. =>Mm a op
 | .agg a,.agg b=>SG P op t x y (.agg a) (.agg b)
 | .complex k a b,.complex k' c e=>adY P k op t x y (.complex k a b) (.complex k' c e) op
 |a,.nilIface=>SG P op t x y a .nilIface
 |_,_=>.bad
def aea:UnOp->Value->Rz
 | .not,.bool b=>.val (.bool !b)
 | .neg,.int k n=>.val (.int k (k.wrap (0-n)))
 | .xor,.int k n=>.val (.int k (k.wrap (qK k.bits (if k.signed then-1 else k.max)^^^qK k.bits n).toNat))
 |_,_=>.bad
def aeb(s d:TypeId)(v:Value)(a:Ty):nc->nc->Value->Rz
 | .int _,.int k,.int _ n=>.val (.int k (k.wrap n))
 |_,_,_=>.rr (convert s d v) (.one a)
def Rq:Value->List Value
 | .agg cs=>cs.toList
 | .bool b=>[.bool b]
 | .int k n=>[.int k n]
 | .float k n=>[.float k n]
 | .complex k a b=>[.complex k a b]
 | .string s=>[.string s]
 | .pointer a=>[.pointer a]
 | .slice a l c=>[.slice a l c]
 | .map r=>[.map r]
 | .chan r=>[.chan r]
 | .func f a c=>[.func f a c]
 | .nilFunc=>[.nilFunc]
 | .iface t v=>[.iface t v]
 | .nilIface=>[.nilIface]
 | .tuple vs=>[.tuple vs]
def abb(l:List Value)(o:Nat)(c:List Value):List Value:=pO (Ml o l) (pO c (Mk (o+YK c) l))
def Vj:nc->Nat->Nat->Nat
 | .struct fs,_,n=>(mM (0,0) fs n).1
 | .array _ _,z,n=>n*z
 | .int _,_,_| .bool,_,_| .str,_,_| .flt,_,_| .cpx,_,_| .mp,_,_| .fn,_,_| .other,_,_| .slice _,_,_| .ptr _,_,_=>0
def SH(d:nc)(z:Nat):List Value->List (Nat×Value)->List Value
 |l,[]=>l
 |l,(n,v)::r=>SH d z (abb l (Vj d z n) (Rq v)) r
def aec:Nat->Bool
 |0=>false
 |_+1=>true
def abc(P:Program)(t:TypeId)(i:TI)(z:Nat)(vs:List (Nat×Value)):Bool->Rz
 |true=>.ex Value (λv=>aH P (xv t vs.toArray) v) (λv=>v)
 |false=>.val (.agg (SH i.cz z i.zero vs).toArray)
def SI:Value->TI->Rz
 | .pointer (some a),i=>.ld a i.ty i.size
 |_,_=>.bad
def Vk(a:Array TypeId)(ty:TypeId):Value->Rz
 | .slice _ n _=>.val (.int .i64 n)
 | .string s=>.val (.int .i64 s.size)
 | .map r=>.rr (xA a ty #[.map r]) (.one (.sc (.int .i64)))
 |_=>.bad
def Vl:Value->Rz
 | .slice _ _ n=>.val (.int .i64 n)
 |_=>.bad
def YL:Bool->List Value->Rz
 |true,[.int k a,.int _ b]=>.val (.int k (if b>a then b else a))
 |false,[.int k a,.int _ b]=>.val (.int k (if b<a then b else a))
 |_,_=>.bad
def SJ:Bool->List Value->Rz
 |true,[.complex k a _]=>.val (.float k a)
 |false,[.complex k _ b]=>.val (.float k b)
 |_,_=>.bad
def YM(T:Nat->TI)(t:TypeId):Bool->List Ty->List (TypeId×List Ty)->Rt
 |true,l,_=>.many l
 |false,_,[]=>.one (T t).ty
 |false,_,(k,l)::r=>YM T t (k==t) l r
abbrev SK(T:Nat->TI)(t:TypeId)(l:List (TypeId×List Ty)):Rt:=YM T t false [] l
def abd:Value->List Value->Rt->Rz
 | .func (.func g) a c,l,t=>.dy g (a.toList++l++c.toList) t
 |_,_,_=>.bad
def abe(a:Array TypeId)(ty:TypeId)(vs:List Value):Builtin->Rz
 | .append=>.rr (zD a ty vs.toArray) (.one (.sc .slc))
 | .copy=>.rr (yc a ty vs.toArray) (.one (.sc (.int .i64)))
 | .clear=>.ru Value (vS a ty vs.toArray)
 | .delete=>.ru Value (Builtin.delete_ a ty vs.toArray)
 | .unsafeString=>.rr (Builtin.unsafeString_ a ty vs.toArray) (.one (.sc .str))
 | .len=>Vk a ty (mM (.tuple #[]) vs 0)
 | .cap=>Vl (mM (.tuple #[]) vs 0)
 | .min=>YL false vs
 | .max=>YL true vs
 | .real=>SJ true vs
 | .imag=>SJ false vs
 |_=>.bad
def abf(T:Nat->TI)(tup:List (TypeId×List Ty))(ρ:Ev)(ty:TypeId)(vs:List Value)(a:Array TypeId):Callee->Rz
 | .value (.func f)=>.ca f vs (SK T ty tup)
 | .value (.tmp t)=>abd (FG ρ t) vs (SK T ty tup)
 | .builtin b=>abe a ty vs b
 |_=>.bad
def abg(P:Program)(T:Nat->TI)(tup:List (TypeId×List Ty))(ty:TypeId)(ρ:Ev):Op->Rz
 | .move x=>.val (eK ρ x)
 | .assign x=>.val (eK ρ x)
 | .pick c a b=>adM (eK ρ c) (eK ρ a) (eK ρ b)
 | .nilCheck x=>adN (eK ρ x)
 | .fieldAddr s x f=>adO (eK ρ x) (SF (T s).cz f).1
 | .indexAddr t x i=>adP (eK ρ x) (eK ρ i) (T t).cz (T (GS (T t).cz)).size
 | .index t x i=>adQ (eK ρ x) (eK ρ i) (T t).cz (T (GS (T t).cz)).ty
 | .field s x f=>adR (eK ρ x) (SF (T s).cz f).1 (T (SF (T s).cz f).2)
 | .slice t x FH hi none=>adT (eK ρ x) (T t).cz (T (GS (T t).cz)).size (GR ρ FH) (GR ρ hi)
 | .slice t x FH hi (some m)=>.rr (yu t (eK ρ x) (GR ρ FH) (GR ρ hi) (some (eK ρ m))) (.one (.sc .slc))
 | .extract x n=>adS (eK ρ x) n
 | .binOp op t x y _=>aba P op t x y (eK ρ x) (eK ρ y)
 | .unOp op _ x=>aea op (eK ρ x)
 | .convert s d x=>aeb s d (eK ρ x) (T ty).ty (T s).cz (T d).cz (eK ρ x)
 | .build t ps=>abc P t (T t) (T (GS (T t).cz)).size (LH ρ ps.toList) (aec ((T t).size-24))
 | .makeFunc f a c=>.val (.func f (GQ ρ a.toList).toArray (GQ ρ c.toList).toArray)
 | .load t x=>SI (eK ρ x) (T t)
 | .store t a x=>.ru Unit (qE t (eK ρ a) (eK ρ x))
 | .alloc t=>.ra (yJ t true (.tuple #[]))
 | .box t x=>.ra (vQ t (eK ρ x))
 | .makeSlice t l c=>.rr (zw t (eK ρ l) (eK ρ c)) (.one (.sc .slc))
 | .buildSlice t n ps=>.rr (zL t n (LH ρ ps.toList).toArray) (.one (.sc .slc))
 | .makeMap t none=>.rr (xl t none) (.one (.sc .mp))
 | .lookup t x i ok=>.rr (xB t (eK ρ x) (eK ρ i) ok) (SK T ty tup)
 | .mapUpdate t m k x=>.ru Unit (yY t (eK ρ m) (eK ρ k) (eK ρ x))
 | .insert t m k x=>.ru Unit (yY t (eK ρ m) (eK ρ k) (eK ρ x))
 | .call ⟨c,as,tys⟩=>abf T tup ρ ty (GQ ρ as.toList) tys c
 |_=>.bad
inductive Kt:Type 1 where
 |top (rs:List ResultVar)
 |seq (c:Code) (a:cJ) (k:Kt)
 |blk (id:Nat) (k:Kt)
 |jn (σ:dn) (K:σ.den->Heap->Prop) (k:Kt)
 |back (l:Nat) (σ:dn) (K:σ.den->Heap->Prop) (k:Kt)
 |lst (cs:List Code) (as:List cJ) (k:Kt)
 |jmp (c:Code) (fwd:List (Nat×List cJ)) (k:Kt)
 |hd (l:Nat) (σ:dn) (r:List Code) (as:List cJ) (fwd:List (Nat×List cJ)) (c:Code) (k:Kt)
def Mn:cJ->cJ
 | .two a _=>a
 | .n| .inn _| .loop .. | .join .. | .scope .. | .fwd .. =>.n
def Mo:cJ->cJ
 | .two _ b=>b
 | .n| .inn _| .loop .. | .join .. | .scope .. | .fwd .. =>.n
def Vm:cJ->cJ
 | .inn a=>a
 | .n| .two .. | .loop .. | .join .. | .scope .. | .fwd .. =>.n
def abh(a b:Code):Option (List Code×List Code)->Option (List Code×List Code)->Option (List Code×List Code)
 |some (p,r),_=>some (p,pO r [b])
 |none,some (p,r)=>some (a::p,r)
 |none,none=>none
def abi:Bool->Option (List Code×List Code)
 |true=>some ([],[])
 |false=>none
def GU:Code->Nat->Option (List Code×List Code)
 | .seq a b,l=>abh a b (GU a l) (GU b l)
 | .label k,l=>abi (k==l)
 | .skip,_| .region ..,_| .cond ..,_| .block ..,_| .loop _,_| .rangeFunc ..,_| .exit _,_| .scope _,_| .goto _,_| .ret,_| .refuse _,_=>none
def SL:Bool->List cJ->List (Nat×List cJ)->Nat->Option (List cJ)
 |true,x,_,_=>some x
 |false,_,[],_=>none
 |false,_,(k,x)::r,l=>SL (k==l) x r l
abbrev abj(w:List (Nat×List cJ))(l:Nat):Option (List cJ):=SL false [] w l
def GV:(s:Sc)->Value->Option s.den
 | .int _,.int _ n=>some n
 | .bool,.bool x=>some x
 | .str,.string x=>some x
 | .ptr,.pointer a=>some a
 | .slc,.slice a l c=>some ⟨a,l,c⟩
 | .flt _,.float _ n=>some n
 | .cpx _,.complex _ a b=>some (a,b)
 | .mp,.map r=>some r
 | .fn,.func (.func g) f c=>some (g,f,c)
 | .any,v=>some v
 | .adr,.pointer (some a)=>some a
 |_,_=>none
def YN{α β:Type}:Option α->Option β->Option (α×β)
 |some a,some b=>some (a,b)
 |some _,none=>none
 |none,_=>none
def IU:(l:List Sc)->List Value->Option (uY l)
 |[],_=>some ()
 |[s],[v]=>GV s v
 |s::t::r,v::vs=>YN (GV s v) (IU (t::r) vs)
 |_::_,_=>none
def Mp:(t:Ty)->Value->Option t.den
 | .sc s,v=>GV s v
 | .agg l,.agg cs=>IU l cs.toList
 |_,_=>none
def IV:(σ:dn)->Ev->Option σ.den
 |[],_=>some ()
 |[(t,y)],ρ=>Mp y (FG ρ t)
 |(t,y)::x::r,ρ=>YN (Mp y (FG ρ t)) (IV (x::r) ρ)
def GW:(σ:dn)->σ.den->Ev->Ev
 |[],_,ρ=>ρ
 |[(t,y)],x,ρ=>.val t (y.enc x)::ρ
 |(t,y)::z::r,x,ρ=>.val t (y.enc x.1)::GW (z::r) x.2 ρ
def YO{α:Type}(K:α->Heap->Prop)(h:Heap):Option α->Prop
 |some s=>K s h
 |none=>False
def IW{σ:Type}(B:σ->(σ->Heap->Prop)->Heap->Prop)(h:Heap):Option σ->Prop
 |some s=>gU B s h
 |none=>False
inductive Hd where
 |l (c:bQ)
 |a (a:Addr) (vs:List Value)
abbrev Hi:=List (Nat×Hd)
def GX:List Oper->Nat->List (Nat×Oper)
 |[],_=>[]
 |o::r,n=>(n,o)::GX r (n+1)
def GY(l:List (Nat×Oper)):List Nat->List (Nat×Oper)
 |[]=>[]
 |n::r=>mM (0,⟨none,.ready 0,0, "",#[],none⟩) l n::GY l r
inductive Sd where
 |l (ns:List Nat)
 |y (ns:List Nat) (a b:Sd)
def YP(id:Nat):Bool->Sd->List (Nat×Sd)->Option Sd
 |true,x,_=>some x
 |false,_,[]=>none
 |false,_,(k,x)::r=>YP id (k==id) x r
def YQ:Nat×Oper->Nat
 |(_,⟨some d,_,_,_,_,_⟩)=>d
 |(_,⟨none,_,_,_,_,_⟩)=>0
def abk:Ground->Bool
 | .data| .chain| .guard| .phase=>true
 | .textOnly _| .gcOnly _=>false
def YR:List Edge->Nat->Bool
 |[],_=>false
 |⟨n,g⟩::r,i=>YJ (adK (abk g) (n==i)) (YR r i)
def SM:Bool->Nat×Hd->Hi->Hi
 |true,_,r=>r
 |false,p,r=>p::r
def Mq(e:List Edge):Hi->Hi
 |[]=>[]
 |p::r=>SM (YR e p.1) p (Mq e r)
def LI:Hi->bQ
 |[]=>[]
 |(_,.l c)::r=>pO c (LI r)
 |(_,.a x vs)::r=>nD x 0 vs (LI r)
def FI(e:List Edge)(L:Hi)(h:Heap):Bool->Prop->Prop
 |true,X=>bQ.ok (LI (Mq e L)) h/\X
 |false,X=>X
def abl(e:List Edge)(L:Hi):Bool->Hi
 |true=>Mq e L
 |false=>L
def IX(e:List Edge)(L:Hi):Bool->Hi
 |true=>Mq e L
 |false=>[]
def nF:Option Tmp->Value->Ev->Ev
 |some d,v,ρ=>.val d v::ρ
 |none,_,ρ=>ρ
def SN(dr:Bool)(n:Nat)(c:Hd)(L:Hi):Hi:=SM (SD dr) (n,c) L
def YS(a:Addr):Nat->List Value->bQ
 |_,[]=>[]
 |n,v::r=>(a.add n,v)::YS a (n+1) r
def SO:Ty->Bool
 | .sc .slc=>true
 |_=>false
def SP(T:Nat->TI):Op->Bool
 | .convert s d _=>SD (YJ (SO (T s).ty) (SO (T d).ty))
 | .move _| .assign _| .pick .. | .nilCheck _| .fieldAddr .. | .indexAddr .. | .index .. | .field .. | .extract .. | .binOp .. | .unOp .. | .build .. | .makeFunc .. | .load .. =>true
 | .slice _ _ _ _ none=>true
 | .call ⟨.builtin .len,_,_⟩| .call ⟨.builtin .cap,_,_⟩| .call ⟨.builtin .min,_,_⟩| .call ⟨.builtin .max,_,_⟩| .call ⟨.builtin .real,_,_⟩| .call ⟨.builtin .imag,_,_⟩=>true
 |_=>false
inductive Al where
 |n
 |y (a b:Sd)
structure Rg where
 all:List (Nat×Oper)
 dr:Bool
 al:Al
inductive St:Type 1 where
 |ex (c:Code) (a:cJ) (k:Kt) (ρ:Ev)
 |e2 (c:Code) (a:cJ) (k:Kt) (ρ:Ev)
 |cd (v:Value) (c d:Code) (a:cJ) (k:Kt) (ρ:Ev)
 |ap (e:Exit) (k:Kt) (ρ:Ev)
 |bB (b:Bool) (x y:St)
 |fin (σ:dn) (K:σ.den->Heap->Prop) (ρ:Ev)
 |jp (o:Option (List cJ)) (q:Option (List Code×List Code)) (l:Nat) (c:Code) (fwd:List (Nat×List cJ)) (k:Kt) (ρ:Ev)
 |sc (q:Option (List Code×List Code)) (l:Nat) (σ:dn) (pre rest:List cJ) (fwd:List (Nat×List cJ)) (c:Code) (k:Kt) (ρ:Ev)
 |rg (os:List (Nat×Oper)) (r:Rg) (L:Hi) (k:Kt) (ρ:Ev)
 |so (o:Option Sd) (all:List (Nat×Oper)) (k:Kt) (ρ:Ev)
 |st (s:Sd) (all:List (Nat×Oper)) (dr:Bool) (L:Hi) (k:Kt) (ρ:Ev)
 |gd (g:Gd) (w:Bool) (d n:Nat) (o:Oper) (os:List (Nat×Oper)) (r:Rg) (L:Hi) (k:Kt) (ρ:Ev)
 |on (n:Nat) (o:Oper) (os:List (Nat×Oper)) (r:Rg) (L:Hi) (k:Kt) (ρ:Ev)
 |sk (n:Nat) (o:Oper) (os:List (Nat×Oper)) (r:Rg) (L:Hi) (k:Kt) (ρ:Ev)
 |rs (z:Rz) (n:Nat) (d:Option Tmp) (e:List Edge) (os:List (Nat×Oper)) (r:Rg) (L:Hi) (k:Kt) (ρ:Ev)
 |re (rs:List ResultVar) (acc:List Value) (ρ:Ev)
 |rl (z:Rz) (rs:List ResultVar) (acc:List Value) (ρ:Ev)
def bg(C:Ctx)(T:Nat->TI)(S:List (Nat×Sd))(R:Value->Heap->Prop):Nat->St->Heap->Prop
 |0,_,_=>False
 |f+1,.ex c (.join σ _ a) k ρ,h=>LF (λs h=>bg C T S R f (.ap .normal k (GW σ s ρ)) h) (λK=>bg C T S R f (.e2 c a (.jn σ K k) ρ) h)
 |f+1,.ex c .n k ρ,h=>bg C T S R f (.e2 c .n k ρ) h
 |f+1,.ex c (.two a b) k ρ,h=>bg C T S R f (.e2 c (.two a b) k ρ) h
 |f+1,.ex c (.inn a) k ρ,h=>bg C T S R f (.e2 c (.inn a) k ρ) h
 |f+1,.ex c (.loop σ κ a) k ρ,h=>bg C T S R f (.e2 c (.loop σ κ a) k ρ) h
 |f+1,.ex c (.scope l σ κ p r w) k ρ,h=>bg C T S R f (.e2 c (.scope l σ κ p r w) k ρ) h
 |f+1,.ex c (.fwd a w) k ρ,h=>bg C T S R f (.e2 c (.fwd a w) k ρ) h
 |f+1,.e2 .skip _ k ρ,h=>bg C T S R f (.ap .normal k ρ) h
 |f+1,.e2 (.label _) _ k ρ,h=>bg C T S R f (.ap .normal k ρ) h
 |f+1,.e2 (.region id ops true) _ k ρ,h=>bg C T S R f (.so (YP id false (.l []) S) (GX ops.toList 0) k ρ) h
 |f+1,.e2 (.region _ ops false) _ k ρ,h=>bg C T S R f (.rg (GX ops.toList 0) ⟨GX ops.toList 0,false,.n⟩ [] k ρ) h
 |f+1,.e2 (.seq x y) a k ρ,h=>bg C T S R f (.ex x (Mn a) (.seq y (Mo a) k) ρ) h
 |f+1,.e2 (.cond x c d) a k ρ,h=>bg C T S R f (.cd (eK ρ x) c d a k ρ) h
 |f+1,.e2 (.block id c) a k ρ,h=>bg C T S R f (.ex c (Vm a) (.blk id k) ρ) h
 |f+1,.e2 (.exit id) _ k ρ,h=>bg C T S R f (.ap (.exit id) k ρ) h
 |f+1,.e2 (.goto l) _ k ρ,h=>bg C T S R f (.ap (.goto l) k ρ) h
 |f+1,.e2 .ret _ k ρ,h=>bg C T S R f (.ap .ret k ρ) h
 |f+1,.e2 (.loop c) (.loop σ _ a) k ρ,h=>IW (λs K h=>bg C T S R f (.ex c a (.jn σ K k) (GW σ s ρ)) h) h (IV σ ρ)
 |f+1,.e2 (.scope c) (.scope l σ _ pre rest fwd) k ρ,h=>bg C T S R f (.sc (GU c l) l σ pre rest fwd c k ρ) h
 |f+1,.e2 (.scope c) (.fwd a fwd) k ρ,h=>bg C T S R f (.ex c a (.jmp c fwd k) ρ) h
 |f+1,.cd (.bool t) c d a k ρ,h=>Br t (bg C T S R f (.ex c (Mn a) k ρ) h) (bg C T S R f (.ex d (Mo a) k ρ) h)
 |f+1,.sc (some (p,r)) l σ pre rest fwd c k ρ,h=>bg C T S R f (.ap .normal (.lst p pre (.hd l σ r rest fwd c k)) ρ) h
 |f+1,.bB true x _,h=>bg C T S R f x h
 |f+1,.bB false _ y,h=>bg C T S R f y h
 |f+1,.fin σ K ρ,h=>YO K h (IV σ ρ)
 |f+1,.jp (some xs) (some (_,r)) _ c fwd k ρ,h=>bg C T S R f (.ap .normal (.lst r xs (.jmp c fwd k)) ρ) h
 |f+1,.jp none _ l _ _ k ρ,h=>bg C T S R f (.ap (.goto l) k ρ) h
 |f+1,.ap .normal (.top rs) ρ,h=>bg C T S R f (.re rs [] ρ) h
 |f+1,.ap .ret (.top rs) ρ,h=>bg C T S R f (.re rs [] ρ) h
 |f+1,.ap .normal (.seq c a k) ρ,h=>bg C T S R f (.ex c a k ρ) h
 |f+1,.ap (.exit i) (.seq _ _ k) ρ,h=>bg C T S R f (.ap (.exit i) k ρ) h
 |f+1,.ap (.goto i) (.seq _ _ k) ρ,h=>bg C T S R f (.ap (.goto i) k ρ) h
 |f+1,.ap .ret (.seq _ _ k) ρ,h=>bg C T S R f (.ap .ret k ρ) h
 |f+1,.ap .normal (.blk _ k) ρ,h=>bg C T S R f (.ap .normal k ρ) h
 |f+1,.ap (.exit i) (.blk id k) ρ,h=>bg C T S R f (.bB (i==id) (.ap .normal k ρ) (.ap (.exit i) k ρ)) h
 |f+1,.ap (.goto i) (.blk _ k) ρ,h=>bg C T S R f (.ap (.goto i) k ρ) h
 |f+1,.ap .ret (.blk _ k) ρ,h=>bg C T S R f (.ap .ret k ρ) h
 |f+1,.ap .normal (.jn σ K _) ρ,h=>YO K h (IV σ ρ)
 |f+1,.ap (.exit i) (.jn _ _ k) ρ,h=>bg C T S R f (.ap (.exit i) k ρ) h
 |f+1,.ap (.goto i) (.jn _ _ k) ρ,h=>bg C T S R f (.ap (.goto i) k ρ) h
 |f+1,.ap .ret (.jn _ _ k) ρ,h=>bg C T S R f (.ap .ret k ρ) h
 |f+1,.ap .normal (.back _ _ _ k) ρ,h=>bg C T S R f (.ap .normal k ρ) h
 |f+1,.ap (.exit i) (.back _ _ _ k) ρ,h=>bg C T S R f (.ap (.exit i) k ρ) h
 |f+1,.ap (.goto i) (.back l σ K k) ρ,h=>bg C T S R f (.bB (i==l) (.fin σ K ρ) (.ap (.goto i) k ρ)) h
 |f+1,.ap .ret (.back _ _ _ k) ρ,h=>bg C T S R f (.ap .ret k ρ) h
 |f+1,.ap .normal (.lst [] _ k) ρ,h=>bg C T S R f (.ap .normal k ρ) h
 |f+1,.ap .normal (.lst (c::cs) [] k) ρ,h=>bg C T S R f (.ex c .n (.lst cs [] k) ρ) h
 |f+1,.ap .normal (.lst (c::cs) (x::xs) k) ρ,h=>bg C T S R f (.ex c x (.lst cs xs k) ρ) h
 |f+1,.ap (.exit i) (.lst _ _ k) ρ,h=>bg C T S R f (.ap (.exit i) k ρ) h
 |f+1,.ap (.goto i) (.lst _ _ k) ρ,h=>bg C T S R f (.ap (.goto i) k ρ) h
 |f+1,.ap .ret (.lst _ _ k) ρ,h=>bg C T S R f (.ap .ret k ρ) h
 |f+1,.ap .normal (.jmp _ _ k) ρ,h=>bg C T S R f (.ap .normal k ρ) h
 |f+1,.ap (.exit i) (.jmp _ _ k) ρ,h=>bg C T S R f (.ap (.exit i) k ρ) h
 |f+1,.ap (.goto l) (.jmp c fwd k) ρ,h=>bg C T S R f (.jp (abj fwd l) (GU c l) l c fwd k ρ) h
 |f+1,.ap .ret (.jmp _ _ k) ρ,h=>bg C T S R f (.ap .ret k ρ) h
 |f+1,.ap .normal (.hd l σ r as fwd c k) ρ,h=>IW (λs K h=>bg C T S R f (.ap .normal (.lst r as (.jmp c fwd (.back l σ K k))) (GW σ s ρ)) h) h (IV σ ρ)
 |f+1,.ap (.exit i) (.hd _ _ _ _ _ _ k) ρ,h=>bg C T S R f (.ap (.exit i) k ρ) h
 |f+1,.ap (.goto i) (.hd _ _ _ _ _ _ k) ρ,h=>bg C T S R f (.ap (.goto i) k ρ) h
 |f+1,.ap .ret (.hd _ _ _ _ _ _ k) ρ,h=>bg C T S R f (.ap .ret k ρ) h
 |f+1,.so none all k ρ,h=>bg C T S R f (.rg all ⟨all,true,.n⟩ [] k ρ) h
 |f+1,.so (some s) all k ρ,h=>bg C T S R f (.st s all true [] k ρ) h
 |f+1,.st (.l ns) all dr L k ρ,h=>bg C T S R f (.rg (GY all ns) ⟨all,dr,.n⟩ L k ρ) h
 |f+1,.st (.y ns a b) all dr L k ρ,h=>bg C T S R f (.rg (GY all ns) ⟨all,dr,.y a b⟩ L k ρ) h
 |f+1,.rg [] ⟨_,_,.n⟩ _ k ρ,h=>bg C T S R f (.ap .normal k ρ) h
 |f+1,.rg [] ⟨all,dr,.y a b⟩ L k ρ,h=>bg C T S R f (.st a all dr L k ρ) h/\bg C T S R f (.st b all dr L k ρ) h
 |f+1,.rg ((n,⟨d,o,t,p,e,none⟩)::os) r L k ρ,h=>bg C T S R f (.on n ⟨d,o,t,p,e,none⟩ os r L k ρ) h
 |f+1,.rg ((n,⟨d,o,t,p,e,some (j,w)⟩)::os) r L k ρ,h=>bg C T S R f (.gd (adJ ρ (YQ (mM (0,⟨none,.ready 0,0, "",#[],none⟩) r.all j))) w (YQ (mM (0,⟨none,.ready 0,0, "",#[],none⟩) r.all j)) n ⟨d,o,t,p,e,some (j,w)⟩ os r L k ρ) h
 |f+1,.gd (.k 0) true _ n o os r L k ρ,h=>bg C T S R f (.sk n o os r L k ρ) h
 |f+1,.gd (.k 0) false _ n o os r L k ρ,h=>bg C T S R f (.on n o os r L k ρ) h
 |f+1,.gd (.k (_+1)) true _ n o os r L k ρ,h=>bg C T S R f (.on n o os r L k ρ) h
 |f+1,.gd (.k (_+1)) false _ n o os r L k ρ,h=>bg C T S R f (.sk n o os r L k ρ) h
 |f+1,.gd (.v (.tuple _)) _ _ n o os r L k ρ,h=>bg C T S R f (.sk n o os r L k ρ) h
 |f+1,.gd (.v (.bool b)) true d n o os r L k ρ,h=>Br b (bg C T S R f (.on n o os r L k (.tf d 1::ρ)) h) (bg C T S R f (.sk n o os r L k (.tf d 0::ρ)) h)
 |f+1,.gd (.v (.bool b)) false d n o os r L k ρ,h=>Br b (bg C T S R f (.sk n o os r L k (.tf d 1::ρ)) h) (bg C T S R f (.on n o os r L k (.tf d 0::ρ)) h)
 |f+1,.on n ⟨d,o,t,_,e,_⟩ os r L k ρ,h=>bg C T S R f (.rs (abg C.P T C.tup t ρ o) n d e.toList os r L k ρ) h
 |f+1,.sk _ ⟨d,o,_,_,e,_⟩ os r L k ρ,h=>FI e.toList L h (FH r.dr (SP T o)) (bg C T S R f (.rg os r (abl e.toList L (FH r.dr (SP T o))) k (nF d undef ρ)) h)
 |f+1,.rs (.val v) _ d _ os r L k ρ,h=>bg C T S R f (.rg os r L k (nF d v ρ)) h
 |f+1,.rs (.cond c v) _ d _ os r L k ρ,h=>c/\bg C T S R f (.rg os r L k (nF d v ρ)) h
 |f+1,.rs (.ex X c v) _ d _ os r L k ρ,h=>∃x:X,c x/\bg C T S R f (.rg os r L k (nF d (v x) ρ)) h
 |f+1,.rs (.br b x y) _ d _ os r L k ρ,h=>Br b (bg C T S R f (.rg os r L k (nF d x ρ)) h) (bg C T S R f (.rg os r L k (nF d y ρ)) h)
 |f+1,.rs (.ld a (.sc s) _) n d _ os r L k ρ,h=>∃x:s.den,cellOf h a=some (s.enc x)/\bg C T S R f (.rg os r (SN r.dr n (.l [(a,s.enc x)]) L) k (nF d (s.enc x) ρ)) h
 |f+1,.rs (.ld a (.agg l) _) n d _ os r L k ρ,h=>∃x:uY l,bp h a 0 (nf l x)/\bg C T S R f (.rg os r (SN r.dr n (.l (YS a 0 (nf l x))) L) k (nF d (.agg (nf l x).toArray) ρ)) h
 |f+1,.rs (.ld a (.arr s) m) n d _ os r L k ρ,h=>∃x:List s.den,(x.length=m/\bp h a 0 (x.map s.enc))/\bg C T S R f (.rg os r (SN r.dr n (.a a (x.map s.enc)) L) k (nF d (.agg (x.map s.enc).toArray) ρ)) h
 |f+1,.rs (.ru _ s) _ d e os r L k ρ,h=>au C.P s h λ_ h'=>FI e L h' r.dr (bg C T S R f (.rg os r (IX e L r.dr) k (nF d undef ρ)) h')
 |f+1,.rs (.ra s) _ d e os r L k ρ,h=>ow C.P s h λa h'=>FI e L h' r.dr (bg C T S R f (.rg os r (IX e L r.dr) k (nF d (.pointer (some a)) ρ)) h')
 |f+1,.rs (.rr s t) _ d e os r L k ρ,h=>bz C.P s t h λx h'=>FI e L h' r.dr (bg C T S R f (.rg os r (IX e L r.dr) k (nF d (t.enc x) ρ)) h')
 |f+1,.rs (.ca g l t) _ d e os r L k ρ,h=>ox C.P g l.toArray t h λx h'=>FI e L h' r.dr (bg C T S R f (.rg os r (IX e L r.dr) k (nF d (t.enc x) ρ)) h')
 |f+1,.rs (.dy g l t) _ d e os r L k ρ,h=>wd C g l t h λx h'=>FI e L h' r.dr (bg C T S R f (.rg os r (IX e L r.dr) k (nF d (t.enc x) ρ)) h')
 |f+1,.re [] [] _,h=>R (.tuple #[]) h
 |f+1,.re [] [v] _,h=>R v h
 |f+1,.re [] (v::w::r) _,h=>R (.tuple (v::w::r).toArray) h
 |f+1,.re (.tmp t::r) acc ρ,h=>bg C T S R f (.re r (pO acc [FG ρ t]) ρ) h
 |f+1,.re (.cell a t::r) acc ρ,h=>bg C T S R f (.rl (SI (FG ρ a) (T t)) r acc ρ) h
 |f+1,.rl (.ld a (.sc s) _) r acc ρ,h=>∃x:s.den,cellOf h a=some (s.enc x)/\bg C T S R f (.re r (pO acc [s.enc x]) ρ) h
 |f+1,.rl (.ld a (.agg l) _) r acc ρ,h=>∃x:uY l,bp h a 0 (nf l x)/\bg C T S R f (.re r (pO acc [.agg (nf l x).toArray]) ρ) h
 |f+1,.rl (.ld a (.arr s) m) r acc ρ,h=>∃x:List s.den,(x.length=m/\bp h a 0 (x.map s.enc))/\bg C T S R f (.re r (pO acc [.agg (x.map s.enc).toArray]) ρ) h
 |_+1,_,_=>False
def SQ:Nat->List Value->Ev
 |_,[]=>[]
 |n,v::r=>.val n v::SQ (n+1) r
theorem afE{α:Type}(l:List α):(l.toArray).toList=l:=rfl
theorem afF(a:Addr):a.add 0=a:=rfl
theorem afG(s:Sl):Sl.mk s.ptr s.len s.cap=s:=rfl
theorem aed(A B:Prop):Br true A B=A:=rfl
theorem aee(A B:Prop):Br false A B=B:=rfl
end Rk
abbrev bO:=List (List UInt8)
abbrev aP:=List UInt8
abbrev cu:=List (List Int)
abbrev aB:=List Int
abbrev bZ:=Option Go.Addr
abbrev aR:=List Go.Value
abbrev wf:=Go.Value->Qw.Heap->Prop
abbrev Mr:=Go.FuncId×Array Go.Value×Array Go.Value
abbrev cJ.tn(a:Qw.cJ):Qw.cJ:=.two .n a
universe u
theorem f9{c:Prop}{h:Decidable c}(hc:c){α:Sort u}{t e:α}:ite c t e=t:=if_pos hc
theorem g0{c:Prop}{h:Decidable c}(hnc:¬c){α:Sort u}{t e:α}:ite c t e=e:=if_neg hnc
theorem g9{p:Prop}[inst:Decidable p]:p->decide p=true:=decide_eq_true
theorem hU{p:Prop}[inst:Decidable p]:¬p->decide p=false:=decide_eq_false
theorem hZ{p:Prop}[inst:Decidable p]:decide p=true->p:=of_decide_eq_true
theorem i0{α:Sort u}{a:α}:a=a:=rfl
theorem i4{p:Prop}(h:p:=by omega):p:=h
theorem i5{p:Prop}(h:p:=by decide):p:=h
theorem i6{p:Prop}(h:p:=by dsimp only;omega):p:=h
theorem i7{p:Prop}(h:p:=by simp;omega):p:=h
theorem i9{p:Prop}(h:p:=by simp):p:=h
theorem jj{p:Prop}(h:p:=by dsimp only;rw[ai _];rfl):p:=h
theorem j0{p:Prop}(h:p:=by rw[ai _];rfl):p:=h
theorem j1{p:Prop}(h:p:=by cases e):p:=h
theorem j3{p:Prop}(h:p:=by kernel_rfl):p:=h
theorem j4{p:Prop}(h:p:=by rw[ai _];omega):p:=h
theorem j5{p:Prop}(h:p:=by decide+kernel):p:=h
theorem j6{p:Prop}(h:p:=by(try dsimp only at c);split at c<;>split at c<;>(try split at c)<;>(try split at c)<;>omega):p:=h
theorem j7{p:Prop}(h:p:=by simpa using h):p:=h
theorem j8{p:Prop}(h:p:=by cases h):p:=h
theorem j9{p:Prop}(h:p:=by simp[Value.cells]):p:=h
theorem kt{p:Prop}(h:p:=by simpa using a):p:=h
theorem k7{p:Prop}(h:p:=by simp at d;omega):p:=h
theorem k8{p:Prop}(h:p:=by simp[aM]):p:=h
theorem k9{p:Prop}(h:p:=by simpa using b):p:=h
theorem lb{p:Prop}(h:p:=by simpa using e):p:=h
theorem lc{p:Prop}(h:p:=by rw[bV];omega):p:=h
theorem ln{p:Prop}(h:p:=by rw[addr_add];exact hb.cell i0):p:=h
theorem lx{p:Prop}(h:p:=by rfl):p:=h
theorem lz{p:Prop}(h:p:=by simp[eG]):p:=h
theorem l0{p:Prop}(h:p:=by dsimp only;simp;omega):p:=h
theorem l4{p:Prop}(h:p:=by dsimp only;congr 1;omega):p:=h
theorem l5{p:Prop}(h:p:=by simp[ct];omega):p:=h
theorem l6{p:Prop}(h:p:=by simpa using H):p:=h
theorem l7{p:Prop}(h:p:=by simpa using c):p:=h
theorem l9{p:Prop}(h:p:=by simpa using g):p:=h
theorem mn{p:Prop}(h:p:=by rw[za];omega):p:=h
theorem mq{p:Prop}(h:p:=by simp at h):p:=h
theorem m0{p:Prop}(h:p:=by simp[cD];omega):p:=h
theorem m4{p:Prop}(h:p:=by simp[b]):p:=h
theorem m5{p:Prop}(h:p:=by simp[a]):p:=h
theorem m6{p:Prop}(h:p:=by simp[dz];omega):p:=h
theorem m7{p:Prop}(h:p:=by simp[dt];omega):p:=h
theorem m8{p:Prop}(h:p:=by unfold iJ;rw[o.refl];rfl):p:=h
theorem m9{p:Prop}(h:p:=by rw[qd,qc (by omega)];rfl):p:=h
theorem nb{p:Prop}(h:p:=by rw[<-z];exact w.cell0 i0):p:=h
theorem nn{p:Prop}(h:p:=by simp[gz]):p:=h
theorem nq{p:Prop}(h:p:=by simpa using e2):p:=h
theorem n0{p:Prop}(h:p:=by rw[rq d];omega):p:=h
theorem n3{p:Prop}(h:p:=by rw[K];exact F):p:=h
theorem n4{p:Prop}(h:p:=by rw[qg (qm _)]):p:=h
theorem n5{p:Prop}(h:p:=by rw[e1];decide):p:=h
theorem n7{p:Prop}(h:p:=by simp[c]):p:=h
theorem n8{p:Prop}(h:p:=by unfold fo;simp;omega):p:=h
theorem n9{p:Prop}(h:p:=by simpa using m):p:=h
theorem oa{p:Prop}(h:p:=by rw[qu];omega):p:=h
theorem oi{p:Prop}(h:p:=by have:=W.seq;omega):p:=h
theorem oj{p:Prop}(h:p:=by simp[g]):p:=h
theorem o0{p:Prop}(h:p:=by rw[e];rfl):p:=h
theorem o6{p:Prop}(h:p:=by rw[qO];omega):p:=h
theorem o7{p:Prop}(h:p:=by simpa using q):p:=h
theorem o8{p:Prop}(h:p:=by rw[e,ha,hb];decide):p:=h
theorem o9{p:Prop}(h:p:=by simp only at e;omega):p:=h
theorem pa{p:Prop}(h:p:=by simpa using x):p:=h
theorem pb{p:Prop}(h:p:=by rw[l]):p:=h
theorem pt{p:Prop}(h:p:=by assumption):p:=h
theorem p0{p:Prop}(h:p:=by simpa using d):p:=h
theorem p5{p:Prop}(h:p:=by rw[wrap_u64];omega):p:=h
theorem p6{p:Prop}(h:p:=by simp[cD]):p:=h
theorem p7{p:Prop}(h:p:=by simp[d]):p:=h
theorem p8{p:Prop}(h:p:=by simp[e]):p:=h
theorem p9{p:Prop}(h:p:=by rw[w];rfl):p:=h
theorem qa{p:Prop}(h:p:=by simp[f]):p:=h
theorem qb{p:Prop}(h:p:=by simp[iq];omega):p:=h
theorem qs{p:Prop}(h:p:=by simp[fv];omega):p:=h
theorem q0{p:Prop}(h:p:=by rw[o];simp):p:=h
theorem q6{p:Prop}(h:p:=by rw[hU b];rfl):p:=h
theorem rb{p:Prop}(h:p:=by simpa using n):p:=h
theorem sb{p:Prop}(h:p:=by simpa using w):p:=h
theorem sp{p:Prop}(h:p:=by simpa using y):p:=h
theorem sz{p:Prop}(h:p:=by simpa using k):p:=h
theorem sL{p:Prop}(h:p:=by simp[t]):p:=h
theorem sR{p:Prop}(h:p:=by simpa using f):p:=h
theorem tg{p:Prop}(h:p:=by rw[lu];omega):p:=h
theorem tp{p:Prop}(h:p:=by rw[gX];omega):p:=h
theorem t6{p:Prop}(h:p:=by rw[K];decide):p:=h
theorem t7{p:Prop}(h:p:=by rw[E]):p:=h
theorem t8{p:Prop}(h:p:=by cases a):p:=h
theorem u7{p:Prop}(h:p:=by rw[q]):p:=h
theorem u9{p:Prop}(h:p:=by simp[h]):p:=h
abbrev qm:=@Nat.le_refl
abbrev qw:=@Bool.and_eq_true
abbrev zf:=@Bool.false_eq_true
abbrev zU:=@Bool.or_eq_true
abbrev zo:=@List.cons_append
abbrev qj:=@List.getElem?_eq_some_iff
abbrev qL:=@List.getElem?_map
abbrev zh:=@List.length_cons
abbrev qV:=@List.mem_cons
abbrev qH:=@List.mem_cons_of_mem
abbrev qP:=@List.mem_cons_self
abbrev qp:=@List.mem_singleton
abbrev qQ:=@Option.map_some
abbrev w5:=@Nat.add_assoc
abbrev zn:=@Nat.add_sub_cancel_left
abbrev wT:=@Nat.add_zero
abbrev q9:=@Nat.le_trans
abbrev qT:=@Nat.lt_of_lt_of_le
abbrev zk:=@Nat.lt_succ_iff_lt_or_eq
abbrev wi:=@Nat.min_eq_left
abbrev xh:=@Nat.min_le_right
abbrev vw:=@Nat.mod_lt
abbrev wx:=@Nat.mul_le_mul
abbrev zK:=@Nat.mul_le_mul_right
abbrev qW:=@Nat.sub_self
abbrev wc:=@Nat.succ_mul
abbrev zY:=@Nat.zero_add
abbrev yN:=@Array.ext_getElem?
abbrev qY:=@List.all_eq_true
abbrev qn:=@List.append_assoc
abbrev qF:=@List.append_nil
abbrev vA:=@List.countP_cons
abbrev wm:=@List.drop_drop
abbrev qJ:=@List.drop_eq_getElem_cons
abbrev zd:=@List.drop_of_length_le
abbrev qX:=@List.eq_nil_of_length_eq_zero
abbrev wo:=@List.ext_getElem
abbrev zt:=@List.ext_getElem?
abbrev zl:=@List.filter_append
abbrev zq:=@List.filter_cons
abbrev wU:=@List.filter_eq_nil_iff
abbrev yq:=@List.find?_eq_none
abbrev qZ:=@List.flatMap_append
abbrev zj:=@List.flatMap_cons
abbrev zB:=@List.foldl_append
abbrev zx:=@List.foldl_cons
abbrev qd:=@List.getD_eq_getElem?_getD
abbrev ql:=@List.getElem?_append_left
abbrev qh:=@List.getElem?_append_right
abbrev qo:=@List.getElem?_cons_succ
abbrev wL:=@List.getElem?_drop
abbrev qc:=@List.getElem?_eq_getElem
abbrev qB:=@List.getElem?_eq_none
abbrev qU:=@List.getElem?_set
abbrev zy:=@List.getElem?_set_ne
abbrev zg:=@List.getElem?_set_self
abbrev zP:=@List.getElem?_toArray
abbrev zF:=@List.getElem?_zipWith
abbrev wu:=@List.getElem_drop
abbrev qf:=@List.getElem_mem
abbrev qD:=@List.getElem_of_mem
abbrev qt:=@List.length_append
abbrev za:=@List.length_drop
abbrev qu:=@List.length_map
abbrev wh:=@List.length_mergeSort
abbrev zC:=@List.length_range
abbrev zc:=@List.length_set
abbrev qO:=@List.length_take
abbrev qy:=@List.mem_append
abbrev qI:=@List.mem_filter
abbrev zM:=@List.mem_flatMap
abbrev qx:=@List.mem_map
abbrev zA:=@List.mem_of_mem_take
abbrev zR:=@List.mem_or_eq_of_mem_set
abbrev qC:=@List.mem_range
abbrev wX:=@List.mergeSort_perm
abbrev zW:=@List.nil_append
abbrev ya:=@List.pairwise_append
abbrev zH:=@List.pairwise_cons
abbrev zp:=@List.pairwise_iff_getElem
abbrev y8:=@List.range_eq_range'
abbrev zV:=@List.range_succ
abbrev ye:=@List.set_set
abbrev wZ:=@List.size_toArray
abbrev qA:=@List.take_append_drop
abbrev qN:=@List.take_length
abbrev qg:=@List.take_of_length_le
abbrev zN:=@List.take_succ_eq_append_getElem
abbrev yF:=@List.zipWith_append
abbrev w4:=@Bool.not_false
abbrev yd:=@Bool.true_and
abbrev wN:=@Int.emod_lt_of_pos
abbrev yj:=@Int.emod_nonneg
abbrev wO:=@Int.fdiv_eq_ediv_of_nonneg
abbrev vL:=@Int.tmod_lt_of_pos
abbrev qk:=@Int.toNat_natCast
abbrev wy:=@UInt8.toNat_inj
abbrev zX:=@UInt8.xor_zero
abbrev wz:=@UInt8.zero_xor
abbrev w9:=@BitVec.ofInt_natCast
abbrev wH:=@List.any_eq_false
abbrev wq:=@List.any_eq_true
abbrev wY:=@List.filter_eq_self
abbrev we:=@List.findIdx_lt_length
abbrev qR:=@List.length_filter_le
abbrev qM:=@List.map_append
abbrev z6:=@List.map_cons
abbrev w7:=@List.map_map
abbrev zS:=@List.mem_append_left
abbrev yO:=@List.mem_replicate
abbrev yk:=@List.nodup_cons
abbrev vT:=@Nat.mul_comm
abbrev wF:=@Bool.not_eq_true'
abbrev yb:=@Bool.not_true
abbrev vz:=@UInt8.xor_comm
abbrev yw:=@Option.isSome_iff_exists
abbrev yg:=@Int.mul_le_mul
abbrev vV:=@Int.mul_nonneg
abbrev wQ:=@Int.natCast_mul
abbrev vI:=@Int.ofNat_inj
abbrev vX:=@Int.ofNat_lt
abbrev yQ:=@Int.tmod_eq_emod_of_nonneg
abbrev vp:=@List.all_append
abbrev vb:=@List.all_eq_false
abbrev y0:=@List.any_append
abbrev vo:=@List.filter_nil
abbrev z7:=@List.flatMap_nil
abbrev yy:=@List.foldl_nil
abbrev zm:=@List.getElem?_range
abbrev zO:=@List.getElem?_replicate
abbrev yh:=@List.getElem_take
abbrev yL:=@List.getElem_zip
abbrev y5:=@List.length_nil
abbrev yP:=@List.map_mergeSort
abbrev wM:=@List.mem_mergeSort
abbrev zT:=@List.mem_of_getElem?
abbrev yi:=@List.replicate_succ
abbrev qS:=@List.set_append_right
abbrev zu:=@List.set_cons_succ
abbrev zr:=@List.set_cons_zero
abbrev wv:=@List.take_append_of_le_length
abbrev wk:=@Nat.mod_eq_of_lt
abbrev wb:=@Nat.mul_one
abbrev zb:=@Nat.zero_le
abbrev wP:=@BitVec.toNat_ofNat
abbrev vq:=@Bool.false_or
abbrev vi:=@Prod.ext
abbrev wg:=@Int.natCast_nonneg
abbrev yI:=@Int.ofNat_le
abbrev wV:=@List.getElem_map
abbrev vW:=@List.map_nil
abbrev yf:=@List.pairwise_map
abbrev yV:=@List.getElem_set_self
abbrev yt:=@List.not_mem_nil
abbrev yp:=@List.drop_length
end Go.Qw
