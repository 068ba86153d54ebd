/- Lemmas for the proof of the law; no condition. -/
import Derived.Calls
import Derived.Orders
import Derived.Scope
import Derived.KernelRfl
import Derived.Laws.Sem
import Derived.OrdersHeld
set_option linter.unusedVariables false
set_option linter.unusedSimpArgs false
open Nat renaming beq -> wo, ble -> xy, blt -> xm, eq_of_beq_eq_true -> zu, le_of_ble_eq_true -> zF, le_refl -> qj
open Bool renaming and_eq_true -> qz, false_eq_true -> zc, or_eq_false_iff -> yH, or_eq_true -> yx, or_false -> va
open List renaming cons_append -> zD, getElem?_map -> qM, length_cons -> q7, mem_append_right -> yg, mem_cons -> qN, mem_cons_of_mem -> qp, mem_singleton -> qB
open BitVec renaming ofInt -> qF
open Go.IntKind renaming i64 -> xP
open Go.Instr renaming alloc -> yd, box -> vM, build -> xq, buildSlice -> zE, fill -> wz, loadAt -> xz, makeSlice -> zB, mapUpdate -> xt, slice -> xI, sliceAt -> w5, sliceBound -> vq, sliceBounds -> zY, storeAt -> qG
open Option renaming map_eq_some_iff -> yV, map_some -> zl, some -> z8
open Array renaming ext' -> vj, getElem?_toList -> ve, mapM_eq_mapM_toList -> vx, replicate -> vC, toList_map -> xf
open Go.Builtin renaming append_ -> q6, clear_ -> vO, copy_ -> w6, len_ -> xF
namespace Go.Qw
abbrev Heap:=Array Obj
def cellOf(h:Heap)(a:Addr):Option Value:=
 match h[a.block]? with
 |some (.cells c _ _)=>if a.spot.isSome then none else c[a.off]?
 |_=>none
def Rn(h:Heap)(a:Addr):Bool:=
 match h[a.block]? with
 |some (.cells _ _ (lo,hi))=>lo<=a.off&&a.off<hi
 |_=>false
def Ro(h:Heap)(a:Addr)(v:Value):Heap:=
 h.modify a.block λ
  | .cells c elem frozen=>.cells (if a.spot.isSome then c else c.setIfInBounds a.off v) elem frozen
  |o=>o
def shapeOf(h:Heap)(r:Nat):Option (TypeId×Nat):=match h[r]? with|some (.cells c elem _)=>some (elem,c.size)|_=>none
theorem Xd(w:World)(r:Nat):w.shape? r=shapeOf w.heap r:=rfl
theorem Is(w:World)(a:Addr):w.cell? a=cellOf w.heap a:=rfl
theorem aax(w:World)(a:Addr):w.frozen? a=Rn w.heap a:=rfl
theorem aay(w:World)(a:Addr)(v:Value):(w.setCell a v).heap=Ro w.heap a v:=rfl
structure dm (w w':World):Prop where
 os:w'.os=w.os
 tape:w'.tape=w.tape
 output:w'.output=w.output
 drawn:w.drawn<=w'.drawn
theorem dm.refl(w:World):dm w w:=⟨rfl,rfl,rfl,qj _⟩
theorem dm.trans{a b c:World}(h:dm a b)(k:dm b c):dm a c:=⟨k.os.trans h.os,k.tape.trans h.tape,k.output.trans h.output,Nat.le_trans h.drawn k.drawn⟩
def aj(P:Program)(f:FuncId)(args:Array Value)(h:Heap)(R:Value->Heap->Prop):Prop:=
 ∀w,w.heap=h->Calls P f args w λe w'=>∃v,e=.returned v/\dm w w'/\R v w'.heap
theorem aj.mono{P:Program}{f:FuncId}{args:Array Value}{h:Heap}{R a:Value->Heap->Prop}(d:aj P f args h R)
  (g:∀v h',R v h'->a v h'):aj P f args h a:=λw c=>
 (d w c).mono λ_ _ ⟨v,e,b,r⟩=>⟨v,e,b,g _ _ r⟩
theorem aj.G6{P:Program}{f:FuncId}{args:Array Value}{h:Heap}{R:Value->Heap->Prop}{t:Heap}{c:Value}(e:aj P f args h λv h'=>v=c/\h'=t) (k:R c t):aj P f args h R:=e.mono (by rintro _ _ ⟨rfl,rfl⟩;exact k)
theorem aj.G7{P:Program}{f:FuncId}{args:Array Value}{h:Heap}{R:Value->Heap->Prop}{c:Value}{Q:Heap->Prop}(e:aj P f args h λv h'=>v=c/\Q h') (k:∀t,Q t->R c t):aj P f args h R:=e.mono (by rintro _ t ⟨rfl,q⟩;exact k t q)
theorem aj.Hf{P:Program}{f:FuncId}{args:Array Value}{h:Heap}{R:Value->Heap->Prop}{α:Type}{g:α->Value}{Q:α->Heap->Prop}(e:aj P f args h λv h'=>∃x,v=g x/\Q x h') (k:∀x t,Q x t->R (g x) t):aj P f args h R:=e.mono (by rintro _ t ⟨x,rfl,q⟩;exact k x t q)
def au{α:Type}(P:Program)(s:Sem α)(h:Heap)(K:α->Heap->Prop):Prop:=
 ∀w,w.heap=h->∃v w',s.run P w=.ok v w'/\dm w w'/\K v w'.heap
variable {α β:Type} {P:Program} {h:Heap}
theorem au.pure'{K:α->Heap->Prop}{a:α}(c:K a h):au P (Pure.pure a) h K:=λw b=>⟨a,w,rfl,dm.refl w,by grind⟩
theorem au.bind{s:Sem α}{f:α->Sem β}{K:β->Heap->Prop}(i:au P s h λv h'=>au P (f v) h' K):au P (s>>=f) h K:=by intro w g;obtain⟨v,w',l,e,k⟩:=i w g;obtain⟨j,b,c,d,a⟩:=k w' rfl;exact⟨j,b,by rw[Sem.run_bind,l];exact c,e.trans d,a⟩
theorem au.mono{s:Sem α}{K d:α->Heap->Prop}(e:au P s h K)(g:∀v h',K v h'->d v h'):au P s h d:=λw f=>
 let⟨v,w',a,b,c⟩:=e w f;⟨v,w',a,b,g _ _ c⟩
theorem au.Xe{K:Program->Heap->Prop}(b:K P h):au P program h K:=λw a=>⟨P,w,rfl,dm.refl w,by grind⟩
theorem au.abB{a:Addr}{v v0:Value}{m:Mode}{K:Unit->Heap->Prop}(c:v.oneCell'=true)(d:cellOf h a=some v0)(e:Rn h a=false)(f:K () (Ro h a v)):
  au P (store a v m) h K:=λw b=>
 ⟨(),w.setCell a v,by rw[run_store _ _ _ _ _ c,Is,b,d];simp[aax,b,e],⟨rfl,rfl,rfl,qj _⟩,by rw[aay,b];exact f⟩
theorem au.oh{o:Obj}{K:Nat->Heap->Prop}(b:K h.size (h.push o)):au P (newObj o) h K:=λw a=>
 ⟨w.heap.size,_,run_newObj P w o,⟨rfl,rfl,rfl,qj _⟩,by grind⟩
theorem au.Bb{n:Nat}{K:Unit->Heap->Prop}(b:K () h):au P (askRoom n) h K:=λw a=>⟨(),w,run_askRoom P w n,dm.refl w,by grind⟩
theorem au.Ed{q:Question}{K:Nat->Heap->Prop}(b:(q.forced=true->K 0 h)/\(q.forced=false->∀n,K (q.cut n) h)):au P (choose q) h K:=by
 intro w a;cases hq:q.forced with
 |true=>exact⟨0,w,by rw[run_choose,hq];rfl,dm.refl w,by grind⟩
 |false=>exact⟨q.cut (w.tape w.drawn q),{w with drawn:=w.drawn+1},by rw[run_choose,hq];rfl,⟨rfl,rfl,rfl,Nat.le_succ _⟩,by grind⟩
theorem au.abC{r:Nat}{K:Option (TypeId×Nat)->Heap->Prop}(b:K (shapeOf h r) h):au P (shape r) h K:=λw a=>
 ⟨_,w,run_shape P w r,dm.refl w,by rw[Xd,a];exact b⟩
def Ay(P:Program)(s:Sem Next)(h:Heap)(K:Value->Heap->Prop):Prop:=
 au P s h λa h'=>match a with
  | .value v=>K v h'
  | .skip=>K undef h'
  | .enter f args=>aj P f args h' K
  |_=>False
theorem adL{P:Program}{o:Oper}{a:Act}{w:World}{K:Value->Heap->Prop}{Q:Exit->Act->World->Prop}
  (j:Ay P (execOp a.eval o) w.heap K) {next:Act->World->Prop}
  (h:∀v w',dm w w'->K v w'.heap->next (a.put o.dst v) w'):o.wp P a w next Q:=by
 obtain⟨k,w',g,d,c⟩:=j w rfl;unfold Oper.wp;rw[g];cases k<;>simp only at c<;>simp only[Oper.upon]
 case value v=>grind
 case skip=>grind
 case enter f args=>
  refine(c w' rfl).mono ?_;rintro e i ⟨v,rfl,b,r⟩;exact h _ _ (d.trans b) r
structure Sl where
 ptr:Option Addr
 len:Nat
 cap:Nat
 deriving Inhabited
inductive Sc where
 |int (k:IntKind)|bool|str|ptr|slc|flt (k:FloatKind)|cpx (k:FloatKind)|mp|fn|any|adr
@[reducible] def Sc.den:Sc->Type
 | .int _=>Int
 | .bool=>Bool
 | .str=>ByteArray
 | .ptr=>Option Addr
 | .slc=>Sl
 | .flt _=>Nat
 | .cpx _=>Nat×Nat
 | .mp=>Option Nat
 | .fn=>FuncId×Array Value×Array Value
 | .any=>Value
 | .adr=>Addr
@[reducible] def Sc.enc:(s:Sc)->s.den->Value
 | .int k,n=>.int k n
 | .bool,x=>.bool x
 | .str,x=>.string x
 | .ptr,a=>.pointer a
 | .slc,x=>.slice x.ptr x.len x.cap
 | .flt k,n=>.float k n
 | .cpx k,x=>.complex k x.1 x.2
 | .mp,r=>.map r
 | .fn,x=>.func (.func x.1) x.2.1 x.2.2
 | .any,v=>v
 | .adr,a=>.pointer (some a)
def Az:IntKind->IntKind->Bool
 | .i8,.i8| .i16,.i16| .i32,.i32| .i64,.i64| .u8,.u8| .u16,.u16| .u32,.u32| .u64,.u64=>true
 |_,_=>false
theorem EQ:∀{a b:IntKind},Az a b=true->a=b:=by intro a b;cases a<;>cases b<;>simp[Az]
def CB:FloatKind->FloatKind->Bool
 | .f32,.f32| .f64,.f64=>true
 |_,_=>false
theorem CC:∀{a b:FloatKind},CB a b=true->a=b:=by intro a b;cases a<;>cases b<;>simp[CB]
def Sc.dec:(s:Sc)->Value->Option s.den
 | .int k,.int k' n=>bif Az k k' then some n else none
 | .bool,.bool x=>some x
 | .str,.string x=>some x
 | .ptr,.pointer a=>some a
 | .slc,.slice a l c=>some ⟨a,l,c⟩
 | .flt k,.float k' n=>bif CB k k' then some n else none
 | .cpx k,.complex k' a b=>bif CB k k' then some (a,b)else none
 | .mp,.map r=>some r
 | .fn,.func (.func g) f c=>some (g,f,c)
 | .any,v=>some v
 | .adr,.pointer (some a)=>some a
 |_,_=>none
theorem Sc.pE{s:Sc}{v:Value}{x:s.den}(h:s.dec v=some x):v=s.enc x:=by
 cases s<;>cases v<;>simp only[Sc.dec]at h<;>try(first|(cases h;done)|(cases h;rfl))
 case int.int k k' n=>
  cases hk:Az k k'<;>simp[hk]at h;have:=EQ hk;grind
 case flt.float k k' n=>
  cases hk:CB k k'<;>simp[hk]at h;have:=CC hk;grind
 case cpx.complex k k' a b=>
  cases hk:CB k k'<;>simp[hk]at h;have:=CC hk;grind
 case fn.func g f c=>
  grind
 grind
@[reducible] def xY:List Sc->Type
 |[]=>Unit
 |[s]=>s.den
 |s::t::r=>s.den×xY (t::r)
@[reducible] def nW:(l:List Sc)->xY l->List Value
 |[],_=>[]
 |[s],x=>[s.enc x]
 |s::t::r,x=>s.enc x.1::nW (t::r) x.2
def Rp:(l:List Sc)->List Value->Option (xY l)
 |[],[]=>some ()
 |[s],[v]=>s.dec v
 |s::t::r,v::vs=>match s.dec v with
  |some x=>match Rp (t::r) vs with
   |some y=>some (x,y)
   |none=>none
  |none=>none
 |_,_=>none
theorem Uh:∀{l:List Sc} {vs:List Value} {x:xY l},Rp l vs=some x->vs=nW l x:=by
 intro l vs
 fun_induction Rp l vs with
 |case1=>intro x _;rfl
 |case2 s v=>intro x h;simp only[nW];rw[Sc.pE h]
 |case3 s t r v vs x hx y hy ih=>intro z h;cases h;simp only[nW];rw[Sc.pE hx,ih hy]
 |case4=>intro x h;cases h
 |case5=>intro x h;cases h
 |case6=>intro x h;cases h
inductive Ty where
 |sc (s:Sc)
 |agg (l:List Sc)
 |arr (s:Sc)
@[reducible] def Ty.den:Ty->Type
 | .sc s=>s.den
 | .agg l=>xY l
 | .arr s=>List s.den
@[reducible] def Ty.enc:(t:Ty)->t.den->Value
 | .sc s,x=>s.enc x
 | .agg l,x=>.agg (nW l x).toArray
 | .arr s,x=>.agg (x.map s.enc).toArray
def Ty.dec:(t:Ty)->Value->Option t.den
 | .sc s,v=>s.dec v
 | .agg l,.agg ⟨cs⟩=>Rp l cs
 |_,_=>none
theorem Ty.pE{t:Ty}{v:Value}{x:t.den}(h:t.dec v=some x):v=t.enc x:=by
 unfold Ty.dec at h;split at h
 .exact Sc.pE h
 .have:=Uh h;subst this;rfl
 .cases h
@[reducible] def Lc:List Ty->Type
 |[]=>Unit
 |[s]=>s.den
 |s::t::r=>s.den×Lc (t::r)
@[reducible] def Rq:(l:List Ty)->Lc l->List Value
 |[],_=>[]
 |[s],x=>[s.enc x]
 |s::t::r,x=>s.enc x.1::Rq (t::r) x.2
inductive Rt where
 |one (t:Ty)
 |many (l:List Ty)
@[reducible] def Rt.den:Rt->Type
 | .one t=>t.den
 | .many l=>Lc l
@[reducible] def Rt.enc:(r:Rt)->r.den->Value
 | .one t,x=>t.enc x
 | .many l,x=>.tuple (Rq l x).toArray
inductive pF where
 |val (t:Nat) (x:Value)
 |kil (lo hi:Nat)
abbrev Env:=List pF
def pF.fg:pF->Nat->Bool
 | .val s _,t=>wo s t
 | .kil lo hi,t=>xy lo t&&xm t hi
def Env.get:Env->Nat->Option Value
 |[],_=>none
 | .val s x::r,t=>bif wo s t then some x else Env.get r t
 | .kil lo hi::r,t=>bif xy lo t&&xm t hi then none else Env.get r t
def Env.fg:Env->Nat->Bool
 |[],_=>false
 |e::r,t=>e.fg t||Env.fg r t
theorem Env.Xf(e:pF)(r:Env)(t:Nat)(h:e.fg t=false):Env.get (e::r) t=Env.get r t:=by
 cases e<;>simp only[pF.fg]at h<;>simp[Env.get,h]
theorem Env.get_append{δ ρ:Env}{t:Nat}(h:δ.fg t=false):Env.get (δ++ρ) t=Env.get ρ t:=by
 induction δ with
 |nil=>rfl
 |cons e r ih=>
  simp only[Env.fg,yH]at h;rw[zD,Env.Xf _ _ _ h.1,ih h.2]
theorem Env.xZ{δ ρ:Env}{t:Nat}:Env.fg (δ++ρ) t=(δ.fg t||ρ.fg t):=by
 induction δ with
 |nil=>simp[Env.fg]
 |cons e r ih=>simp[Env.fg,ih,Bool.or_assoc]
structure Fits (n:Nat) (a:Act) (ρ:Env):Prop where
 size:a.tmps.size=n
 defers:a.defers=[]
 get:∀t x,ρ.get t=some x->a.tmps[t]?=some x
def Ext(ρ c:Env)(a b:Act):Prop:=∃δ:Env,c=δ++ρ/\∀t,δ.fg t=false->b.tmps[t]?=a.tmps[t]?
theorem Ext.refl(ρ:Env)(a:Act):Ext ρ ρ a a:=⟨[],rfl,λ_ _=>rfl⟩
theorem Ext.trans{ρ f c:Env}{a e b:Act}(h:Ext ρ f a e)(k:Ext f c e b):Ext ρ c a b:=by obtain⟨δ,rfl,h⟩:=h;obtain⟨g,rfl,k⟩:=k;refine⟨g++δ,by simp,λt d=>?_⟩;rw[Env.xZ,yH]at d;rw[k t d.1,h t d.2]
def Env.eval(ρ:Env):Operand->Option Value
 | .tmp t=>ρ.get t
 | .const v=>some v
 | .global g=>some (.pointer (some ⟨g,0,none⟩))
 | .func f=>some (.func (.func f) #[] #[])
theorem Fits.eval{n:Nat}{a:Act}{ρ:Env}(h:Fits n a ρ){x:Operand}{v:Value}(b:ρ.eval x=some v):a.eval x=v:=by
 cases x<;>simp only[Env.eval]at b<;>simp only[Act.eval]
 case tmp t=>have:=h.get t v b;simp[Array.getD_eq_getD_getElem?,this]
 all_goals (injection b)
theorem Fits.put{n:Nat}{a:Act}{ρ:Env}(h:Fits n a ρ){d:Nat}(f:xm d n=true)(v:Value):Fits n (a.put (some d) v) (.val d v::ρ):=by
 have c:d<n:=zF f;refine⟨by simp[Act.put,h.size],h.defers,λt x b=>?_⟩;simp only[Env.get]at b;simp only[Act.put,Array.getElem?_setIfInBounds];cases hb:wo d t with
 |true=>
  rw[hb]at b;have:d=t:=zu hb;subst this;simp at b;simp[h.size,c,b]
 |false=>
  rw[hb]at b;have:d≠t:=λe=>by subst e;simp at hb
  simp only[this,if_false];exact h.get t x b
theorem Ext.put{ρ:Env}{a:Act}{d:Nat}(v u:Value):Ext ρ (.val d u::ρ) a (a.put (some d) v):=by
 refine⟨[.val d u],rfl,λt b=>?_⟩;simp only[Env.fg,pF.fg,va]at b;have:d≠t:=λe=>by subst e;simp at b
 simp[Act.put,this]
abbrev dG:=List (Nat×Ty)
@[reducible] def dG.den:dG->Type
 |[]=>Unit
 |[s]=>s.2.den
 |s::t::r=>s.2.den×dG.den (t::r)
def dG.vals:(σ:dG)->σ.den->Env->Env
 |[],_,ρ=>ρ
 |[s],x,ρ=>.val s.1 (s.2.enc x)::ρ
 |s::t::r,x,ρ=>.val s.1 (s.2.enc x.1)::dG.vals (t::r) x.2 ρ
def dG.read:(σ:dG)->Env->Option σ.den
 |[],_=>some ()
 |[s],ρ=>match ρ.get s.1 with
  |some v=>s.2.dec v
  |none=>none
 |s::t::r,ρ=>match ρ.get s.1 with
  |some v=>match s.2.dec v with
   |some x=>match dG.read (t::r) ρ with
    |some y=>some (x,y)
    |none=>none
   |none=>none
  |none=>none
def dG.has:dG->Nat->Bool
 |[],_=>false
 |s::r,t=>wo s.1 t||dG.has r t
abbrev dn:=List (Nat×Nat)
def dn.over:dn->Env->Env
 |[],ρ=>ρ
 |(lo,hi)::r,ρ=>.kil lo hi::dn.over r ρ
def dn.has:dn->Nat->Nat->Bool
 |[],_,_=>false
 |(lo,hi)::r,a,b=>(xy lo a&&xy b hi)||dn.has r a b
def within(σ:dG)(κ:dn):Env->Nat->Bool
 |_,0=>true
 |[],_+1=>true
 | .val t _::r,n+1=>(dG.has σ t||dn.has κ t (t+1))&&within σ κ r n
 | .kil lo hi::r,n+1=>dn.has κ lo hi&&within σ κ r n
theorem dn.Xg{κ:dn}{a b:Nat}(h:κ.has a b=true){t:Nat}(f:a<=t)(e:t<b)(ρ:Env):∃δ:Env,κ.over ρ=δ++ρ/\δ.fg t=true:=by
 induction κ with
 |nil=>simp[dn.has]at h
 |cons p r ih=>
  obtain⟨d,c⟩:=p;simp only[dn.has,yx,qz]at h;obtain⟨δ,g⟩:∃δ:Env,dn.over r ρ=δ++ρ:=by
   clear ih h
   induction r with
   |nil=>exact⟨[],rfl⟩
   |cons q r ih=>obtain⟨δ,h⟩:=ih;exact⟨.kil q.1 q.2::δ,by show pF.kil q.1 q.2::dn.over r ρ=_;rw[h];rfl⟩
  rcases h with h|h
  .have l:=zF h.1;have k:=zF h.2;refine⟨.kil d c::δ,by simp[dn.over,g],?_⟩;have i:xy d t=true:=Nat.ble_eq_true_of_le (by omega);have x2:xm t c=true:=by unfold xm;exact Nat.ble_eq_true_of_le (by omega)
   simp[Env.fg,pF.fg,i,x2]
  .obtain⟨j,f,e⟩:=ih h;exact⟨.kil d c::j,by simp[dn.over,f],by simp[Env.fg,e]⟩
theorem dn.Lo(κ:dn)(ρ:Env):κ.over ρ=κ.over []++ρ:=by
 induction κ with
 |nil=>rfl
 |cons p r ih=>obtain⟨b,a⟩:=p;simp[dn.over,ih]
theorem dG.Ft:∀(σ:dG) (x:σ.den) (ρ:Env),σ.vals x ρ=σ.vals x []++ρ
 |[],_,ρ=>rfl
 |[s],x,ρ=>rfl
 |s::t::r,x,ρ=>by simp only[dG.vals];rw[dG.Ft (t::r) x.2 ρ];rfl
theorem dG.uK:∀(σ:dG) (x:σ.den) (t:Nat),(σ.vals x []).fg t=σ.has t
 |[],_,_=>rfl
 |[s],x,t=>by simp[dG.vals,Env.fg,pF.fg,dG.has]
 |s::u::r,x,t=>by
  have:=dG.uK (u::r) x.2 t;simp only[dG.vals,Env.fg,pF.fg,this];rfl
theorem dG.Lp:∀(σ:dG) (x:σ.den) (e:Env) (t:Nat),σ.has t=true->((σ.vals x [])++e).get t=(σ.vals x []).get t
 |[],_,_,_,h=>by cases h
 |[s],x,e,t,h=>by
  simp only[dG.has,va]at h;simp[dG.vals,Env.get,h]
 |s::u::r,x,e,t,h=>by
  simp only[dG.vals,zD,Env.get];cases hb:wo s.1 t with
  |true=>rfl
  |false=>
   have h':dG.has (u::r) t=true:=by have a:(wo s.1 t||dG.has (u::r) t)=true:=h;rw[hb]at a;exact a
   simpa using dG.Lp (u::r) x.2 e t h'
theorem dn.Jp{κ:dn}{a b t:Nat}(h:κ.has a b=true)(f:a<=t)(d:t<b):(κ.over []).fg t=true:=by obtain⟨δ,c,e⟩:=dn.Xg h f d [];rw[c];simpa using e
theorem pG{σ:dG}{κ:dn}:∀{δ ρ:Env},within σ κ (δ++ρ) δ.length=true->∀t,σ.has t=false->(κ.over []).fg t=false->δ.fg t=false
 |[],_,_,_,_,_=>rfl
 | .val s x::r,ρ,h,t,h1,h2=>by
  simp only[zD,q7,within,qz,yx]at h;simp only[Env.fg,pF.fg,yH];refine⟨?_,pG h.2 t h1 h2⟩;cases hb:wo s t with
  |false=>rfl
  |true=>
   have:s=t:=zu hb;subst this;rcases h.1 with h|h
   .rw[h]at h1;cases h1
   .rw[dn.Jp h (qj _) (Nat.lt_succ_self _)]at h2;cases h2
 | .kil lo hi::r,ρ,h,t,h1,h2=>by
  simp only[zD,q7,within,qz]at h;simp only[Env.fg,pF.fg,yH];refine⟨?_,pG h.2 t h1 h2⟩;cases hb:(xy lo t&&xm t hi)with
  |false=>rfl
  |true=>
   simp only[qz]at hb;have b:=zF hb.1;have a:t<hi:=zF hb.2;rw[dn.Jp h.1 b a]at h2;cases h2
theorem dG.Lq:∀{σ:dG} {ρ:Env} {x:σ.den} {t:Nat} {v:Value},σ.read ρ=some x->(σ.vals x []).get t=some v->ρ.get t=some v∨False
 |[],_,_,_,_,_,h=>by simp[dG.vals,Env.get]at h
 |[s],ρ,x,t,v,h,hv=>by
  simp only[dG.read]at h;split at h
  .rename_i u d;simp only[dG.vals,Env.get]at hv;cases hb:wo s.1 t with
   |true=>
    rw[hb]at hv;have:=zu hb;simp at hv;subst hv;rw[<-Ty.pE h,<-this];exact .inl d
   |false=>rw[hb]at hv;simp at hv
  .cases h
 |s::u::r,ρ,x,t,v,h,hv=>by
  simp only[dG.read]at h;split at h
  .rename_i z c;split at h
   .rename_i y b;split at h
    .rename_i w a;cases h;simp only[dG.vals,Env.get]at hv;cases hb:wo s.1 t with
     |true=>
      rw[hb]at hv;have:=zu hb;simp at hv;subst hv;rw[<-Ty.pE b,<-this];exact .inl c
     |false=>
      rw[hb]at hv;exact dG.Lq (σ:=u::r) a hv
    .cases h
   .cases h
  .cases h
theorem Fits.pH{n:Nat}{a d:Act}{σ:dG}{κ:dn}{ρ g:Env}{x:σ.den}(i:Fits n a ρ)(h:Fits n d g)
  (b:∀t,σ.has t=false->(κ.over []).fg t=false->d.tmps[t]?=a.tmps[t]?) (j:σ.read g=some x):
  Fits n d (σ.vals x (κ.over ρ))/\Ext ρ (σ.vals x (κ.over ρ)) a d:=by
 rw[dG.Ft,dn.Lo];refine⟨⟨h.size,h.defers,λt v c=>?_⟩,⟨σ.vals x []++κ.over [],by simp,λt f=>?_⟩⟩
 .cases h1:σ.has t with
  |true=>
   have:∀(e:Env),((σ.vals x [])++e).get t=(σ.vals x []).get t:=λe=>dG.Lp σ x e t h1;rw[this]at c;rcases dG.Lq j c with h2|h2
   .exact h.get t v h2
   .exact h2.elim
  |false=>
   rw[Env.get_append (by rw[dG.uK];exact h1)]at c;cases h2:(κ.over []).fg t with
   |true=>
    have:∀(e:Env),((κ.over [])++e).get t=none:=by
     intro e;clear b c
     induction κ with
     |nil=>simp[dn.over,Env.fg]at h2
     |cons p r ih=>
      obtain⟨l,k⟩:=p;simp only[dn.over,Env.fg,pF.fg]at h2;simp only[dn.over,zD,Env.get];cases hb:(xy l t&&xm t k)with
      |true=>rfl
      |false=>rw[hb]at h2;simp at h2;simpa using ih h2
    rw[this]at c;cases c
   |false=>
    rw[Env.get_append h2]at c;rw[b t h1 h2];exact i.get t v c
 .rw[Env.xZ,yH,dG.uK]at f;exact b t f.1 f.2
theorem Ext.within{a e:Act}{σ:dG}{κ:dn}{ρ c:Env}(f:Ext ρ c a e)(d:within σ κ c (c.length-ρ.length)=true):
  ∀t,σ.has t=false->(κ.over []).fg t=false->e.tmps[t]?=a.tmps[t]?:=by
 obtain⟨δ,rfl,i⟩:=f;have b:(δ++ρ).length-ρ.length=δ.length:=by simp
 rw[b]at d;exactλt h g=>i t (pG d t h g)
theorem Ext.pH{a c:Act}{σ:dG}{κ:dn}{ρ:Env}{x:σ.den}(d:Ext ρ (σ.vals x (κ.over ρ)) a c):
  ∀t,σ.has t=false->(κ.over []).fg t=false->c.tmps[t]?=a.tmps[t]?:=by
 obtain⟨δ,b,g⟩:=d;rw[dG.Ft,dn.Lo,<-List.append_assoc]at b;have:=List.append_cancel_right b;subst this;exactλt f e=>g t (by rw[Env.xZ,dG.uK,f,e];rfl)
inductive nv where
 |int (k:IntKind)|bool|str|flt|cpx|mp|fn|other
 |slice (e:TypeId)|array (n:Nat) (e:TypeId)|struct (fs:List (Nat×TypeId))|ptr (e:TypeId)
def jh:Option TypeDesc->nv
 |some (.int k)=>.int k
 |some .bool=>.bool
 |some .string=>.str
 |some (.float _)=>.flt
 |some (.complex _)=>.cpx
 |some (.map ..)=>.mp
 |some (.func ..)=>.fn
 |some (.slice e)=>.slice e
 |some (.array n e)=>.array n e
 |some (.struct fs)=>.struct (fs.toList.map λf=>(f.offset,f.type))
 |some (.pointer e)=>.ptr e
 |_=>.other
structure TI where
 co:nv
 ty:Ty
 size:Nat
 bytes:Nat
 zero:List Value
abbrev kt:=List TI
def kt.seen(P:Program)(t:TypeId):nv×Option (Nat×Nat×Option (List Value)):=
 (jh (P.underlying t),(P.info? t).map λi=>(i.size,i.bytes,i.zero.map (·.cells.toList)))
def kt.told(i:TI):nv×Option (Nat×Nat×Option (List Value)):=(i.co,some (i.size,i.bytes,some i.zero))
def kt.get:kt->Nat->Option TI
 |[],_=>none
 |i::_,0=>some i
 |_::r,t+1=>kt.get r t
structure AA where
 P:Program
 T:kt
structure AA.Ok (C:AA):Prop where
 QH:(List.range C.T.length).map (kt.seen C.P)=C.T.map kt.told
 mixed:C.P.follows .mixedOrders=true
theorem kt.get_eq:∀(T:kt) (t:Nat),T.get t=T[t]?
 |[],_=>rfl
 |_::_,0=>rfl
 |_::r,t+1=>by simp[kt.get,kt.get_eq r t]
theorem AA.Ok.at{C:AA}(h:C.Ok){t:Nat}{i:TI}(a:C.T.get t=some i):kt.seen C.P t=kt.told i:=by
 rw[kt.get_eq]at a;have:=congrArg (·[t]?) h.QH
 grind
def Br(b:Bool)(A B:Prop):Prop:=match b with
 |true=>A
 |false=>B
inductive PV:Type 1 where
 |no
 |val (v:Value)
 |cond (c:Prop) (v:Value)
 |ex (X:Type) (c:X->Prop) (v:X->Value)
 |br (b:Bool) (x y:Value)
def PV.holds(p:PV)(K:Value->Prop):Prop:=match p with
 | .no=>False
 | .val v=>K v
 | .cond c v=>c/\K v
 | .ex _ c v=>∃x,c x/\K (v x)
 | .br b x y=>Br b (K x) (K y)
def rI(P:Program)(s:Sem Next)(v:Value):Prop:=∀w,s.run P w=.ok (.value v) w
def aL{α:Type}(P:Program)(s:Sem α)(v:α):Prop:=∀w,s.run P w=.ok v w
def iN(P:Program)(op:BinOp)(t:TypeId)(x y:Operand)(a b r:Value):Prop:=aL P (do eqGuard op t x y a b;binOp op t a b) r
def Zp:Operand->Bool
 | .tmp _=>true
 |_=>false
def Xh(P:Program)(t:TypeId)(x y:Operand)(d:Option nv)(op:BinOp):Value->Value->PV
 | .int k a,.int k' b=>
  match op with
  | .shl=>.cond (0<=b) (.int k (k.wrap (a*2^min b.toNat k.bits)))
  | .shr=>.cond (0<=b) (.int k (a.fdiv (2^min b.toNat k.bits)))
  |_=>bif Az k k' then
   match op with
   | .add=>.val (.int k (k.wrap (a+b)))
   | .sub=>.val (.int k (k.wrap (a-b)))
   | .mul=>.val (.int k (k.wrap (a*b)))
   | .quo=>.cond (b≠0) (.int k (k.wrap (a.tdiv b)))
   | .rem=>.cond (b≠0) (.int k (a.tmod b))
   | .and=>.val (.int k (k.wrap (qF k.bits a&&&qF k.bits b).toNat))
   | .or=>.val (.int k (k.wrap (qF k.bits a|||qF k.bits b).toNat))
   | .xor=>.val (.int k (k.wrap (qF k.bits a^^^qF k.bits b).toNat))
   | .andNot=>.val (.int k (k.wrap (qF k.bits a&&&~~~qF k.bits b).toNat))
   | .eql=>.val (.bool (a==b))
   | .neq=>.val (.bool (a !=b))
   | .lss=>.val (.bool (decide (a<b)))
   | .leq=>.val (.bool (decide (a<=b)))
   | .gtr=>.val (.bool (decide (a>b)))
   | .geq=>.val (.bool (decide (a>=b)))
   |_=>.no
  else .no
 | .float k a,.float k' b=>bif CB k k' then
   match op with
   | .add=>.ex Nat (λr=>k.format.add a b=some r) (λr=>.float k r)
   | .sub=>.ex Nat (λr=>k.format.sub a b=some r) (λr=>.float k r)
   | .mul=>.ex Nat (λr=>k.format.mul a b=some r) (λr=>.float k r)
   | .quo=>.ex Nat (λr=>k.format.div a b=some r) (λr=>.float k r)
   | .eql=>.val (.bool (k.format.order a b==some .eq))
   | .neq=>.val (.bool (k.format.order a b !=some .eq))
   | .lss=>.val (.bool (k.format.order a b==some .lt))
   | .gtr=>.val (.bool (k.format.order a b==some .gt))
   |_=>.no
  else .no
 | .string a,.string b=>
  match op with
  | .eql=>.val (.bool (a.toList==b.toList))
  | .neq=>.val (.bool (!(a.toList==b.toList)))
  | .lss=>.val (.bool (Op.bytesLess a.toList b.toList))
  | .leq=>.val (.bool (Op.bytesLess a.toList b.toList||a.toList==b.toList))
  | .gtr=>.val (.bool (!(Op.bytesLess a.toList b.toList||a.toList==b.toList)))
  | .geq=>.val (.bool (!(Op.bytesLess a.toList b.toList)))
  | .add=>.cond (((a.size+b.size:Nat):Int)<=xP.max) (.string (a++b))
  |_=>.no
 | .bool a,.bool b=>
  match d with
  |some .bool=>match op with
   | .eql=>.val (.bool (a==b))
   | .neq=>.val (.bool (!(a==b)))
   |_=>.no
  |_=>.no
 | .pointer a,.pointer b=>bif Zp y then .ex Bool (λr=>iN P op t x y (.pointer a) (.pointer b) (.bool r)) (λr=>.bool r)else
  match b with
  |none=>match d with
   |some (.ptr _)=>match op with
    | .eql=>.val (.bool a.isNone)
    | .neq=>.val (.bool (!a.isNone))
    |_=>.no
   |_=>.no
  |some _=>.no
 | .slice a _ _,.slice none _ _=>
  match d with
  |some (.slice _)=>match op with
   | .eql=>.val (.bool a.isNone)
   | .neq=>.val (.bool (!a.isNone))
   |_=>.no
  |_=>.no
 | .agg a,.agg b=>.ex Bool (λr=>iN P op t x y (.agg a) (.agg b) (.bool r)) (λr=>.bool r)
 | .complex k a b,.complex k' c e=>
  match op with
  | .eql| .neq=>.ex Bool (λr=>iN P op t x y (.complex k a b) (.complex k' c e) (.bool r)) (λr=>.bool r)
  |_=>.ex (Nat×Nat) (λr=>iN P op t x y (.complex k a b) (.complex k' c e) (.complex k r.1 r.2)) (λr=>.complex k r.1 r.2)
 |_,_=>.no
def Xi(P:Program)(t:TypeId)(x y:Operand)(d:Option nv)(op:BinOp)(a:Value):Value->PV
 | .nilIface=>.ex Bool (λr=>iN P op t x y a .nilIface (.bool r)) (λr=>.bool r)
 |b=>Xh P t x y d op a b
def unV(op:UnOp):Value->PV
 | .bool b=>match op with
  | .not=>.val (.bool !b)
  |_=>.no
 | .int k n=>match op with
  | .neg=>.val (.int k (k.wrap (0-n)))
  | .xor=>.val (.int k (k.wrap (qF k.bits (if k.signed then-1 else k.max)^^^qF k.bits n).toNat))
  |_=>.no
 |_=>.no
def pC(ev:Operand->Option Value):List Operand->Option (List Value)
 |[]=>some []
 |x::r=>match ev x with
  |some v=>match pC ev r with
   |some vs=>some (v::vs)
   |none=>none
  |none=>none
def CD(ev:Operand->Option Value):List (Nat×Operand)->Option (List (Nat×Value))
 |[]=>some []
 |(n,x)::r=>match ev x with
  |some v=>match CD ev r with
   |some vs=>some ((n,v)::vs)
   |none=>none
  |none=>none
def placesOf(T:kt):List (Nat×TypeId)->Option (List (Nat×Nat))
 |[]=>some []
 |(off,t)::r=>match T.get t with
  |some j=>match placesOf T r with
   |some ps=>some ((off,j.size)::ps)
   |none=>none
  |none=>none
def Gu(ev:Operand->Option Value):Option Operand->Option (Option Int)
 |none=>some none
 |some x=>match ev x with
  |some (.int _ n)=>some (some n)
  |_=>none
def abD(d:Option nv):Value->PV
 | .slice _ n _=>match d with
  |some (.slice _)=>.val (.int .i64 n)
  |_=>.no
 | .string s=>match d with
  |some .str=>.val (.int .i64 s.size)
  |_=>.no
 |_=>.no
def abE(d:Option nv):Value->PV
 | .slice _ _ n=>match d with
  |some (.slice _)=>.val (.int .i64 n)
  |_=>.no
 |_=>.no
def Zq(d:Option nv):Value->PV
 | .int _ n=>match d with
  |some (.int k)=>.val (.int k (k.wrap n))
  |_=>.no
 |_=>.no
def AB(P:Program)(T:kt)(op:Op)(ev:Operand->Option Value):PV:=
 match op with
 | .move x| .assign x=>match ev x with
  |some v=>.val v
  |none=>.no
 | .pick c a b=>match ev c,ev a,ev b with
  |some (.bool t),some x,some y=>.br t x y
  |_,_,_=>.no
 | .nilCheck x=>match ev x with
  |some (.pointer p)=>.ex Addr (λa=>p=some a) (λa=>.pointer (some a))
  |_=>.no
 | .fieldAddr s x f=>match ev x with
  |some (.pointer (some a))=>match T.get s with
   |some i=>match i.co with
    | .struct fs=>match fs[f]? with
     |some (off,t)=>match T.get t with
      |some j=>bif wo j.size 0 then .no else .val (.pointer (some (a.add off)))
      |none=>.no
     |none=>.no
    |_=>.no
   |none=>.no
  |_=>.no
 | .indexAddr t x ix=>match ev ix with
  |some (.int _ n)=>match ev x with
   |some (.slice p len _)=>match T.get t with
    |some i=>match i.co with
     | .slice e=>match T.get e with
      |some j=>.ex Addr (λa=>p=some a/\0<=n/\n<(len:Int)) (λa=>.pointer (some (a.add (n.toNat*j.size))))
      |none=>.no
     |_=>.no
    |none=>.no
   |some (.pointer (some a))=>match T.get t with
    |some i=>match i.co with
     | .array m e=>match T.get e with
      |some j=>.cond (0<=n/\n<(m:Int)) (.pointer (some (a.add (n.toNat*j.size))))
      |none=>.no
     |_=>.no
    |none=>.no
   |_=>.no
  |_=>.no
 | .index t x ix=>match ev ix with
  |some (.int _ n)=>match ev x with
   |some (.string s)=>match T.get t with
    |some i=>match i.co with
     | .str=>.ex UInt8 (λb=>0<=n/\s.data[n.toNat]?=some b) (λb=>.int .u8 b.toNat)
     |_=>.no
    |none=>.no
   |some (.agg cs)=>match T.get t with
    |some i=>match i.co with
     | .array m e=>match T.get e with
      |some j=>match j.ty with
       | .sc s=>match j.co with
        | .struct _=>.no
        | .array _ _=>.no
        | .other=>.no
        |_=>bif wo j.size 1 then .ex s.den (λy=>0<=n/\n<(m:Int)/\cs[n.toNat]?=some (s.enc y)) (λy=>s.enc y)else .no
       |_=>.no
      |none=>.no
     |_=>.no
    |none=>.no
   |_=>.no
  |_=>.no
 | .field s x f=>match ev x with
  |some (.agg ⟨cs⟩)=>match T.get s with
   |some i=>match i.co with
    | .struct fs=>match fs[f]? with
     |some (off,t)=>match T.get t with
      |some j=>match j.co with
       | .struct _=>.val (.agg ((cs.drop off).take j.size).toArray)
       | .array _ _=>.val (.agg ((cs.drop off).take j.size).toArray)
       | .other=>.no
       |_=>match cs[off]? with
        |some v=>.val v
        |none=>.no
      |none=>.no
     |none=>.no
    |_=>.no
   |none=>.no
  |_=>.no
 | .slice t x lo hi mx=>match mx with
  |some _=>.no
  |none=>match Gu ev lo,Gu ev hi with
   |some l,some r=>match ev x with
    |some (.slice p len cap)=>match T.get t with
     |some i=>match i.co with
      | .slice e=>match T.get e with
       |some j=>match l,r with
        |none,none=>.val (.slice p len cap)
        |none,some r=>.cond (0<=r/\r<=(cap:Int)) (.slice p r.toNat cap)
        |some l,none=>.cond (0<=l/\l<=(len:Int)) (.slice (if cap=l.toNat then p else p.map (·.add (l.toNat*j.size))) (len-l.toNat) (cap-l.toNat))
        |some l,some r=>.cond (0<=l/\l<=r/\r<=(cap:Int)) (.slice (if cap=l.toNat then p else p.map (·.add (l.toNat*j.size))) (r.toNat-l.toNat) (cap-l.toNat))
       |none=>.no
      |_=>.no
     |none=>.no
    |some (.string s)=>match T.get t with
     |some i=>match i.co with
      | .str=>match l,r with
       |none,none=>.val (.string (s.extract 0 s.size))
       |none,some r=>.cond (0<=r/\r<=(s.size:Int)) (.string (s.extract 0 r.toNat))
       |some l,none=>.cond (0<=l/\l<=(s.size:Int)) (.string (s.extract l.toNat s.size))
       |some l,some r=>.cond (0<=l/\l<=r/\r<=(s.size:Int)) (.string (s.extract l.toNat r.toNat))
      |_=>.no
     |none=>.no
    |some (.pointer (some a))=>match T.get t with
     |some i=>match i.co with
      | .array n e=>match T.get e with
       |some j=>match l,r with
        |none,none=>.val (.slice (some a) n n)
        |none,some r=>.cond (0<=r/\r<=(n:Int)) (.slice (some a) r.toNat n)
        |some l,none=>.cond (0<=l/\l<=(n:Int)) (.slice (some (if n=l.toNat then a else a.add (l.toNat*j.size))) (n-l.toNat) (n-l.toNat))
        |some l,some r=>.cond (0<=l/\l<=r/\r<=(n:Int)) (.slice (some (if n=l.toNat then a else a.add (l.toNat*j.size))) (r.toNat-l.toNat) (n-l.toNat))
       |none=>.no
      |_=>.no
     |none=>.no
    |_=>.no
   |_,_=>.no
 | .extract x n=>match ev x with
  |some (.tuple ⟨vs⟩)=>match vs[n]? with
   |some v=>.val v
   |none=>.no
  |_=>.no
 | .binOp op t x y _=>match ev x,ev y with
  |some a,some b=>Xi P t x y ((T.get t).map (·.co)) op a b
  |_,_=>.no
 | .unOp op _ x=>match ev x with
  |some v=>unV op v
  |none=>.no
 | .convert src dst x=>match ev x,(T.get src).map TI.co with
  |some v,some (nv.int _)=>Zq ((T.get dst).map (·.co)) v
  |_,_=>.no
 | .build t parts=>match CD ev parts.toList with
  |some vs=>match T.get t with
   |some i=>bif xm 24 i.size then .ex Value (λv=>aL P (xq t vs.toArray) v) (λv=>v)else match i.co with
    | .struct fs=>match placesOf T fs with
     |some ps=>match wz (λn=>ps[n]?) i.zero.toArray vs with
      |some cells=>.val (.agg cells)
      |none=>.no
     |none=>.no
    | .array _ e=>match T.get e with
     |some j=>match wz (λn=>some (n*j.size,j.size)) i.zero.toArray vs with
      |some cells=>.val (.agg cells)
      |none=>.no
     |none=>.no
    |_=>.no
   |none=>.no
  |none=>.no
 | .makeFunc fn first captured=>match pC ev first.toList,pC ev captured.toList with
  |some a,some b=>.val (.func fn a.toArray b.toArray)
  |_,_=>.no
 | .call c=>match c.callee with
  | .builtin b=>match b with
   | .len=>match c.argTypes.toList,c.args.toList with
    |t::_,[x]=>match ev x with
     |some v=>abD ((T.get t).map (·.co)) v
     |none=>.no
    |_,_=>.no
   | .cap=>match c.argTypes.toList,c.args.toList with
    |t::_,[x]=>match ev x with
     |some v=>abE ((T.get t).map (·.co)) v
     |none=>.no
    |_,_=>.no
   | .min=>match pC ev c.args.toList with
    |some [.int k a,.int _ b]=>.val (.int k (if b<a then b else a))
    |_=>.no
   | .max=>match pC ev c.args.toList with
    |some [.int k a,.int _ b]=>.val (.int k (if b>a then b else a))
    |_=>.no
   | .real=>match pC ev c.args.toList with
    |some [.complex k a _]=>.val (.float k a)
    |_=>.no
   | .imag=>match pC ev c.args.toList with
    |some [.complex k _ b]=>.val (.float k b)
    |_=>.no
   |_=>.no
  |_=>.no
 |_=>.no
theorem aL.next{P:Program}{s:Sem Value}{v:Value}(h:aL P s v):rI P (do pure (.value (<-s))) v:=λw=>by
 rw[Sem.run_bind,h w];rfl
theorem aL.pure{α:Type}{P:Program}{v:α}:aL P (pure v) v:=λ_=>rfl
theorem aL.bind{α β:Type}{P:Program}{s:Sem α}{f:α->Sem β}{v:α}{u:β}(h:aL P s v)(k:aL P (f v) u):aL P (s>>=f) u:=λw=>by
 rw[Sem.run_bind,h w];exact k w
theorem Ee{d:Option TypeDesc}{k:IntKind}(h:jh d=.int k):d=some (.int k):=by unfold jh at h;grind
theorem Xj{d:Option TypeDesc}(h:jh d=.bool):d=some .bool:=by unfold jh at h;grind
theorem th{d:Option TypeDesc}(h:jh d=.str):d=some .string:=by unfold jh at h;grind
theorem iB{d:Option TypeDesc}{e:TypeId}(h:jh d=.slice e):d=some (.slice e):=by unfold jh at h;grind
theorem rJ{d:Option TypeDesc}{n:Nat}{e:TypeId}(h:jh d=.array n e):d=some (.array n e):=by unfold jh at h;grind
theorem aaz{d:Option TypeDesc}{e:TypeId}(h:jh d=.ptr e):d=some (.pointer e):=by unfold jh at h;grind
theorem oJ{d:Option TypeDesc}{b:List (Nat×TypeId)}(h:jh d=.struct b):∃a,d=some (.struct a)/\b=a.toList.map λf=>(f.offset,f.type):=by unfold jh at h;grind
variable {t:TypeId} {i:TI}
section
variable {C:AA}
theorem AA.Ok.co(h:C.Ok)(a:C.T.get t=some i):jh (C.P.underlying t)=i.co:=congrArg Prod.fst (h.at a)
theorem AA.Ok.info(h:C.Ok)(a:C.T.get t=some i):∃f,C.P.info? t=some f/\f.size=i.size/\f.bytes=i.bytes/\∃z,f.zero=some z/\z.cells.toList=i.zero:=by
 have:=congrArg Prod.snd (h.at a);simp only[kt.seen,kt.told]at this;cases hf:C.P.info? t with
 |none=>grind
 |some f=>
  cases hz:f.zero with
  |none=>grind
  |some z=>grind
theorem aK{P:Program}{t:TypeId}{d:TypeDesc}(h:P.underlying t=some d):aL P (underlying t) d:=λw=>by
 simp[underlying,h]
theorem cG{P:Program}{t:TypeId}{d:TypeInfo}(h:P.info? t=some d):aL P (typeInfo t) d:=λw=>by
 simp[typeInfo,h]
theorem eK(h:C.Ok)(a:C.T.get t=some i):aL C.P (sizeOf t) i.size:=by obtain⟨f,c,b,_⟩:=h.info a;rw[<-b];exact(cG c).bind .pure
theorem ro(h:C.Ok)(c:C.T.get t=some i):∃z,aL C.P (zeroValue t) z/\z.cells.toList=i.zero:=by obtain⟨f,d,_,_,z,a,b⟩:=h.info c;refine⟨z,(cG d).bind ?_,b⟩;rw[a];exact .pure
theorem lr(h:C.Ok)(f:C.T.get t=some i):(∀b,i.co=.struct b->aL C.P (isAgg t) true)/\(∀n e,i.co=.array n e->aL C.P (isAgg t) true)/\
  ((∀b,i.co≠.struct b)->(∀n e,i.co≠.array n e)->i.co≠.other->aL C.P (isAgg t) false):=by
 have a:=h.co f;refine⟨λb c=>?_,λn e c=>?_,λl k h3=>?_⟩
 .rw[c]at a;obtain⟨j,g,_⟩:=oJ a;exact(aK g).bind .pure
 .rw[c]at a;exact(aK (rJ a)).bind .pure
 .cases hu:C.P.underlying t with
  |none=>rw[hu]at a;exact absurd a.symm h3
  |some d=>
   refine(aK hu).bind ?_;cases d<;>first|exact .pure|(simp only[jh]at a;grind)
end
theorem Bc{ev:Operand->Option Value}{e:Operand->Value}(a:∀x v,ev x=some v->e x=v):∀{l:List Operand} {vs:List Value},pC ev l=some vs->l.map e=vs:=by
 intro l
 induction l with
 |nil=>intro vs h;cases h;rfl
 |cons x r ih=>
  intro vs h;simp only[pC]at h
  grind
theorem ER{ev:Operand->Option Value}{e:Operand->Value}(a:∀x v,ev x=some v->e x=v):∀{l:List (Nat×Operand)} {vs:List (Nat×Value)},CD ev l=some vs->l.map (λp=>(p.1,e p.2))=vs:=by
 intro l
 induction l with
 |nil=>intro vs h;cases h;rfl
 |cons x r ih=>
  intro vs h;simp only[CD]at h
  grind
theorem Bd(t:TypeId)(x y:Value):Op.equal t x y=Op.equalIn (9999+1) t x y:=rfl
theorem aaA{t:TypeId}(c:P.underlying t=some .bool)(d:Nat)(a b:Bool):aL P (Op.equalIn (d+1) t (.bool a) (.bool b)) (a==b):=λw=>by
 simp[Op.equalIn,underlying,c]
theorem abF{t e:TypeId}(b:P.underlying t=some (.pointer e))(d:Nat)(a:Option Addr):aL P (Op.equalIn (d+1) t (.pointer a) (.pointer none)) a.isNone:=λw=>by
 cases a<;>simp[Op.equalIn,underlying,b]
theorem Xk{t e:TypeId}(g:P.underlying t=some (.slice e))(d:Nat)(a:Option Addr)(l c f b:Nat):aL P (Op.equalIn (d+1) t (.slice a l c) (.slice none f b)) a.isNone:=λw=>by
 cases a<;>simp[Op.equalIn,underlying,g]
theorem Rv{t:TypeId}{d:Option nv}{op:BinOp}{a b:Value}{x y:Operand}{K:Value->Prop}(o:∀q,d=some q->jh (P.underlying t)=q)
  (h:(Xh P t x y d op a b).holds K):∃v,aL P (do eqGuard op t x y a b;binOp op t a b) v/\K v:=by
 have j:∀{a b:Value},¬(a=.nilIface/\b=.nilIface)->(∀u v,¬(a=.agg u/\b=.agg v))->aL P (eqGuard op t x y a b) ():=by
  intro a b f i w;simp only[eqGuard];cases op<;>simp only[Bool.not_true,Bool.not_false,zc,if_true,if_false]<;>
   first
    |rfl
    |(split<;>first|exact absurd ⟨rfl,rfl⟩ f|exact absurd ⟨rfl,rfl⟩ (i _ _)|rfl)
 unfold Xh at h;split at h
 .rename_i k a m b;have g:=j (a:=.int k a) (b:=.int m b) (by simp) (by simp);cases op<;>simp only at h
  case shl=>exact⟨_,g.bind λw=>by simp only[binOp,Op.shift];rw[if_neg (by have:=h.1;omega)];rfl,h.2⟩
  case shr=>exact⟨_,g.bind λw=>by simp only[binOp,Op.shift];rw[if_neg (by have:=h.1;omega)];rfl,h.2⟩
  all_goals
   cases hk:Az k m with
   |false=>rw[hk]at h;simp[PV.holds]at h
   |true=>
    rw[hk]at h;simp only[cond_true,PV.holds]at h;have e:=EQ hk;subst e
    first
     |exact⟨_,g.bind λw=>by simp[binOp,Op.intArith,Op.intBits,Op.intCmp],h⟩
     |exact⟨_,g.bind λw=>by simp[binOp,Op.intDiv,h.1],h.2⟩
     |exact h.elim
 .rename_i k a m b;have g:=j (a:=.float k a) (b:=.float m b) (by simp) (by simp);cases hk:CB k m with
  |false=>rw[hk]at h;simp[PV.holds]at h
  |true=>
   rw[hk]at h;have e:=CC hk;subst e;cases op<;>simp only[cond_true,PV.holds]at h<;>
    first
     |(obtain⟨r,f,i⟩:=h;exact⟨_,g.bind λw=>by simp[binOp,Op.floatArith,f],i⟩)
     |exact⟨_,g.bind λw=>by simp[binOp,Op.floatCmp],h⟩
     |exact h.elim
 .rename_i a b;have g:=j (a:=.string a) (b:=.string b) (by simp) (by simp);cases op<;>simp only[PV.holds]at h<;>
   first
    |exact⟨_,g.bind λw=>by simp[binOp,Op.stringOp],h⟩
    |exact⟨_,g.bind λw=>by simp only[binOp,Op.stringOp];rw[if_neg (by have:=h.1;omega)];rfl,h.2⟩
    |exact h.elim
 .rename_i a b;have g:=j (a:=.bool a) (b:=.bool b) (by simp) (by simp);split at h
  .have n:=Xj (o _ rfl);cases op<;>simp only[PV.holds]at h<;>
    first
     |exact⟨_,g.bind (by simp only[binOp,Bd];exact(aaA n _ a b).bind .pure),h⟩
     |exact h.elim
  .exact h.elim
 .rename_i a b;cases hy:Zp y with
  |true=>
   rw[hy]at h;obtain⟨r,f,i⟩:=h;exact⟨_,f,i⟩
  |false=>
   rw[hy]at h;cases b with
   |some _=>exact h.elim
   |none=>
    have g:=j (a:=.pointer a) (b:=.pointer none) (by simp) (by simp);simp only[cond_false]at h;split at h
    .rename_i e;have n:=aaz (o _ rfl);cases op<;>simp only[PV.holds]at h<;>
      first
       |exact⟨_,g.bind (by simp only[binOp,Bd];exact(abF n _ a).bind .pure),h⟩
       |exact h.elim
    .exact h.elim
 .rename_i a l c s p;have g:=j (a:=.slice a l c) (b:=.slice none s p) (by simp) (by simp);split at h
  .rename_i e;have n:=iB (o _ rfl);cases op<;>simp only[PV.holds]at h<;>
    first
     |exact⟨_,g.bind (by simp only[binOp,Bd];exact(Xk n _ a l c s p).bind .pure),h⟩
     |exact h.elim
  .exact h.elim
 .obtain⟨r,f,i⟩:=h;exact⟨_,f,i⟩
 .split at h
  .obtain⟨r,f,i⟩:=h;exact⟨_,f,i⟩
  .obtain⟨r,f,i⟩:=h;exact⟨_,f,i⟩
  .obtain⟨r,f,i⟩:=h;exact⟨_,f,i⟩
 .exact h.elim
theorem Rw{t:TypeId}{d:Option nv}{op:BinOp}{a b:Value}{x y:Operand}{K:Value->Prop}(e:∀q,d=some q->jh (P.underlying t)=q)
  (h:(Xi P t x y d op a b).holds K):∃v,aL P (do eqGuard op t x y a b;binOp op t a b) v/\K v:=by
 unfold Xi at h;split at h
 .obtain⟨r,f,c⟩:=h;exact⟨_,f,c⟩
 .exact Rv e h
theorem Lr(a:List Value)(off n:Nat):((a.drop off).take n).toArray=(a.toArray).extract off (off+n):=by simp
variable {e:Operand->Value}
section
variable {C:AA} {ev:Operand->Option Value}
theorem tG(a:C.Ok):∀{b:List Field} {ps:List (Nat×Nat)},placesOf C.T (b.map λf=>(f.offset,f.type))=some ps->
  aL C.P (b.mapM λf=>(do pure (f.offset,<-sizeOf f.type))) ps
 |[],ps,h=>by cases h;exact .pure
 |f::r,ps,h=>by
  simp only[List.map_cons,placesOf]at h;split at h
  .rename_i j c;split at h
   .rename_i e d;cases h;rw[List.mapM_cons];exact aL.bind ((eK a c).bind .pure) ((tG a d).bind .pure)
   grind
  grind
theorem ES(b:C.Ok){t:TypeId}{j:TI}(c:C.T.get t=some j)(h:∀g,j.co≠.struct g)(d:∀n e,j.co≠.array n e)(h3:j.co≠.other)
  {a:Array Value} {off:Nat} {v:Value} (f:a[off]?=some v):aL C.P (part t a off) v:=by
 refine((lr b c).2.2 h d h3).bind ?_;rw[f];exact .pure
theorem Ls(a:C.Ok){t:TypeId}{j:TI}(b:C.T.get t=some j)(h:(∃c,j.co=.struct c)∨∃n e,j.co=.array n e)
  {d:Array Value} {off:Nat}:aL C.P (part t d off) (.agg (d.extract off (off+j.size))):=by
 have f:aL C.P (isAgg t) true:=by
  rcases h with⟨c,h⟩|⟨n,e,h⟩
  .exact(lr a b).1 c h
  .exact(lr a b).2.1 n e h
 exact f.bind ((eK a b).bind .pure)
theorem Gv(I:C.Ok)(G:∀x v,ev x=some v->e x=v){o:Oper}{K:Value->Prop}(h:(AB C.P C.T o.op ev).holds K):
  ∃v,rI C.P (execOp e o) v/\K v:=by
 have M:∀t q,(C.T.get t).map (·.co)=some q->jh (C.P.underlying t)=q:=λt q h=>by
  cases F:C.T.get t with
  |none=>rw[F]at h;cases h
  |some i=>rw[F]at h;cases h;exact I.co F
 cases hop:o.op<;>rw[hop]at h<;>simp only[AB]at h<;>simp only[execOp,hop]
 case move x=>
  split at h
  .rename_i v A;rw[G _ _ A];exact⟨v,λ_=>rfl,h⟩
  .exact h.elim
 case assign x=>
  split at h
  .rename_i v A;rw[G _ _ A];exact⟨v,λ_=>rfl,h⟩
  .exact h.elim
 case pick c a b=>
  split at h
  .rename_i t x y Q h2 h3;rw[G _ _ Q,G _ _ h2,G _ _ h3];cases t
   .exact⟨y,λ_=>rfl,h⟩
   .exact⟨x,λ_=>rfl,h⟩
  .exact h.elim
 case nilCheck x=>
  split at h
  .rename_i p hp;obtain⟨a,rfl,B⟩:=h;rw[G _ _ hp];exact⟨_,λ_=>rfl,B⟩
  .exact h.elim
 case fieldAddr s x f=>
  split at h
  .rename_i a ha;rw[G _ _ ha];split at h
   .rename_i i F;split at h
    .rename_i fs Y;split at h
     .rename_i off t al;split at h
      .rename_i j R;cases hz:wo j.size 0 with
       |true=>rw[hz]at h;exact h.elim
       |false=>
        rw[hz]at h;have E:=I.co F;rw[Y]at E;obtain⟨gs,hg,rfl⟩:=oJ E;simp only[qM,yV]at al;obtain⟨g,ax,a0⟩:=al;cases a0;refine⟨_,aL.next ((aK hg).bind ?_),h⟩;have ab:gs[f]?=some g:=by simpa using ax
        simp only[ab];refine aL.bind (v:=a) .pure (aL.bind (v:=a.add g.offset) ?_ .pure);unfold fieldPlace;refine(eK I R).bind ?_;have:j.size≠0:=λe=>by rw[e]at hz;cases hz
        rw[if_neg this];exact .pure
      .exact h.elim
     .exact h.elim
    .exact h.elim
   .exact h.elim
  .exact h.elim
 case indexAddr t x ix=>
  split at h
  .rename_i k n hn;rw[G _ _ hn];split at h
   .rename_i p len cap U;rw[G _ _ U];split at h
    .rename_i i F;split at h
     .rename_i el D;split at h
      .rename_i j R;obtain⟨a,⟨rfl,h0,Q⟩,B⟩:=h;have E:=I.co F;rw[D]at E;have H:=iB E;refine⟨_,aL.next ?_,B⟩;unfold Instr.indexAt;refine aL.bind (v:=(k,n)) .pure ?_;refine(aK H).bind ?_;refine aL.bind (v:=(some a,len,el)) .pure ?_;intro w;have:=eK I R w;simp only[Sem.run_bind,aK H w,Result.andThen_ok];cases hl:decide (len<=1)<;>simp[h0,Q,this]
      .exact h.elim
     .exact h.elim
    .exact h.elim
   .rename_i a U;rw[G _ _ U];split at h
    .rename_i i F;split at h
     .rename_i m el D;split at h
      .rename_i j R;obtain⟨⟨h0,Q⟩,B⟩:=h;have E:=I.co F;rw[D]at E;have H:=rJ E;refine⟨_,aL.next ?_,B⟩;unfold Instr.indexAt;refine aL.bind (v:=(k,n)) .pure ?_;refine(aK H).bind ?_;refine aL.bind (v:=(some a,m,el)) .pure ?_;intro w;have:=eK I R w;simp only[Sem.run_bind,aK H w,Result.andThen_ok];cases hl:decide (m<=1)<;>simp[h0,Q,this]
      .exact h.elim
     .exact h.elim
    .exact h.elim
   .exact h.elim
  .exact h.elim
 case index t x ix=>
  split at h
  .rename_i k n hn;rw[G _ _ hn];split at h
   .rename_i s U;rw[G _ _ U];split at h
    .rename_i i F;split at h
     .rename_i D;obtain⟨b,⟨h0,Q⟩,B⟩:=h;have E:=I.co F;rw[D]at E;have H:=th E;refine⟨_,aL.next ?_,B⟩;unfold Instr.index;refine aL.bind (v:=(k,n)) .pure ?_;refine(aK H).bind ?_;have hb:s[n.toNat]?=some b:=by rw[Array.getElem?_eq_some_iff]at Q;obtain⟨bd,hg⟩:=Q;have a5:n.toNat<s.size:=bd;rw[getElem?_pos s n.toNat a5];exact congrArg some hg
      simp only[h0,if_true,hb];exact .pure
     .exact h.elim
    .exact h.elim
   .rename_i cs U;rw[G _ _ U];split at h
    .rename_i i F;split at h
     .rename_i m el D;split at h
      .rename_i j R;split at h
       .rename_i s hs;have E:=I.co F;rw[D]at E;have H:=rJ E;have ah:(∃y,(0<=n/\n<(m:Int)/\cs[n.toNat]?=some (s.enc y))/\K (s.enc y))->(∀fs,j.co≠.struct fs)->(∀n e,j.co≠.array n e)->j.co≠.other->j.size=1->
          ∃v,rI C.P (do pure (.value (<-Instr.index t (.agg cs) (.int k n)))) v/\K v:=by
         rintro⟨y,⟨h0,Q,h2⟩,B⟩ d1 d2 d3 bq;refine⟨_,aL.next ?_,B⟩;unfold Instr.index;refine aL.bind (v:=(k,n)) .pure ?_;refine(aK H).bind ?_;simp only[h0,Q,and_self,if_true];refine(eK I R).bind ?_;rw[bq,Nat.mul_one];exact ES I R d1 d2 d3 h2
        split at h
        .exact h.elim
        .exact h.elim
        .exact h.elim
        .rename_i d1 d2 d3;cases hz:wo j.size 1 with
         |false=>rw[hz]at h;exact h.elim
         |true=>
          rw[hz]at h;exact ah h d1 d2 d3 (zu hz)
       .exact h.elim
      .exact h.elim
     .exact h.elim
    .exact h.elim
   .exact h.elim
  .exact h.elim
 case field s x f=>
  split at h
  .rename_i cs U;rw[G _ _ U];split at h
   .rename_i i F;split at h
    .rename_i fs Y;split at h
     .rename_i off t al;split at h
      .rename_i j R;have E:=I.co F;rw[Y]at E;obtain⟨gs,hg,rfl⟩:=oJ E;simp only[qM,yV]at al;obtain⟨g,ax,a0⟩:=al;cases a0;have ab:gs[f]?=some g:=by simpa using ax
       have ah:∀v,aL C.P (part g.type ⟨cs⟩ g.offset) v->K v->∃v,rI C.P (do pure (.value (<-Instr.field s (.agg ⟨cs⟩) f))) v/\K v:=by intro v A B;refine⟨v,aL.next ((aK hg).bind ?_),B⟩;simp only[ab];exact aL.bind (v:=(⟨cs⟩:Array Value)) .pure A
       split at h
       .rename_i br ay;refine ah _ (Ls I R (.inl ⟨_,ay⟩)) ?_;rw[<-Lr];exact h
       .rename_i n' e' ay;refine ah _ (Ls I R (.inr ⟨_,_,ay⟩)) ?_;rw[<-Lr];exact h
       .exact h.elim
       .rename_i d1 d2 d3;split at h
        .rename_i v A;exact ah v (ES I R d1 d2 d3 (by simpa using A)) h
        .exact h.elim
      .exact h.elim
     .exact h.elim
    .exact h.elim
   .exact h.elim
  .exact h.elim
 case slice t x W hi0 mx=>
  split at h
  .exact h.elim
  .split at h
   .rename_i l r hl hr;have a4:(W=none/\l=none)∨∃y k m,W=some y/\e y=.int k m/\l=some m:=by
     cases W with
     |none=>cases hl;exact .inl ⟨rfl,rfl⟩
     |some y=>
      simp only[Gu]at hl;split at hl
      .rename_i k m hm;cases hl;exact .inr ⟨y,k,m,rfl,G _ _ hm,rfl⟩
      .cases hl
    have ap:(hi0=none/\r=none)∨∃y k m,hi0=some y/\e y=.int k m/\r=some m:=by
     cases hi0 with
     |none=>cases hr;exact .inl ⟨rfl,rfl⟩
     |some y=>
      simp only[Gu]at hr;split at hr
      .rename_i k m hm;cases hr;exact .inr ⟨y,k,m,rfl,G _ _ hm,rfl⟩
      .cases hr
    have J:∀(bb:Bool) (len cap:Nat) (W F:Option Value) (a b:Nat),(W=none->a=0)->(∀v,W=some v->∃k m,v=.int k m/\0<=m/\a=m.toNat/\m<=(b:Int))->
      (F=none->b=len)->(∀v,F=some v->∃k m,v=.int k m/\0<=m/\b=m.toNat/\m<=(cap:Int))->
      aL C.P (zY bb len cap W F none) (a,b,cap):=by
     intro bb len cap W F a b Q h2 h3 h4 w;cases F with
     |none=>
      have e1:=h3 rfl;subst e1;cases W with
      |none=>rw[Q rfl];simp[zY]
      |some v=>
       obtain⟨k,m,rfl,x1,rfl,x2⟩:=h2 v rfl;simp[zY,vq,asIntOf,x1,x2]
     |some u=>
      obtain⟨k',V,rfl,y1,rfl,y2⟩:=h4 u rfl;cases W with
      |none=>rw[Q rfl];simp[zY,vq,asIntOf,y1,y2]
      |some v=>
       obtain⟨k,m,rfl,x1,rfl,x2⟩:=h2 v rfl;have x3:¬max V 0<m:=by omega
       simp[zY,vq,asIntOf,x1,y1,y2,x3]
    split at h
    .rename_i p len cap U;rw[G _ _ U];split at h
     .rename_i i F;split at h
      .rename_i el D;split at h
       .rename_i j R;have E:=I.co F;rw[D]at E;have H:=iB E;have fin:∀(a b:Nat) (v:Value),aL C.P (zY true len cap (W.map e) (hi0.map e) none) (a,b,cap)->
          v=.slice (if cap=a then p else p.map (·.add (a*j.size))) (b-a) (cap-a)->K v->
          ∃v,rI C.P (do pure (.value (<-w5 t (.slice p len cap) (W.map e) (hi0.map e) (Option.map e none)))) v/\K v:=by
         intro a b v hb A B;refine⟨v,aL.next ?_,B⟩;unfold w5;refine(aK H).bind ?_;simp only[xI,Option.map_none];refine(aK H).bind ?_;refine hb.bind ?_;subst A;exact(eK I R).bind .pure
        have ad:(if cap=0 then p else p.map (·.add (0*j.size)))=p:=by
         cases p<;>simp[Addr.add]
        rcases a4 with⟨rfl,rfl⟩|⟨y,k,m,rfl,hy,rfl⟩<;>rcases ap with⟨rfl,rfl⟩|⟨y',k',V,rfl,hy',rfl⟩
        .exact fin 0 len _ (J _ _ _ _ _ _ _ (λ_=>rfl) (by simp) (λ_=>rfl) (by simp)) (by rw[ad];rfl) h
        .obtain⟨⟨S,Z⟩,B⟩:=h;exact fin 0 V.toNat _ (J _ _ _ _ _ _ _ (λ_=>rfl) (by simp) (by simp) λv A=>by cases A;exact⟨k',V,hy',S,rfl,Z⟩) (by rw[ad];rfl) B
        .obtain⟨⟨S,Z⟩,B⟩:=h;exact fin m.toNat len _ (J _ _ _ _ _ _ _ (by simp) (λv A=>by cases A;exact⟨k,m,hy,S,rfl,Z⟩) (λ_=>rfl) (by simp)) rfl B
        .obtain⟨⟨S,Z,a3⟩,B⟩:=h;exact fin m.toNat V.toNat _ (J _ _ _ _ _ _ _ (by simp) (λv A=>by cases A;exact⟨k,m,hy,S,rfl,by omega⟩) (by simp) λv A=>by cases A;exact⟨k',V,hy',by omega,rfl,a3⟩) rfl B
       .exact h.elim
      .exact h.elim
     .exact h.elim
    .rename_i s U;rw[G _ _ U];split at h
     .rename_i i F;split at h
      .rename_i D;have E:=I.co F;rw[D]at E;have H:=th E;have fin:∀(a b:Nat) (v:Value),aL C.P (zY false s.size s.size (W.map e) (hi0.map e) none) (a,b,s.size)->
         v=.string (s.extract a b)->K v->
         ∃v,rI C.P (do pure (.value (<-w5 t (.string s) (W.map e) (hi0.map e) (Option.map e none)))) v/\K v:=by
        intro a b v hb A B;refine⟨v,aL.next ?_,B⟩;unfold w5;refine(aK H).bind ?_;simp only[xI,Option.map_none];refine(aK H).bind ?_;subst A;intro w;simp[hb w]
       rcases a4 with⟨rfl,rfl⟩|⟨y,k,m,rfl,hy,rfl⟩<;>rcases ap with⟨rfl,rfl⟩|⟨y',k',V,rfl,hy',rfl⟩
       .exact fin 0 s.size _ (J _ _ _ _ _ _ _ (λ_=>rfl) (by simp) (λ_=>rfl) (by simp)) rfl h
       .obtain⟨⟨S,Z⟩,B⟩:=h;exact fin 0 V.toNat _ (J _ _ _ _ _ _ _ (λ_=>rfl) (by simp) (by simp) λv A=>by cases A;exact⟨k',V,hy',S,rfl,Z⟩) rfl B
       .obtain⟨⟨S,Z⟩,B⟩:=h;exact fin m.toNat s.size _ (J _ _ _ _ _ _ _ (by simp) (λv A=>by cases A;exact⟨k,m,hy,S,rfl,Z⟩) (λ_=>rfl) (by simp)) rfl B
       .obtain⟨⟨S,Z,a3⟩,B⟩:=h;exact fin m.toNat V.toNat _ (J _ _ _ _ _ _ _ (by simp) (λv A=>by cases A;exact⟨k,m,hy,S,rfl,by omega⟩) (by simp) λv A=>by cases A;exact⟨k',V,hy',by omega,rfl,a3⟩) rfl B
      .exact h.elim
     .exact h.elim
    .rename_i a U;rw[G _ _ U];split at h
     .rename_i i F;split at h
      .rename_i n el D;split at h
       .rename_i j R;have E:=I.co F;rw[D]at E;have H:=rJ E;have fin:∀(a' b:Nat) (v:Value),aL C.P (zY false n n (W.map e) (hi0.map e) none) (a',b,n)->
          v=.slice (some (if n=a' then a else a.add (a'*j.size))) (b-a') (n-a')->K v->
          ∃v,rI C.P (do pure (.value (<-w5 t (.pointer (some a)) (W.map e) (hi0.map e) (Option.map e none)))) v/\K v:=by
         intro a' b v hb A B;refine⟨v,aL.next ?_,B⟩;unfold w5;refine(aK H).bind ?_;simp only[Option.map_none];refine aL.bind (v:=a) .pure ?_;refine hb.bind ?_;subst A;exact(eK I R).bind .pure
        have ad:(if n=0 then a else a.add (0*j.size))=a:=by simp[Addr.add]
        rcases a4 with⟨rfl,rfl⟩|⟨y,k,m,rfl,hy,rfl⟩<;>rcases ap with⟨rfl,rfl⟩|⟨y',k',V,rfl,hy',rfl⟩
        .exact fin 0 n _ (J _ _ _ _ _ _ _ (λ_=>rfl) (by simp) (λ_=>rfl) (by simp)) (by rw[ad];rfl) h
        .obtain⟨⟨S,Z⟩,B⟩:=h;exact fin 0 V.toNat _ (J _ _ _ _ _ _ _ (λ_=>rfl) (by simp) (by simp) λv A=>by cases A;exact⟨k',V,hy',S,rfl,Z⟩) (by rw[ad];rfl) B
        .obtain⟨⟨S,Z⟩,B⟩:=h;exact fin m.toNat n _ (J _ _ _ _ _ _ _ (by simp) (λv A=>by cases A;exact⟨k,m,hy,S,rfl,Z⟩) (λ_=>rfl) (by simp)) rfl B
        .obtain⟨⟨S,Z,a3⟩,B⟩:=h;exact fin m.toNat V.toNat _ (J _ _ _ _ _ _ _ (by simp) (λv A=>by cases A;exact⟨k,m,hy,S,rfl,by omega⟩) (by simp) λv A=>by cases A;exact⟨k',V,hy',by omega,rfl,a3⟩) rfl B
       .exact h.elim
      .exact h.elim
     .exact h.elim
    .exact h.elim
   .exact h.elim
 case extract x n=>
  split at h
  .rename_i vs U;rw[G _ _ U];split at h
   .rename_i v A;refine⟨v,aL.next ?_,h⟩;have:(⟨vs⟩:Array Value)[n]?=some v:=by simpa using A
    simp only[Instr.extract,this];exact .pure
   .exact h.elim
  .exact h.elim
 case binOp op t x y u=>
  split at h
  .rename_i a b ha hb;rw[G _ _ ha,G _ _ hb];obtain⟨v,A,B⟩:=Rw (P:=C.P) (x:=x) (y:=y) (M t) h;exact⟨v,A.next,B⟩
  .exact h.elim
 case unOp op t x=>
  split at h
  .rename_i v A;rw[G _ _ A];unfold unV at h;split at h
   .split at h
    .exact⟨_,aL.next .pure,h⟩
    .exact h.elim
   .split at h
    .exact⟨_,aL.next .pure,h⟩
    .exact⟨_,aL.next .pure,h⟩
    .exact h.elim
   .exact h.elim
  .exact h.elim
 case convert s d x=>
  split at h
  .rename_i v ks A a9;rw[G _ _ A];have hs:=Ee (M _ _ a9);unfold Zq at h;split at h
   .split at h
    .rename_i n _ k B;have H:=Ee (M _ _ B);refine⟨_,aL.next ?_,h⟩;unfold convert;refine(aK hs).bind ((aK H).bind ?_);exact .pure
    .exact h.elim
   .exact h.elim
  .exact h.elim
 case build t parts=>
  split at h
  .rename_i vs a8;have hp:(parts.map λ(i,x)=>(i,e x)).toList=vs:=by have:=ER G a8;simpa using this
   split at h
   .rename_i i F;obtain⟨z,hz,bk⟩:=ro I F;have am:i.zero.toArray=z.cells:=by rw[<-bk]
    cases hbig:xm 24 i.size with
    |true=>
     rw[hbig]at h;obtain⟨v,A,B⟩:=h;have a6:(parts.map λ(i,x)=>(i,e x))=vs.toArray:=by rw[<-hp]
     refine⟨v,aL.next ?_,B⟩;show aL C.P (xq t (parts.map λ(i,x)=>(i,e x))) v;rw[a6];exact A
    |false=>
    rw[hbig]at h;simp only[cond_false]at h;split at h
    .rename_i fs Y;have E:=I.co F;rw[Y]at E;obtain⟨gs,hg,rfl⟩:=oJ E;split at h
     .rename_i ps bl;split at h
      .rename_i cells N;refine⟨_,aL.next (hz.bind ((aK hg).bind ?_)),h⟩;have a7:aL C.P (gs.mapM λf=>(do pure (f.offset,<-sizeOf f.type):Sem (Nat×Nat))) ps.toArray:=by rw[vx];intro w;have:=tG I bl w;rw[map_eq_pure_bind,Sem.run_bind,this];rfl
       refine a7.bind ?_;have ao:wz (λn=>ps.toArray[n]?) z.cells (parts.map λ(i,x)=>(i,e x)).toList=some cells:=by rw[hp,<-am];simpa using N
       rw[ao];exact .pure
      .exact h.elim
     .exact h.elim
    .rename_i n el Y;have E:=I.co F;rw[Y]at E;have H:=rJ E;split at h
     .rename_i j R;split at h
      .rename_i cells N;refine⟨_,aL.next (hz.bind ((aK H).bind ((eK I R).bind ?_))),h⟩;have ao:wz (λi=>some (i*j.size,j.size)) z.cells (parts.map λ(i,x)=>(i,e x)).toList=some cells:=by rw[hp,<-am];exact N
       rw[ao];exact .pure
      .exact h.elim
     .exact h.elim
    .exact h.elim
   .exact h.elim
  .exact h.elim
 case makeFunc fn first captured=>
  split at h
  .rename_i a b ha hb;have Q:first.map e=a.toArray:=by apply vj;simpa using Bc G ha
   have h2:captured.map e=b.toArray:=by apply vj;simpa using Bc G hb
   refine⟨_,aL.next ?_,h⟩;rw[Q,h2];exact .pure
  .exact h.elim
 case call c=>
  split at h
  .rename_i b hb;have L:∀{v:Value},aL C.P (builtin b c.argTypes o.type (c.args.map λ| .const _=>true|_=>false) (c.args.map e)) (.value v)->
     rI C.P (do let d<-resolve e c o.type;invoke d.target d.args) v:=by
    intro v A w;have:=A w;unfold resolve;rw[hb];exact this
   have O:∀{vs:List Value},pC ev c.args.toList=some vs->c.args.map e=vs.toArray:=λA=>by
    apply vj;simpa using Bc G A
   have X:∀{s:Sem Value} {v:Value},aL C.P s v->aL C.P (do pure (Next.value (<-s))) (.value v):=λhs=>hs.bind .pure;split at h
   case h_1=>
    split at h
    .rename_i t ts x Q h2;split at h
     .rename_i v A;have ha:c.args.map e=#[v]:=by apply vj;rw[xf,h2];simp[G _ _ A]
      have ht:c.argTypes[0]?=some t:=by rw[<-ve,Q];rfl
      unfold abD at h;split at h
      .rename_i p n cap;split at h
       .rename_i el D;have H:=iB (M _ _ D);refine⟨_,L ?_,h⟩;rw[ha];refine X ?_;intro w;simp[xF,ht,underlying,H,goInt]
       .exact h.elim
      .rename_i s;split at h
       .rename_i D;have H:=th (M _ _ D);refine⟨_,L ?_,h⟩;rw[ha];refine X ?_;intro w;simp[xF,ht,underlying,H,goInt]
       .exact h.elim
      .exact h.elim
     .exact h.elim
    .exact h.elim
   case h_2=>
    split at h
    .rename_i t ts x Q h2;split at h
     .rename_i v A;have ha:c.args.map e=#[v]:=by apply vj;rw[xf,h2];simp[G _ _ A]
      have ht:c.argTypes[0]?=some t:=by rw[<-ve,Q];rfl
      unfold abE at h;split at h
      .rename_i p n cap;split at h
       .rename_i el D;have H:=iB (M _ _ D);refine⟨_,L ?_,h⟩;rw[ha];refine X ?_;intro w;simp[Builtin.cap_,ht,underlying,H,goInt]
       .exact h.elim
      .exact h.elim
     .exact h.elim
    .exact h.elim
   case h_3=>
    split at h
    .rename_i k a k' b A;refine⟨_,L ?_,h⟩;rw[O A];refine X ?_;intro w;simp[Builtin.min_,Builtin.min2]
    .exact h.elim
   case h_4=>
    split at h
    .rename_i k a k' b A;refine⟨_,L ?_,h⟩;rw[O A];refine X ?_;intro w;simp[Builtin.max_,Builtin.max2]
    .exact h.elim
   case h_5=>
    split at h
    .rename_i k a b A;refine⟨_,L ?_,h⟩;rw[O A];exact X .pure
    .exact h.elim
   case h_6=>
    split at h
    .rename_i k a b A;refine⟨_,L ?_,h⟩;rw[O A];exact X .pure
    .exact h.elim
   all_goals exact h.elim
  .exact h.elim
 all_goals exact h.elim
end
def bp(h:Heap)(a:Addr):Nat->List Value->Prop
 |_,[]=>True
 |n,v::r=>cellOf h (a.add n)=some v/\bp h a (n+1) r
structure uL where
 a:Addr
 ty:Ty
 n:Nat
def uL.holds(r:uL)(h:Heap)(y:r.ty.den):Prop:=
 match r.ty,y with
 | .sc s,y=>cellOf h r.a=some (s.enc y)
 | .agg l,y=>bp h r.a 0 (nW l y)
 | .arr s,y=>y.length=r.n/\bp h r.a 0 (y.map s.enc)
def tH(T:kt)(op:Op)(ev:Operand->Option Value):Option uL:=
 match op with
 | .load t x=>match ev x with
  |some (.pointer (some a))=>match T.get t with
   |some i=>match i.co with
    | .struct _=>match i.ty with
     | .agg l=>bif wo l.length i.size then some ⟨a,i.ty,i.size⟩else none
     |_=>none
    | .array _ _=>match i.ty with
     | .arr _=>some ⟨a,i.ty,i.size⟩
     |_=>none
    | .other=>none
    |_=>match i.ty with
     | .sc _=>some ⟨a,i.ty,1⟩
     |_=>none
   |none=>none
  |_=>none
 |_=>none
theorem ET:∀(l:List Sc) (x:xY l),(nW l x).length=l.length
 |[],_=>rfl
 |[_],_=>rfl
 |_::t::r,x=>by simp only[q7];rw[ET (t::r) x.2];rfl
theorem run_loadCells{P:Program}{w:World}{a:Addr}:∀(vs:List Value) (i:Nat) (b:Array Value),bp w.heap a i vs->
  (loadCellsFrom a i vs.length b).run P w=.ok (b++vs.toArray) w
 |[],i,b,_=>rfl
 |v::r,i,b,h=>by
  simp only[q7,loadCellsFrom,Sem.run_bind,run_load,Is,h.1,Result.andThen_ok];rw[run_loadCells r (i+1) (b.push v) h.2];simp
theorem Be{C:AA}(m:C.Ok){ev:Operand->Option Value}{e:Operand->Value}(z:∀x v,ev x=some v->e x=v){o:Oper}{r:uL}
  (b:tH C.T o.op ev=some r) {y:r.ty.den} {w:World} (d:r.holds w.heap y):(execOp e o).run C.P w=.ok (.value (r.ty.enc y)) w:=by
 unfold tH at b;split at b
 .rename_i t x q;simp only[execOp,q];split at b
  .rename_i a H;rw[z _ _ H];split at b
   .rename_i i p;have h:(∀v,(loadVar t a).run C.P w=.ok v w->(do let s<-xz t (.pointer (some a));pure (Next.value s):Sem Next).run C.P w=.ok (.value v) w):=by intro v A;have:xz t (.pointer (some a))=loadVar t a:=rfl;rw[this,Sem.run_bind,A];rfl
    split at b
    .rename_i B g;split at b
     .rename_i l f;cases hb:wo l.length i.size with
      |false=>rw[hb]at b;cases b
      |true=>
       rw[hb]at b;simp only[cond_true,z8.injEq]at b;subst b;have j:=zu hb;have c:∀(ty:Ty) (y:ty.den),ty=.agg l->uL.holds ⟨a,ty,i.size⟩ w.heap y->(loadVar t a).run C.P w=.ok (ty.enc y) w:=by rintro ty y rfl d;unfold loadVar;rw[Sem.run_bind,(lr m p).1 B g w];simp only[Result.andThen_ok,if_true,Sem.run_bind,eK m p w];have k:=run_loadCells (P:=C.P) (w:=w) (a:=a) (nW l y) 0 #[] d;rw[ET,j]at k;unfold loadCells;rw[k];simp
       exact h _ (c i.ty y f d)
     .cases b
    .rename_i n G g;split at b
     .rename_i s f;cases b;have c:∀(ty:Ty) (y:ty.den),ty=.arr s->uL.holds ⟨a,ty,i.size⟩ w.heap y->(loadVar t a).run C.P w=.ok (ty.enc y) w:=by rintro ty y rfl ⟨f,d⟩;unfold loadVar;rw[Sem.run_bind,(lr m p).2.1 n G g w];simp only[Result.andThen_ok,if_true,Sem.run_bind,eK m p w];have k:=run_loadCells (P:=C.P) (w:=w) (a:=a) (y.map s.enc) 0 #[] d;rw[List.length_map,f]at k;unfold loadCells;rw[k];simp
      exact h _ (c i.ty y f d)
     .cases b
    .cases b
    .rename_i F E D;split at b
     .rename_i s f;cases b;have c:∀(ty:Ty) (y:ty.den),ty=.sc s->uL.holds ⟨a,ty,1⟩ w.heap y->(loadVar t a).run C.P w=.ok (ty.enc y) w:=by rintro ty y rfl d;have u:cellOf w.heap a=some (s.enc y):=d;unfold loadVar;rw[Sem.run_bind,(lr m p).2.2 F E D w];simp[Is,u]
      exact h _ (c i.ty y f d)
     .cases b
   .cases b
  .cases b
 .cases b
def Typed(t:Ty)(K:Value->Heap->Prop)(v:Value)(h:Heap):Prop:=∃x:t.den,v=t.enc x/\K (t.enc x) h
def CE(t:Rt)(K:Value->Heap->Prop)(v:Value)(h:Heap):Prop:=∃x:t.den,v=t.enc x/\K (t.enc x) h
def CF(K:Value->Heap->Prop)(v:Value)(h:Heap):Prop:=∃a:Addr,v=.pointer (some a)/\K (.pointer (some a)) h
def Rx(K:Value->Heap->Prop)(v:Value)(h:Heap):Prop:=∃(b:Bool) (r:List Value),v=.tuple ⟨.bool b::r⟩/\K (.tuple ⟨.bool b::r⟩) h
def abG(T:kt)(t:TypeId)(tup:List (TypeId×List Ty)):Option Rt:=
 match tup.find? (λp=>wo p.1 t)with
 |some p=>some (.many p.2)
 |none=>match T.get t with
  |some i=>some (.one i.ty)
  |none=>none
structure Ctx extends AA where
 tup:List (TypeId×List Ty)
 fns:List Bool
structure Ctx.Ok (C:Ctx):Prop extends AA.Ok C.toAA where
 fns:(C.P.funcs.toList.map λf=>!(f.name== "runtime.NumGoroutine")&&f.body.isSome)=C.fns
def Ry(C:Ctx)(g:FuncId)(args:List Value)(t:TypeId)(K:Value->Heap->Prop)(h:Heap):Prop:=
 match C.fns[g]? with
 |some true=>match abG C.T t C.tup with
  |some r=>aj C.P g args.toArray h (CE r K)
  |none=>False
 |_=>False
def Gw(C:Ctx)(o:Oper)(ev:Operand->Option Value)(K:Value->Heap->Prop)(h:Heap):Prop:=
 match o.op with
 | .store t a x=>match ev a,ev x with
  |some p,some v=>au C.P (qG t p v) h λ_ h'=>K undef h'
  |_,_=>False
 | .alloc t=>au C.P (yd t true (.tuple #[])) h (CF K)
 | .box t x=>match ev x with
  |some v=>au C.P (vM t v) h (CF K)
  |none=>False
 | .makeSlice t l c=>match ev l,ev c with
  |some l,some c=>au C.P (zB t l c) h (Typed (.sc .slc) K)
  |_,_=>False
 | .buildSlice t n parts=>match CD ev parts.toList with
  |some ps=>au C.P (zE t n ps.toArray) h (Typed (.sc .slc) K)
  |none=>False
 | .makeMap t none=>au C.P (Instr.makeMap t none) h (Typed (.sc .mp) K)
 | .lookup t x ix ok=>match ev x,ev ix,abG C.T o.type C.tup with
  |some m,some k,some r=>au C.P (Instr.lookup t m k ok) h (CE r K)
  |_,_,_=>False
 | .mapUpdate t m k x=>match ev m,ev k,ev x with
  |some m,some k,some v=>au C.P (xt t m k v) h λ_ h'=>K undef h'
  |_,_,_=>False
 | .insert t m k x=>match ev m,ev k,ev x with
  |some m,some k,some v=>au C.P (xt t m k v) h λ_ h'=>K undef h'
  |_,_,_=>False
 | .range t x=>match ev x with
  |some m=>au C.P (Instr.range t m) h (CF K)
  |none=>False
 | .next it s=>match ev it with
  |some i=>au C.P (Instr.next i s o.type) h (Rx K)
  |none=>False
 | .entry it=>match ev it with
  |some i=>au C.P (Instr.entry i) h (CE (.many [.sc .str,.sc .slc]) K)
  |none=>False
 | .convert s d x=>match ev x,C.T.get o.type with
  |some v,some i=>au C.P (convert s d v) h (Typed i.ty K)
  |_,_=>False
 | .binOp op t x y _=>match ev x,ev y,C.T.get o.type with
  |some a,some b,some i=>au C.P (do eqGuard op t x y a b;binOp op t a b) h (Typed i.ty K)
  |some a,some b,none=>au C.P (do eqGuard op t x y a b;binOp op t a b) h (Typed (.sc .bool) K)
  |_,_,_=>False
 | .slice t x lo hi mx=>match optVal ev lo,optVal ev hi,optVal ev mx,ev x with
  |some l,some r,some m,some v=>au C.P (w5 t v l r m) h (Typed (.sc .slc) K)
  |_,_,_,_=>False
 | .call c=>match c.callee with
  | .builtin .append=>match pC ev c.args.toList with
   |some vs=>au C.P (q6 c.argTypes o.type vs.toArray) h (Typed (.sc .slc) K)
   |none=>False
  | .builtin .copy=>match pC ev c.args.toList with
   |some vs=>au C.P (w6 c.argTypes o.type vs.toArray) h (Typed (.sc (.int .i64)) K)
   |none=>False
  | .builtin .clear=>match pC ev c.args.toList with
   |some vs=>au C.P (vO c.argTypes o.type vs.toArray) h K
   |none=>False
  | .builtin .len=>match pC ev c.args.toList with
   |some vs=>au C.P (xF c.argTypes o.type vs.toArray) h (Typed (.sc (.int .i64)) K)
   |none=>False
  | .builtin .unsafeString=>match pC ev c.args.toList with
   |some vs=>au C.P (Builtin.unsafeString_ c.argTypes o.type vs.toArray) h (Typed (.sc .str) K)
   |none=>False
  | .builtin .delete=>match pC ev c.args.toList with
   |some vs=>au C.P (Builtin.delete_ c.argTypes o.type vs.toArray) h K
   |none=>False
  | .value f=>match ev f,pC ev c.args.toList with
   |some (.func (.func g) ⟨first⟩ ⟨caps⟩),some vs=>Ry C g (first++vs++caps) o.type K h
   |_,_=>False
  |_=>False
 |_=>False
where
 optVal (ev:Operand->Option Value):Option Operand->Option (Option Value)
  |none=>some none
  |some x=>match ev x with
   |some v=>some (some v)
   |none=>none
variable {K:Value->Heap->Prop}
theorem fj{s:Sem Value}(a:au P s h K):Ay P (do pure (.value (<-s))) h K:=
 au.bind (a.mono λ_ _ b=>au.pure' b)
theorem Fu{s:Sem Unit}(a:au P s h λ_ h'=>K undef h'):Ay P (do s;pure .skip) h K:=
 au.bind (a.mono λ_ _ b=>au.pure' b)
theorem Typed.out{t:Ty}{v:Value}{h:Heap}(x:Typed t K v h):K v h:=by obtain⟨y,rfl,a⟩:=x;exact a
theorem CE.out{t:Rt}{v:Value}{h:Heap}(x:CE t K v h):K v h:=by obtain⟨y,rfl,a⟩:=x;exact a
theorem Rx.out{v:Value}{h:Heap}(x:Rx K v h):K v h:=by obtain⟨b,r,rfl,a⟩:=x;exact a
theorem CF.out{v:Value}{h:Heap}(x:CF K v h):K v h:=by obtain⟨y,rfl,a⟩:=x;exact a
theorem Ov{C:Ctx}(d:C.Ok){g:FuncId}{args:List Value}{t:TypeId}{K:Value->Heap->Prop}{h:Heap}(b:Ry C g args t K h):
  Ay C.P (callFunc g args.toArray) h K:=by
 unfold Ry at b;split at b
 .rename_i f;split at b
  .have a:=congrArg (·[g]?) d.fns;simp only[qM,f]at a;cases hf:C.P.funcs.toList[g]? with
   |none=>grind
   |some fn=>
    rw[hf]at a;simp only[zl,z8.injEq,qz,Bool.not_eq_true']at a;have c:C.P.funcs[g]?=some fn:=by grind
    have e:fn.body.isNone=false:=by cases hbb:fn.body<;>simp[hbb]at a⊢
    refine au.bind (au.Xe ?_);simp only[c,a.1,e];exact au.pure' (b.mono λv h' x=>x.out)
  grind
 grind
theorem RB{C:Ctx}(X:C.Ok){ev:Operand->Option Value}{e:Operand->Value}(A:∀x v,ev x=some v->e x=v){o:Oper}
  {K:Value->Heap->Prop} {h:Heap} (j:Gw C o ev K h):Ay C.P (execOp e o) h K:=by
 have H:∀{x:Option Operand} {r:Option Value},Gw.optVal ev x=some r->x.map e=r:=by
  intro x r I;cases x with
  |none=>cases I;rfl
  |some y=>
   simp only[Gw.optVal]at I;split at I
   .rename_i v B;cases I;rw[zl,A _ _ B]
   .cases I
 unfold Gw at j;split at j
 .rename_i t a x q;simp only[execOp,q];split at j
  .rename_i p v U B;rw[A _ _ U,A _ _ B];exact Fu j
  .exact j.elim
 .rename_i t q;simp only[execOp,q];exact fj (j.mono λ_ _ x=>x.out)
 .rename_i t x q;simp only[execOp,q];split at j
  .rename_i v B;rw[A _ _ B];exact fj (j.mono λ_ _ x=>x.out)
  .exact j.elim
 .rename_i t l c q;simp only[execOp,q];split at j
  .rename_i v u B Y;rw[A _ _ B,A _ _ Y];exact fj (j.mono λ_ _ x=>x.out)
  .exact j.elim
 .rename_i t n parts q;simp only[execOp,q];split at j
  .rename_i ps N;have:(parts.map λ(i,x)=>(i,e x))=ps.toArray:=by apply vj;have:=ER A N;simpa using this
   rw[this];exact fj (j.mono λ_ _ x=>x.out)
  .exact j.elim
 .rename_i t q;simp only[execOp,q];exact fj (j.mono λ_ _ x=>x.out)
 .rename_i t x ix ok q;simp only[execOp,q];split at j
  .rename_i m k r D G R;rw[A _ _ D,A _ _ G];exact fj (j.mono λ_ _ x=>x.out)
  .exact j.elim
 .rename_i t m k x q;simp only[execOp,q];split at j
  .rename_i W T v D G B;rw[A _ _ D,A _ _ G,A _ _ B];exact Fu j
  .exact j.elim
 .rename_i t m k x q;simp only[execOp,q];split at j
  .rename_i W T v D G B;rw[A _ _ D,A _ _ G,A _ _ B];exact Fu j
  .exact j.elim
 .rename_i t x q;simp only[execOp,q];split at j
  .rename_i m D;rw[A _ _ D];exact fj (j.mono λ_ _ x=>x.out)
  .exact j.elim
 .rename_i Z s q;simp only[execOp,q];split at j
  .rename_i m D;rw[A _ _ D];exact fj (j.mono λ_ _ x=>x.out)
  .exact j.elim
 .rename_i Z q;simp only[execOp,q];split at j
  .rename_i m D;rw[A _ _ D];exact fj (j.mono λ_ _ x=>x.out)
  .exact j.elim
 .rename_i s d x q;simp only[execOp,q];split at j
  .rename_i v i B O;rw[A _ _ B];exact fj (j.mono λ_ _ x=>x.out)
  .exact j.elim
 .rename_i op t x y u q;simp only[execOp,q];split at j
  .rename_i a b i Q M O;rw[A _ _ Q,A _ _ M];exact fj (j.mono λ_ _ x=>x.out)
  .rename_i a b Q M O;rw[A _ _ Q,A _ _ M];exact fj (j.mono λ_ _ x=>x.out)
  .exact j.elim
 .rename_i t x lo O mx q;simp only[execOp,q];split at j
  .rename_i l r m v S R D B;rw[H S,H R,H D,A _ _ B];exact fj (j.mono λ_ _ x=>x.out)
  .exact j.elim
 .rename_i c q;simp only[execOp,q];have w:∀{vs:List Value},pC ev c.args.toList=some vs->c.args.map e=vs.toArray:=λB=>by
   apply vj;simpa using Bc A B
  split at j
  .rename_i E;split at j
   .rename_i vs z;unfold resolve;rw[E,w z];exact fj (j.mono λ_ _ x=>x.out)
   .exact j.elim
  .rename_i E;split at j
   .rename_i vs z;unfold resolve;rw[E,w z];exact fj (j.mono λ_ _ x=>x.out)
   .exact j.elim
  .rename_i E;split at j
   .rename_i vs z;unfold resolve;rw[E,w z];exact fj j
   .exact j.elim
  .rename_i E;split at j
   .rename_i vs z;unfold resolve;rw[E,w z];exact fj (j.mono λ_ _ x=>x.out)
   .exact j.elim
  .rename_i E;split at j
   .rename_i vs z;unfold resolve;rw[E,w z];exact fj (j.mono λ_ _ x=>x.out)
   .exact j.elim
  .rename_i E;split at j
   .rename_i vs z;unfold resolve;rw[E,w z];exact fj j
   .exact j.elim
  .rename_i f E;split at j
   .rename_i g first F vs V z
    unfold resolve;rw[E,w z];simp only[A _ _ V];have:=Ov X j;have J:(⟨first⟩:Array Value)++vs.toArray++(⟨F⟩:Array Value)=(first++vs++F).toArray:=by simp
    have L:Ay C.P (callFunc g ((⟨first⟩:Array Value)++vs.toArray++(⟨F⟩:Array Value))) h K:=by rw[J];exact this
    simp only[Deferred.ofValue];exact L
   .exact j.elim
  .exact j.elim
 .exact j.elim
def put(n:Nat)(a:Option Tmp)(K:Env->Heap->Prop)(ρ:Env)(v:Value)(h:Heap):Prop:=
 match a with
 |some d=>bif xm d n then K (.val d v::ρ) h else False
 |none=>K ρ h
theorem tI{n:Nat}{b:Option Tmp}{K:Env->Heap->Prop}{ρ:Env}{v:Value}{h:Heap}(c:put n b K ρ v h){a:Act}(e:Fits n a ρ):
  ∃ρ',Fits n (a.put b v) ρ'/\Ext ρ ρ' a (a.put b v)/\K ρ' h:=by
 unfold put at c;cases b with
 |none=>exact⟨ρ,e,Ext.refl _ _,c⟩
 |some d=>
  simp only at c;cases hb:xm d n with
  |false=>rw[hb]at c;exact c.elim
  |true=>rw[hb]at c;exact⟨_,e.put hb v,Ext.put v v,c⟩
def Xl(C:Ctx)(n:Nat)(o:Oper)(K:Env->Heap->Prop)(ρ:Env)(h:Heap):Prop:=
 match AB C.P C.T o.op ρ.eval with
 | .no=>match tH C.T o.op ρ.eval with
  |some r=>∃y:r.ty.den,r.holds h y/\put n o.dst K ρ (r.ty.enc y) h
  |none=>Gw C o ρ.eval (put n o.dst K ρ) h
 |p=>p.holds λv=>put n o.dst K ρ v h
def Gx(ops:Array Oper)(o:Oper)(ρ:Env)(a skip:Env->Prop):Prop:=
 match o.guard with
 |none=>a ρ
 |some (j,want)=>match(ops[j]?).bind (·.dst)with
  |some d=>match ρ.get d with
   |some (.bool b)=>Br b (bif want then a (.val d (.bool true)::ρ)else skip (.val d (.bool true)::ρ)) (bif want then skip (.val d (.bool false)::ρ)else a (.val d (.bool false)::ρ))
   |some (.tuple _)=>skip ρ
   |_=>False
  |none=>False
theorem Fits.known{n:Nat}{a:Act}{ρ:Env}(c:Fits n a ρ){d:Nat}{v:Value}(e:ρ.get d=some v):Fits n a (.val d v::ρ)/\Ext ρ (.val d v::ρ) a a:=by
 refine⟨⟨c.size,c.defers,λt x b=>?_⟩,⟨[.val d v],rfl,λ_ _=>rfl⟩⟩;simp only[Env.get]at b;cases hb:wo d t with
 |false=>rw[hb]at b;exact c.get t x b
 |true=>
  rw[hb]at b;have:=zu hb;subst this;rw[cond_true]at b;exact c.get _ x (e.trans b)
theorem EU{ops:Array Oper}{o:Oper}{ρ:Env}{e skip:Env->Prop}{n:Nat}{a:Act}(g:Fits n a ρ)(c:Gx ops o ρ e skip):
  ∃ρ',Fits n a ρ'/\Ext ρ ρ' a a/\((Region.wanted o (yielded ops a.tmps)=true/\e ρ')∨(Region.wanted o (yielded ops a.tmps)=false/\skip ρ')):=by
 unfold Gx at c;unfold Region.wanted;split at c
 .rename_i l;rw[l];exact⟨ρ,g,Ext.refl _ _,.inl ⟨rfl,c⟩⟩
 .rename_i j f l;rw[l];split at c
  .rename_i d p;split at c
   .rename_i b h;have m:yielded ops a.tmps j=some b:=by unfold yielded;rw[p];simp[g.get _ _ h]
    simp only[m];obtain⟨i,k⟩:=g.known h;cases b<;>cases f<;>simp only[Br,cond_true,cond_false]at c
    .exact⟨_,i,k,.inl ⟨rfl,c⟩⟩
    .exact⟨_,i,k,.inr ⟨rfl,c⟩⟩
    .exact⟨_,i,k,.inr ⟨rfl,c⟩⟩
    .exact⟨_,i,k,.inl ⟨rfl,c⟩⟩
   .rename_i vs h;have m:yielded ops a.tmps j=none:=by unfold yielded;rw[p];simp[g.get _ _ h]
    simp only[m];exact⟨ρ,g,Ext.refl _ _,.inr ⟨by simp,c⟩⟩
   .exact c.elim
  .exact c.elim
theorem Ui{C:Ctx}(i:C.Ok){n:Nat}{o:Oper}{K:Env->Heap->Prop}{ρ:Env}{a:Act}{w:World}(j:Fits n a ρ)(d:Xl C n o K ρ w.heap)
  {Q:Exit->Act->World->Prop} {next:Act->World->Prop}
  (p:∀a' w' ρ',Fits n a' ρ'->Ext ρ ρ' a a'->dm w w'->K ρ' w'.heap->next a' w'):o.wp C.P a w next Q:=by
 have f:∀x v,ρ.eval x=some v->a.eval x=v:=λx v h=>j.eval h;have b:∀v w',dm w w'->put n o.dst K ρ v w'.heap->next (a.put o.dst v) w':=λv w' k m=>by
  obtain⟨ρ',q,s,h3⟩:=tI m j;exact p _ _ _ q s k h3
 have c:(AB C.P C.T o.op ρ.eval).holds (λv=>put n o.dst K ρ v w.heap)->o.wp C.P a w next Q:=λh=>by
  obtain⟨v,l,g⟩:=Gv i.toOk f h;unfold Oper.wp;rw[l w];exact b v w (dm.refl w) g
 unfold Xl at d;split at d
 .split at d
  .rename_i r e;obtain⟨y,t,g⟩:=d;unfold Oper.wp;rw[Be i.toOk f e t];exact b _ w (dm.refl w) g
  .exact adL (RB i f d) b
 .exact c d
def Ef(C:Ctx)(n:Nat)(ops:Array Oper)(o:Oper)(K:Env->Heap->Prop)(ρ:Env)(h:Heap):Prop:=
 Gx ops o ρ (λρ=>Xl C n o K ρ h) (λρ=>put n o.dst K ρ undef h)
theorem Gy{C:Ctx}(h:C.Ok){n:Nat}{ops:Array Oper}{o:Oper}{i:Nat}(p:ops[i]?=some o){K:Env->Heap->Prop}{ρ:Env}{a:Act}{w:World}
  (f:Fits n a ρ) (l:Ef C n ops o K ρ w.heap) {Q:Exit->Act->World->Prop} {next:Act->World->Prop}
  (c:∀a' w' ρ',Fits n a' ρ'->Ext ρ ρ' a a'->dm w w'->K ρ' w'.heap->next a' w'):wpOp C.P ops Q i next a w:=by
 obtain⟨ρ',d,e,h3⟩:=EU f l;unfold wpOp;simp only[p];rcases h3 with⟨hw,hr⟩|⟨hw,hr⟩
 .simp only[hw,if_true];exact .inl (Ui h d hr λa' w' b j x2 x3 g=>c _ _ _ j (e.trans x2) x3 g)
 .simp only[hw,zc,if_false];obtain⟨b,m,k,q⟩:=tI hr d;exact c _ _ _ m (e.trans k) (dm.refl w) q
def Xm(C:Ctx)(n:Nat)(ops:Array Oper)(K:Env->Heap->Prop):List Oper->Env->Heap->Prop
 |[],ρ,h=>K ρ h
 |o::r,ρ,h=>Ef C n ops o (Xm C n ops K r) ρ h
def Out(n:Nat)(Q:Exit->Env->Heap->Prop)(ρ:Env)(a:Act)(w:World):Exit->Act->World->Prop:=λe a' w'=>
 ∃ρ',Fits n a' ρ'/\Ext ρ ρ' a a'/\dm w w'/\Q e ρ' w'.heap
theorem Jq{C:Ctx}(b:C.Ok){n:Nat}{ops:Array Oper}{K:Env->Heap->Prop}{Q:Exit->Act->World->Prop}{ρ0:Env}{a0:Act}{w0:World}
  (c:∀a w ρ,Fits n a ρ->Ext ρ0 ρ a0 a->dm w0 w->K ρ w.heap->Q .normal a w):
  ∀(r:List Oper) (i:Nat),(∀j,r[j]?=ops[i+j]?)->∀(ρ:Env) (a:Act) (w:World),Fits n a ρ->Ext ρ0 ρ a0 a->dm w0 w->Xm C n ops K r ρ w.heap->
   wpOps C.P ops Q (List.range' i r.length) a w
 |[],i,_,ρ,a,w,hf,hx,hl,hs=>c a w ρ hf hx hl hs
 |o::r,i,hr,ρ,a,w,hf,hx,hl,hs=>by
  have d:ops[i]?=some o:=by simpa using(hr 0).symm
  rw[q7,List.range'_succ,wpOps_cons];refine Gy b d hf hs λa' w' ρ' e f h3 g=>?_;exact Jq b c r (i+1) (λj=>by have:=hr (j+1);simpa[Nat.add_assoc,Nat.add_comm 1 j]using this) ρ' a' w' e (hx.trans f) (hl.trans h3) g
abbrev bK:=List (Addr×Value)
def bK.ok:bK->Heap->Prop
 |[],_=>True
 |p::r,h=>cellOf h p.1=some p.2/\bK.ok r h
def nX(a:Addr):Nat->List Value->bK->bK
 |_,[],L=>L
 |n,v::r,L=>(a.add n,v)::nX a (n+1) r L
theorem nC{a:Addr}{h:Heap}:∀{vs:List Value} {n:Nat} {L:bK},(nX a n vs L).ok h↔bp h a n vs/\L.ok h
 |[],_,L=>by simp[nX,bp]
 |v::r,n,L=>by simp only[nX,bK.ok,bp,nC (vs:=r),and_assoc]
def uL.held(r:uL)(y:r.ty.den)(L:bK):bK:=
 match r.ty,y with
 | .sc s,y=>(r.a,s.enc y)::L
 | .agg l,y=>nX r.a 0 (nW l y) L
 | .arr s,y=>nX r.a 0 (y.map s.enc) L
theorem uL.aaB{r:uL}{y:r.ty.den}{L:bK}{c:Heap}(b:r.holds c y){m:Heap}:(r.held y L).ok m↔r.holds m y/\L.ok m:=by
 obtain⟨a,ty,n⟩:=r;cases ty with
 |sc s=>rfl
 |agg l=>exact nC
 |arr s=>exact nC.trans ⟨λx=>⟨⟨b.1,x.1⟩,x.2⟩,λx=>⟨x.1.2,x.2⟩⟩
structure gq where
 op:Nat
 r:uL
 y:r.ty.den
def flat:List gq->bK
 |[]=>[]
 |p::r=>p.r.held p.y (flat r)
def gq.ok(p:gq)(w:World):Prop:=p.r.holds w.heap p.y
def waits(ops:Array Oper)(j i:Nat):Bool:=match ops[j]? with
 |some o=>o.after.any λe=>Region.binds .any e&&wo e.on i
 |none=>false
def keep(ops:Array Oper)(j:Nat):List gq->List gq
 |[]=>[]
 |p::r=>bif waits ops j p.op then keep ops j r else p::keep ops j r
theorem pI{ops:Array Oper}{j:Nat}:∀{L:List gq},∀p∈keep ops j L,p∈L
 |[],p,h=>by cases h
 |q::r,p,h=>by
  unfold keep at h;cases hw:waits ops j q.op with
  |true=>rw[hw]at h;exact qp _ (pI p h)
  |false=>
   rw[hw]at h;rcases qN.1 h with rfl|h
   .simp
   .exact qp _ (pI p h)
theorem Bf{ops:Array Oper}{j:Nat}:∀{L:List gq} {p:gq},p∈L->waits ops j p.op=false->p∈keep ops j L
 |q::r,p,h,hw=>by
  unfold keep;rcases qN.1 h with rfl|h
  .grind
  .cases hq:waits ops j q.op with
   |true=>exact Bf h hw
   |false=>exact qp _ (Bf h hw)
theorem Fv{ops:Array Oper}{j:Nat}{p:gq}:∀{M:List gq},p∈keep ops j M->waits ops j p.op=false
 |[],h=>by cases h
 |q::r,h=>by
  unfold keep at h;cases hq:waits ops j q.op with
  |true=>rw[hq]at h;exact Fv h
  |false=>
   rw[hq]at h;rcases qN.1 h with rfl|h
   .exact hq
   .exact Fv h
theorem CG{ops:Array Oper}{j:Nat}{L b:List gq}(c:∀p∈b,p∈L):∀p∈keep ops j b,p∈keep ops j L:=
 λp a=>Bf (c p (pI p a)) (Fv a)
def me(P:Program)(ops:Array Oper)(Q:Exit->Act->World->Prop):Nat->List gq->Array Bool->Act->World->Prop
 |0,_,listed,a,w=>Region.ready .any ops listed=[]/\Q .normal a w
 |fuel+1,L,listed,a,w=>
  (Region.ready .any ops listed=[]->Q .normal a w)/\
  ∀i∈Region.ready .any ops listed,wpOp P ops Q i (λa' w'=>(∀p∈keep ops i L,p.ok w')/\me P ops Q fuel (keep ops i L) (listed.setIfInBounds i true) a' w') a w
theorem Gz{P:Program}{ops:Array Oper}{Q:Exit->Act->World->Prop}:∀(c:Nat) (L:List gq) (b:Array Bool) (a:Act) (w:World),me P ops Q c L b a w->wpAny P .any ops Q c b a w
 |0,_,_,_,_,h=>h
 |c+1,_,_,_,_,h=>⟨h.1,λi d=>wpOp_mono (λa' w' h'=>Gz c _ _ a' w' h'.2) (h.2 i d)⟩
theorem Bg{P:Program}{ops:Array Oper}{Q:Exit->Act->World->Prop}:∀(c:Nat) {L d:List gq} (b:Array Bool) (a:Act) (w:World),(∀p∈d,p∈L)->me P ops Q c L b a w->me P ops Q c d b a w
 |0,_,_,_,_,_,_,h=>h
 |c+1,_,_,_,_,_,hs,h=>⟨h.1,λi f=>wpOp_mono (λa' w' h'=>⟨λp e=>h'.1 p (CG hs p e),Bg c _ a' w' (CG hs) h'.2⟩) (h.2 i f)⟩
theorem Lt{P:Program}{ops:Array Oper}{Q:Exit->Act->World->Prop}{i:Nat}{t:Oper}{v:Value}{T:World->Prop}{N:List gq}(Y:ops[i]?=some t)(z:∀(j:Nat) (o:Oper) cs b,ops[j]?=some o->o.op≠.select cs b)
  (hQ:∀c a w,Q (.panic c) (a.put t.dst v) w->Q (.panic c) a w) (hN:∀p∈N,p.op=i) (hT:∀w,(∀p∈N,p.ok w)->T w):
  ∀(f:Nat) (L:List gq) (d:Array Bool) (a:Act) (w:World),
   (∀j s,ops[j]?=some s->j≠i->d.getD j true=false->(∀e∈s.after,Region.binds .any e=true->e.on≠i)->t.apart ops s=true)->
   i∈Region.ready .any ops d->YieldsIf P ops T t v a->(∀p∈N,p.ok w)->(∀p∈L,p.ok w)->
   me P ops Q f (N++L) (d.setIfInBounds i true) (a.put t.dst v) w->me P ops Q (f+1) L d a w:=by
 intro f;have J:∀(f:Nat) (L:List gq) (d:Array Bool) (a:Act) (w:World),YieldsIf P ops T t v a->(∀p∈N,p.ok w)->(∀p∈L,p.ok w)->
   me P ops Q f (N++L) (d.setIfInBounds i true) (a.put t.dst v) w->
   wpOp P ops Q i (λa' w'=>(∀p∈keep ops i L,p.ok w')/\me P ops Q f (keep ops i L) (d.setIfInBounds i true) a' w') a w:=λf L d a w I r M H=>
  I.wpOp Y (hT w r) ⟨λp g=>M p (pI p g),Bg f _ _ _ (λp g=>yg _ (pI p g)) H⟩
 induction f with
 |zero=>
  intro L d a w _ E I r M H;refine⟨λh=>(by grind),λj O=>?_⟩;by_cases m:j=i
  .grind
  .have:=ready_mono O m;rw[H.1]at this;cases this
 |succ f ih=>
  intro L d a w n E I r M H;refine⟨λh=>(by rw[h]at E;cases E),λj O=>?_⟩;by_cases m:j=i
  .subst m;exact J (f+1) L d a w I r M H
  .have A:=H.2 j (ready_mono O m);obtain⟨G,s,q,K⟩:=mem_ready.1 O;have x:∀e∈s.after,Region.binds .any e=true->e.on≠i:=λe he D U=>by
    have A:=K e he D;have X:=(mem_ready.1 E).1;rw[U]at A;rcases Nat.lt_or_ge i d.size with h'|h'
    .simp[h']at X A;rw[X]at A;cases A
    .simp[Array.getElem?_eq_none h']at A
   have Z:(s.after.any λe=>Region.binds .any e&&wo e.on i)=false:=by
    cases hc:s.after.any λe=>Region.binds .any e&&wo e.on i with
    |false=>rfl
    |true=>
     obtain⟨k,R,D⟩:=Array.any_eq_true.1 hc;simp only[qz]at D;exact absurd (zu D.2) (x _ (Array.getElem_mem R) D.1)
   have W:waits ops j i=false:=by unfold waits;rw[q];omega
   have y:∀p,p∈N->p∈keep ops j (N++L):=λp g=>Bf (List.mem_append_left _ g) (by rw[hN p g];omega);have l:∀p,p∈keep ops j L->p∈keep ops j (N++L):=CG λp g=>yg _ g;have h2:=wpOp_putIf q (n j s q m G x) (λcs b=>z i t cs b Y) (λcs b=>z j s cs b q) hQ I A;have u:∀k ok,ops[k]?=some ok->k≠i->(d.setIfInBounds j true).getD k true=false->
     (∀e∈ok.after,Region.binds .any e=true->e.on≠i)->t.apart ops ok=true:=λk ok R S B V=>by
    refine n k ok R S ?_ V;by_cases F:j=k
    .subst F;omega
    .rw[getD_set_ne true F]at B;exact B
   refine wpOp_mono (λa' w' h3=>⟨λp g=>h3.2.1 p (l p g),ih (keep ops j L) (d.setIfInBounds j true) a' w' u (ready_mono E (Ne.symm m)) h3.1 (λp g=>h3.2.1 p (y p g)) (λp g=>h3.2.1 p (l p g)) ?_⟩) h2;rw[Array.setIfInBounds_comm _ _ m];refine Bg _ _ _ _ (λp g=>?_) h3.2.2;rcases List.mem_append.1 g with g|g
   .exact y p g
   .exact l p g
theorem zX{P:Program}{ops:Array Oper}{Q:Exit->Act->World->Prop}{i:Nat}{e:Oper}{v:Value}{T:World->Prop}{N:List gq}{d:Nat}{L:List gq}{b:Array Bool}{a:Act}{w:World}(g:ops[i]?=some e)
  (l:Region.noSelect ops=true) (k:Region.free .any ops b i=true) (r:(Region.ready .any ops b).contains i=true)
  (q:∀c a w,Q (.panic c) (a.put e.dst v) w->Q (.panic c) a w) (n:∀p∈N,p.op=i) (o:∀w,(∀p∈N,p.ok w)->T w) (m:YieldsIf P ops T e v a) (f:∀p∈N,p.ok w) (j:∀p∈L,p.ok w)
  (h:me P ops Q d (N++L) (b.setIfInBounds i true) (a.put e.dst v) w):me P ops Q (d+1) L b a w:=
 Lt g (Region.noSelect_spec l) q n o d L b a w (Region.free_spec g k) (by grind) m f j h
theorem It:∀{L:List gq} {w0:World},(∀p∈L,p.ok w0)->∀{m:Heap},(flat L).ok m->∀p∈L,p.r.holds m p.y
 |[],_,_,_,_,p,a=>by cases a
 |q::r,w0,h0,m,h,p,a=>by
  have h:=(uL.aaB (h0 q List.mem_cons_self)).1 h;rcases qN.1 a with rfl|a
  .exact h.1
  .exact It (λp a=>h0 p (qp _ a)) h.2 p a
def Zr(T:kt)(t:TypeId):Bool:=match T.get t with
 |some i=>match i.ty with
  | .sc .slc=>true
  |_=>false
 |none=>false
def Zs(T:kt):Op->Bool
 | .convert s d _=>!(Zr T s||Zr T d)
 | .move _| .assign _| .pick .. | .nilCheck _| .fieldAddr .. | .indexAddr .. | .index .. | .field .. | .extract .. | .binOp .. | .unOp .. | .build .. | .makeFunc .. | .load .. =>true
 | .slice _ _ _ _ none=>true
 | .call c=>match c.callee with
  | .builtin .len| .builtin .cap| .builtin .min| .builtin .max| .builtin .real| .builtin .imag=>true
  |_=>false
 |_=>false
def nY(T:kt)(ops:Array Oper)(a:Array Bool):List Nat->Option Nat
 |[]=>none
 |i::r=>match ops[i]? with
  |some o=>bif Zs T o.op&&Region.free .any ops a i then some i else nY T ops a r
  |none=>nY T ops a r
def RC(C:Ctx)(n:Nat)(ops:Array Oper)(i:Nat)(o:Oper)(L:List gq)(K:List gq->Env->Heap->Prop)(ρ:Env)(h:Heap):Prop:=
 Gx ops o ρ (λρ=>match AB C.P C.T o.op ρ.eval with
  | .no=>match tH C.T o.op ρ.eval with
   |some r=>∃y:r.ty.den,r.holds h y/\put n o.dst (K (⟨i,r,y⟩::L)) ρ (r.ty.enc y) h
   |none=>False
  |p=>p.holds λv=>put n o.dst (K L) ρ v h) (λρ=>put n o.dst (K L) ρ undef h)
def Lu(C:Ctx)(n:Nat)(ops:Array Oper)(K:Nat->Env->Heap->Prop)(ρ:Env)(h:Heap):List Nat->Prop
 |[]=>True
 |[i]=>match ops[i]? with
  |some o=>Ef C n ops o (K i) ρ h
  |none=>False
 |i::j::r=>(match ops[i]? with
  |some o=>Ef C n ops o (K i) ρ h
  |none=>False)/\Lu C n ops K ρ h (j::r)
def tJ(C:Ctx)(n:Nat)(ops:Array Oper)(K:Env->Heap->Prop):Nat->Array Bool->List gq->Env->Heap->Prop
 |0,listed,_,ρ,h=>bif (Region.ready .any ops listed).isEmpty then K ρ h else False
 |k+1,listed,L,ρ,h=>match nY C.T ops listed (Region.ready .any ops listed)with
  |some i=>match ops[i]? with
   |some o=>RC C n ops i o L (tJ C n ops K k (listed.setIfInBounds i true)) ρ h
   |none=>False
  |none=>match Region.ready .any ops listed with
   |[]=>K ρ h
   |i::r=>Lu C n ops (λi ρ h=>(flat (keep ops i L)).ok h/\tJ C n ops K k (listed.setIfInBounds i true) (keep ops i L) ρ h) ρ h (i::r)
theorem sj{T:kt}{ops:Array Oper}{a:Array Bool}:∀{rs:List Nat} {i:Nat},nY T ops a rs=some i->i∈rs/\Region.free .any ops a i=true
 |[],_,h=>by cases h
 |j::r,i,h=>by
  simp only[nY]at h;split at h
  .rename_i o b;cases hb:(Zs T o.op&&Region.free .any ops a j)with
   |true=>
    grind
   |false=>
    rw[hb]at h;have:=sj h
    grind
  .have:=sj h
   grind
theorem Jr{C:Ctx}{n:Nat}{ops:Array Oper}{K:Nat->Env->Heap->Prop}{ρ:Env}{h:Heap}:∀{l:List Nat},Lu C n ops K ρ h l->∀i∈l,∃o,ops[i]?=some o/\Ef C n ops o (K i) ρ h
 |[],_,i,hi=>by cases hi
 |[j],ha,i,hi=>by
  simp only[Lu]at ha
  grind
 |j::k::r,ha,i,hi=>by
  obtain⟨b,a⟩:=ha;rcases qN.1 hi with rfl|hi
  .grind
  .exact Jr a i hi
variable {n:Nat} {ops:Array Oper} {Q:Exit->Act->World->Prop} {ρ0:Env} {a0:Act} {w0:World}
section
variable {C:Ctx} {K:Env->Heap->Prop}
theorem Js(H:C.Ok)(I:Region.noSelect ops=true)
  (W:∀a w ρ,Fits n a ρ->Ext ρ0 ρ a0 a->dm w0 w->K ρ w.heap->Q .normal a w) (z:∀c a w,¬Q (.panic c) a w):
  ∀(k:Nat) (b:Array Bool) (L:List gq) (ρ:Env) (a:Act) (w:World),Fits n a ρ->Ext ρ0 ρ a0 a->dm w0 w->(∀p∈L,p.ok w)->
   tJ C n ops K k b L ρ w.heap->me C.P ops Q k L b a w
 |0,b,L,ρ,a,w,hf,hx,hl,hL,h=>by
  simp only[tJ]at h;cases hb:(Region.ready .any ops b).isEmpty with
  |false=>rw[hb]at h;exact h.elim
  |true=>rw[hb]at h;exact⟨by simpa using hb,W _ _ _ hf hx hl h⟩
 |k+1,b,L,ρ,a,w,hf,hx,hl,hL,h=>by
  have J:=Js H I W z k;simp only[tJ]at h;split at h
  .rename_i i M;obtain⟨F,f⟩:=sj M;have d:(Region.ready .any ops b).contains i=true:=by simpa using F
   split at h
   .rename_i o A;unfold RC at h;obtain⟨ρ',G,U,h3⟩:=EU hf h;have q:∀c a w (v:Value),Q (.panic c) (Act.put a o.dst v) w->Q (.panic c) a w:=λc a w v hq=>absurd hq (z c _ w);have X:∀x v,Env.eval ρ' x=some v->a.eval x=v:=λx v h=>G.eval h;rcases h3 with⟨t,g⟩|⟨t,g⟩
    .have s:(AB C.P C.T o.op (Env.eval ρ')).holds (λv=>put n o.dst (tJ C n ops K k (b.setIfInBounds i true) L) ρ' v w.heap)->
       me C.P ops Q (k+1) L b a w:=λe=>by
      obtain⟨v,hv,O⟩:=Gv H.toOk X e;obtain⟨m,D,B,E⟩:=tI O G;exact zX (N:=[]) (T:=λ_=>True) A I f d (λc a w=>q c a w v) (λp e=>by cases e) (λ_ _=>trivial) (.inl ⟨t,λw _=>hv w⟩) (λp e=>by cases e) hL
       (J _ L m _ w D (hx.trans (U.trans B)) hl hL E)
     split at g
     .split at g
      .rename_i r u;obtain⟨y,hy,O⟩:=g;obtain⟨m,D,B,E⟩:=tI O G;have R:∀p∈[(⟨i,r,y⟩:gq)],p.ok w:=λp e=>by rw[qB]at e;subst e;exact hy
       refine zX (N:=[⟨i,r,y⟩]) (T:=λw=>r.holds w.heap y) A I f d (λc a w=>q c a w _) (λp e=>by rw[qB]at e;subst e;rfl)
        (λw h=>h ⟨i,r,y⟩ (qB.2 rfl)) (.inl ⟨t,λw t=>Be H.toOk X u t⟩) R hL ?_
       refine J _ (⟨i,r,y⟩::L) m _ w D (hx.trans (U.trans B)) hl (λp e=>?_) E
       grind
      .exact g.elim
     .exact s g
    .obtain⟨m,D,B,E⟩:=tI g G;exact zX (N:=[]) (T:=λ_=>True) A I f d (λc a w=>q c a w undef) (λp e=>by cases e) (λ_ _=>trivial) (.inr ⟨t,rfl⟩) (λp e=>by cases e) hL
      (J _ L m _ w D (hx.trans (U.trans B)) hl hL E)
   .exact h.elim
  .split at h
   .rename_i g;exact⟨λ_=>W _ _ _ hf hx hl h,λi M=>by rw[g]at M;cases M⟩
   .rename_i i r g;refine⟨λZ=>absurd (g▸Z) (by simp),λj Y=>?_⟩;rw[g]at Y;obtain⟨o,A,V⟩:=Jr h j Y;have l:∀p∈keep ops j L,p.ok w:=λp e=>hL p (pI p e);exact Gy H A hf V λa' w' ρ' x1 x2 x3 S=>⟨It l S.1,J _ (keep ops j L) ρ' a' w' x1 (hx.trans x2) (hl.trans x3) (It l S.1) S.2⟩
end
def sched(T:kt)(ops:Array Oper):Nat->Array Bool->Option (List (Nat×Bool))
 |0,listed=>bif (Region.ready .any ops listed).isEmpty then some []else none
 |k+1,listed=>match nY T ops listed (Region.ready .any ops listed)with
  |some i=>(sched T ops k (listed.setIfInBounds i true)).map ((i,true)::·)
  |none=>match Region.ready .any ops listed with
   |[]=>some []
   |[i]=>(sched T ops k (listed.setIfInBounds i true)).map ((i,false)::·)
   |_::_::_=>none
def rK(C:Ctx)(n:Nat)(ops:Array Oper)(K:Env->Heap->Prop):List (Nat×Bool)->List gq->Env->Heap->Prop
 |[],_,ρ,h=>K ρ h
 |(i,true)::r,L,ρ,h=>match ops[i]? with
  |some o=>RC C n ops i o L (rK C n ops K r) ρ h
  |none=>False
 |(i,false)::r,L,ρ,h=>match ops[i]? with
  |some o=>Ef C n ops o (λρ h=>(flat (keep ops i L)).ok h/\rK C n ops K r (keep ops i L) ρ h) ρ h
  |none=>False
theorem Jt{C:Ctx}{n:Nat}{ops:Array Oper}{K:Env->Heap->Prop}:∀(k:Nat) (a:Array Bool) (l:List (Nat×Bool)),sched C.T ops k a=some l->
  tJ C n ops K k a=rK C n ops K l
 |0,a,l,hs=>by
  simp only[sched]at hs;cases hb:(Region.ready .any ops a).isEmpty with
  |false=>rw[hb]at hs;cases hs
  |true=>
   rw[hb]at hs;cases hs;funext L ρ h;simp only[tJ,hb,rK,cond_true]
 |k+1,a,l,hs=>by
  have d:=λi=>Jt (C:=C) (n:=n) (ops:=ops) (K:=K) k (a.setIfInBounds i true);funext L ρ h;unfold sched at hs;unfold tJ;cases hi:nY C.T ops a (Region.ready .any ops a)with
  |some i=>
   rw[hi]at hs;obtain⟨b,c,rfl⟩:=yV.1 hs;simp only[rK,d i b c]
  |none=>
   rw[hi]at hs;generalize e:Region.ready .any ops a=rd at hs
   match rd,hs with
   |[],hs=>cases hs;simp only[rK]
   |[i],hs=>
    obtain⟨b,c,rfl⟩:=yV.1 hs;simp only[Lu,rK,d i b c]
def Iu(C:Ctx)(n:Nat)(ops:Array Oper)(a:Bool)(K:Env->Heap->Prop)(ρ:Env)(h:Heap):Prop:=
 match a with
 |false=>Xm C n ops K ops.toList ρ h
 |true=>bif Region.noSelect ops then(match sched C.T ops ops.size (vC ops.size false)with
  |some l=>rK C n ops K l [] ρ h
  |none=>tJ C n ops K ops.size (vC ops.size false) [] ρ h)else False
theorem Lv{C:Ctx}(f:C.Ok){n:Nat}{id:Nat}{ops:Array Oper}{b:Bool}{Q:Exit->Env->Heap->Prop}{ρ:Env}{a:Act}{w:World}(i:Fits n a ρ)
  (h:Iu C n ops b (Q .normal) ρ w.heap):(Code.region id ops b).wp C.P (λe a' w'=>(∀c,e≠.panic c)/\Out n Q ρ a w e a' w') a w:=by
 cases b with
 |false=>
  refine wp_region ?_;have:=Jq f (Q:=λe a' w'=>(∀c,e≠.panic c)/\Out n Q ρ a w e a' w') (K:=Q .normal) (ρ0:=ρ) (a0:=a) (w0:=w) (λa' w' ρ' g x2 x3 d=>⟨λc e=>(by cases e),ρ',g,x2,x3,d⟩)
   ops.toList 0 (λj=>by simp) ρ a w i (Ext.refl _ _) (dm.refl _) h
  rw[List.range_eq_range'];simpa using this
 |true=>
  simp only[Iu]at h;cases hb:Region.noSelect ops with
  |false=>rw[hb]at h;exact h.elim
  |true=>
   rw[hb]at h;have h:tJ C n ops (Q .normal) ops.size (vC ops.size false) [] ρ w.heap:=by
    simp only[cond_true]at h;split at h
    .rename_i l k;rw[Jt _ _ _ k];exact h
    .exact h
   refine wp_region_any f.mixed (Gz _ [] _ _ _ ?_);exact Js f hb (Q:=λe a' w'=>(∀c,e≠.panic c)/\Out n Q ρ a w e a' w') (ρ0:=ρ) (a0:=a) (w0:=w) (λa' w' ρ' g x2 x3 d=>⟨λc e=>(by cases e),ρ',g,x2,x3,d⟩)
    (λc a w o=>o.1 c rfl) _ _ [] ρ a {w with drawn:=w.drawn+1} i (Ext.refl _ _) ⟨rfl,rfl,rfl,Nat.le_succ _⟩ (λp m=>by cases m) h
def ku{σ:Type}(rest:σ->Heap->Prop)(B:(σ->Heap->Prop)->Prop):Prop:=∃R:σ->Heap->Prop,(∀s h,R s h->rest s h)/\B R
def gr{σ:Type}(B:σ->(σ->Heap->Prop)->Heap->Prop)(s:σ)(h:Heap):Prop:=
 ∃(τ:Type) (V:τ->σ) (I:τ->Heap->Prop) (μ:τ->Nat) (t0:τ),s=V t0/\I t0 h/\∀t h,I t h->B (V t) (λb h'=>∃a,b=V a/\I a h'/\μ a<μ t) h
theorem Uj{P:Program}{c:Code}{Q:Exit->Act->World->Prop}{a:Act}{w:World}{σ:Type}(R:σ->Act->World->Prop)(μ:σ->World->Nat)(t:σ)(u:R t a w)
  (i:∀s a w,R s a w->c.wp P (Exit.then (λa' w'=>∃m,R m a' w'/\μ m w'<μ s w) Q) a w):(Code.loop c).wp P Q a w:=by
 intro b k cs;have p:∀n s a w,μ s w=n->R s a w->
   ∃e a' w',Q e a' w'/\Arrives P (lone (b.at a (.code c::.inLoop c::k)) cs w) b k cs e a' w':=by
  intro n
  induction n using Nat.strongRecOn with
  |_ n ih=>
   intro s a w y B;obtain⟨e,j,g,f,d⟩:=i s a w B b (.inLoop c::k) cs;cases e with
   |normal=>
    obtain⟨m,r,q⟩:=f;obtain⟨A,z,v,o,h⟩:=ih (μ m g) (y▸q) m j g rfl r;exact⟨A,z,v,o,.of_steps (Steps.trans d (.one step_inLoop)) h⟩
   |exit id=>exact⟨_,j,g,f,.pass (x:=.inLoop c) rfl (λ_ _=>.inl (by simp)) d⟩
   |goto l=>exact⟨_,j,g,f,.pass (x:=.inLoop c) rfl (λ_ _=>.inl (by simp)) d⟩
   |ret=>exact⟨_,j,g,f,.pass (x:=.inLoop c) rfl (λ_ _=>.inl (by simp)) d⟩
   |panic ch=>exact⟨_,j,g,f,.pass (x:=.inLoop c) rfl (λ_ _=>.inl (by simp)) d⟩
   |outgrown=>exact⟨_,j,g,f,.pass (x:=.inLoop c) rfl (λ_ _=>.inl (by simp)) d⟩
 obtain⟨e,a',w',f,d⟩:=p _ t a w rfl u;exact⟨e,a',w',f,.of_steps (.one step_loop) d⟩
inductive bU where
 |n
 |two (a b:bU)
 |inn (a:bU)
 |loop (σ:dG) (κ:dn) (a:bU)
 |join (σ:dG) (κ:dn) (a:bU)
 |scope (l:Nat) (σ:dG) (κ:dn) (pre rest:List bU) (fwd:List (Nat×List bU))
 |fwd (a:bU) (fwd:List (Nat×List bU))
def bU.fst:bU->bU
 | .two a _=>a
 |_=>.n
def bU.snd:bU->bU
 | .two _ b=>b
 |_=>.n
def bU.sub:bU->bU
 | .inn a=>a
 |_=>.n
abbrev QT:=Exit->Env->Heap->Prop
def GA(σ:dG)(κ:dn)(ρ:Env)(K:σ.den->Heap->Prop)(Q:QT):QT
 | .normal,ρ',h=>bif within σ κ ρ' (ρ'.length-ρ.length)then(match σ.read ρ' with|some s=>K s h|none=>False)else False
 |e,ρ',h=>Q e ρ' h
def Eg(next:Env->Heap->Prop)(Q:QT):QT
 | .normal,ρ,h=>next ρ h
 |e,ρ,h=>Q e ρ h
def Uk(id:Nat)(Q:QT):QT
 | .exit i,ρ,h=>bif wo i id then Q .normal ρ h else Q (.exit i) ρ h
 |e,ρ,h=>Q e ρ h
abbrev Rec:=Code->bU->QT->Env->Heap->Prop
def uM(rec:Rec):List Code->List bU->QT->Env->Heap->Prop
 |[],_,Q,ρ,h=>Q .normal ρ h
 |c::cs,[],Q,ρ,h=>rec c .n (Eg (uM rec cs [] Q) Q) ρ h
 |c::cs,x::xs,Q,ρ,h=>rec c x (Eg (uM rec cs xs Q) Q) ρ h
def chain:Code->Nat->Option (List Code×List Code)
 | .seq a b,l=>match chain a l with
  |some (p,r)=>some (p,r++[b])
  |none=>match chain b l with
   |some (p,r)=>some (a::p,r)
   |none=>none
 | .label l',l=>bif wo l' l then some ([],[])else none
 |_,_=>none
def Zt(a:List (Nat×List bU))(l:Nat):Option (List bU):=
 match a with
 |[]=>none
 |p::r=>bif wo p.1 l then some p.2 else Zt r l
def Eh(rec:Rec)(c:Code)(a:List (Nat×List bU))(Q:QT):Nat->QT
 |0=>λ_ _ _=>False
 |g+1=>λe ρ h=>match e with
  | .goto l=>match Zt a l with
   |some xs=>match chain c l with
    |some (_,r)=>uM rec r xs (Eh rec c a Q g) ρ h
    |none=>False
   |none=>Q (.goto l) ρ h
  |e=>Q e ρ h
def RD(l:Nat)(σ:dG)(κ:dn)(ρ:Env)(K:σ.den->Heap->Prop)(Q:QT):QT
 | .goto l',ρ',h=>bif wo l' l then(bif within σ κ ρ' (ρ'.length-ρ.length)then(match σ.read ρ' with|some s=>K s h|none=>False)else False)else Q (.goto l') ρ' h
 |e,ρ',h=>Q e ρ' h
def Lw(c:Code)(Q:QT):QT
 | .goto l,ρ,h=>match findLabel c l with
  |none=>Q (.goto l) ρ h
  |some _=>False
 |e,ρ,h=>Q e ρ h
def Lx(C:Ctx)(n:Nat)(rec:Rec)(c:Code)(d:bU)(Q:QT)(ρ:Env)(h:Heap):Prop:=
 match d with
 | .join σ κ a=>ku (λs h=>Q .normal (σ.vals s (κ.over ρ)) h) (λK=>rec c a (GA σ κ ρ K Q) ρ h)
 |d=>match c with
  | .skip=>Q .normal ρ h
  | .label _=>Q .normal ρ h
  | .region _ ops draw=>Iu C n ops draw (Q .normal) ρ h
  | .seq a b=>rec a d.fst (Eg (rec b d.snd Q) Q) ρ h
  | .cond x a b=>match ρ.eval x with
   |some (.bool t)=>Br t (rec a d.fst Q ρ h) (rec b d.snd Q ρ h)
   |_=>False
  | .block id c=>rec c d.sub (Uk id Q) ρ h
  | .exit id=>Q (.exit id) ρ h
  | .goto l=>Q (.goto l) ρ h
  | .ret=>Q .ret ρ h
  | .loop c=>match d with
   | .loop σ κ a=>match σ.read ρ with
    |some s0=>gr (λs K h=>rec c a (GA σ κ (σ.vals s (κ.over ρ)) K Q) (σ.vals s (κ.over ρ)) h) s0 h
    |none=>False
   |_=>False
  | .scope c=>match d with
   | .scope l σ κ pre rest fwd=>match chain c l with
    |some (p,r)=>uM rec p pre (Eg (λρ' h'=>match σ.read ρ' with
     |some s0=>gr (λs K h=>uM rec r rest (Eh rec c fwd (RD l σ κ (σ.vals s (κ.over ρ')) K (Lw c Q)) 4) (σ.vals s (κ.over ρ')) h) s0 h'
     |none=>False) (Lw c Q)) ρ h
    |none=>False
   | .fwd a fwd=>rec c a (Eh rec c fwd (Lw c Q) 4) ρ h
   |_=>False
  |_=>False
def vc(C:Ctx)(n:Nat):Nat->Rec
 |0=>λ_ _ _ _ _=>False
 |f+1=>Lx C n (vc C n f)
def Ei(C:Ctx)(n:Nat)(rec:Rec):Prop:=∀(c:Code) (b:bU) (Q:QT) (ρ:Env) (a:Act) (w:World),Fits n a ρ->rec c b Q ρ w.heap->c.wp C.P (Out n Q ρ a w) a w
variable {ρ ρ':Env} {a a':Act} {w w':World}
section
variable {C:Ctx} {Q:QT}
theorem Out.base{e:Exit}{b:Act}{c:World}(i:Ext ρ ρ' a a')(f:dm w w')(h:Out n Q ρ' a' w' e b c):Out n Q ρ a w e b c:=by obtain⟨d,k,g,h3,j⟩:=h;exact⟨d,k,i.trans g,f.trans h3,j⟩
theorem Out.then{next:Env->Heap->Prop}{N:Act->World->Prop}{j:Exit->Act->World->Prop}{e:Exit}{b:Act}{c:World}(h:Out n (Eg next Q) ρ a w e b c)
  (l:∀ρ',Fits n b ρ'->Ext ρ ρ' a b->dm w c->next ρ' c.heap->N b c) (k:Out n Q ρ a w e b c->e≠.normal->j e b c):Exit.then N j e b c:=by
 obtain⟨d,i,f,h3,g⟩:=h;cases e<;>first|exact l d i f h3 g|exact k ⟨d,i,f,h3,g⟩ (by simp)
def nD(P:Program):List Code->(Exit->Act->World->Prop)->Act->World->Prop
 |[],Q,a,w=>Q .normal a w
 |c::cs,Q,a,w=>c.wp P (Exit.then (nD P cs Q) Q) a w
theorem kO{P:Program}{Q d:Exit->Act->World->Prop}(b:∀e a w,Q e a w->d e a w):∀(l:List Code) (a:Act) (w:World),nD P l Q a w->nD P l d a w
 |[],_,_,h=>b _ _ _ h
 |c::cs,a,w,h=>wp_mono h λe a w h=>by
  cases e<;>first|exact kO b cs a w h|exact b _ _ _ h
theorem oK{rec:Rec}(d:Ei C n rec):∀(l:List Code) (xs:List bU) (Q:QT) (ρ:Env) (a:Act) (w:World),Fits n a ρ->uM rec l xs Q ρ w.heap->nD C.P l (Out n Q ρ a w) a w
 |[],_,Q,ρ,a,w,hf,h=>⟨ρ,hf,Ext.refl _ _,dm.refl _,h⟩
 |c::cs,[],Q,ρ,a,w,hf,h=>by
  refine wp_mono (d c .n _ ρ a w hf h) λe a' w' b=>b.then (λρ' g x2 x3 f=>?_) λb _=>b;exact kO (λe a w h=>h.base x2 x3) cs a' w' (oK d cs [] Q ρ' a' w' g f)
 |c::cs,x::xs,Q,ρ,a,w,hf,h=>by
  refine wp_mono (d c x _ ρ a w hf h) λe a' w' b=>b.then (λρ' g x2 x3 f=>?_) λb _=>b;exact kO (λe a w h=>h.base x2 x3) cs a' w' (oK d cs xs Q ρ' a' w' g f)
end
theorem Aa{P:Program}{b:Code}{Q:Exit->Act->World->Prop}:∀(l:List Code) (a:Act) (w:World),nD P (l++[b]) Q a w->nD P l (Exit.then (b.wp P Q) Q) a w
 |[],a,w,h=>by
  refine wp_mono h λe a w h=>?_;cases e<;>exact h
 |c::cs,a,w,h=>wp_mono h λe a w h=>by
  cases e<;>first|exact Aa cs a w h|exact h
theorem rq:∀{c:Code} {l:Nat} {p r:List Code},chain c l=some (p,r)->∃k,findLabel c l=some k/\
  (∀{P:Program} {Q:Exit->Act->World->Prop} {a:Act} {w:World},nD P r Q a w->k.wp P Q a w)/\
  (∀{P:Program} {Q:Exit->Act->World->Prop} {a:Act} {w:World},nD P p (Exit.then (nD P r Q) Q) a w->c.wp P Q a w)
 | .seq x y,l,p,r,h=>by
  simp only[chain]at h;split at h
  .rename_i n i d;cases h;obtain⟨k,j,m,h3⟩:=rq d;refine⟨.seq k y,by simp[findLabel,j],λ{P Q a w} h=>wp_seq (m (Aa i a w h)),λ{P Q a w} h=>wp_seq (h3 ?_)⟩;refine kO (λe a w g=>?_) p a w h;cases e<;>first|exact Aa i a w g|exact g
  .rename_i d;split at h
   .rename_i n i q;cases h;obtain⟨k,j,m,h3⟩:=rq q;have o:findLabel x l=none:=by
     induction x with
     |seq a b iha ihb=>
      simp only[chain]at d;split at d
      .cases d
      .rename_i s;split at d
       .cases d
       .rename_i f;simp[findLabel,iha s,ihb f]
     |label l'=>
      simp only[chain]at d;cases f:wo l' l with
      |true=>grind
      |false=>
       have:¬l'=l:=λe=>by subst e;simp at f
       simp[findLabel,this]
     |_=>rfl
    refine⟨k,by simp[findLabel,o,j],m,λ{P Q a w} h=>wp_seq (wp_mono h λe a w g=>?_)⟩;cases e<;>first|exact h3 g|exact g
   grind
 | .label l',l,p,r,h=>by
  simp only[chain]at h;cases f:wo l' l with
  |false=>grind
  |true=>
   rw[f]at h;cases h;have:=zu f;subst this;exact⟨.skip,by simp[findLabel],λh=>wp_skip h,λh=>wp_label h⟩
 | .skip,_,_,_,h=>by cases h
 | .region ..,_,_,_,h=>by cases h
 | .cond ..,_,_,_,h=>by cases h
 | .block ..,_,_,_,h=>by cases h
 | .loop _,_,_,_,h=>by cases h
 | .rangeFunc ..,_,_,_,h=>by cases h
 | .exit _,_,_,_,h=>by cases h
 | .scope _,_,_,_,h=>by cases h
 | .goto _,_,_,_,h=>by cases h
 | .ret,_,_,_,h=>by cases h
 | .refuse _,_,_,_,h=>by cases h
variable {c:Code} {b:Frame} {k:List Item} {cs:List Frame}
def Reach(P:Program)(c:Code)(Q:Exit->Act->World->Prop)(b:Frame)(k:List Item)(d:List Frame)(a:Act)(w:World)(r:Code):Prop:=
 ∃e a' w',Q e a' w'/\Arrives P (lone (b.at a (.code r::.inScope c::k)) d w) b k d e a' w'
def Good(P:Program)(c:Code)(Q:Exit->Act->World->Prop)(b:Frame)(k:List Item)(d:List Frame):Exit->Act->World->Prop
 | .goto l,a,w=>match findLabel c l with
  |some r=>Reach P c Q b k d a w r
  |none=>Q (.goto l) a w
 |e,a,w=>Q e a w
theorem Ly{m:Machine}{e:Exit}{a:Act}{w:World}(f:Good P c Q b k cs e a w)(d:Arrives P m b (.inScope c::k) cs e a w):
  ∃e a' w',Q e a' w'/\Arrives P m b k cs e a' w':=by
 cases e with
 |normal=>exact⟨.normal,a,w,f,Steps.trans d (.one step_inScope)⟩
 |exit id=>exact⟨.exit id,a,w,f,λi j=>d i (by simp[exitTo,j])⟩
 |goto l=>
  simp only[Good]at f;cases hf:findLabel c l with
  |none=>
   rw[hf]at f;exact⟨.goto l,a,w,f,λi j=>d i (by simp[gotoIn,hf,j])⟩
  |some r=>
   rw[hf]at f;obtain⟨p,n,o,h,g⟩:=f;exact⟨p,n,o,h,.of_steps (d _ (by simp[gotoIn,hf])) g⟩
 |ret=>exact⟨_,a,w,f,d⟩
 |panic ch=>exact⟨_,a,w,f,d⟩
 |outgrown=>exact⟨_,a,w,f,d⟩
theorem Lz{r:Code}{a:Act}{w:World}(h:r.wp P (Good P c Q b k cs) a w):Reach P c Q b k cs a w r:=by obtain⟨e,a',w',f,d⟩:=h b (.inScope c::k) cs;exact Ly f d
theorem Cg{a:Act}{w:World}(h:∀b k cs,c.wp P (Good P c Q b k cs) a w):(Code.scope c).wp P Q a w:=by intro b k cs;obtain⟨e,m,l,j,d⟩:=h b k cs b (.inScope c::k) cs;obtain⟨g,a',w',i,f⟩:=Ly j d;exact⟨g,a',w',i,.of_steps (.one step_scope) f⟩
variable {rec:Rec}
section
variable {C:Ctx}
theorem Bh(u:Ei C n rec){c:Code}{o:List (Nat×List bU)}{t:QT}{s:Exit->Act->World->Prop}{b:Frame}{k:List Item}{q:List Frame}{ρ:Env}{a0:Act}{w0:World}
  (j:∀e i d f,Fits n d i->Ext ρ i a0 d->dm w0 f->t e i f.heap->Good C.P c s b k q e d f):
  ∀(g:Nat) (e:Exit) (i:Env) (d:Act) (f:World),Fits n d i->Ext ρ i a0 d->dm w0 f->Eh rec c o t g e i f.heap->Good C.P c s b k q e d f
 |0,_,_,_,_,_,_,_,h=>h.elim
 |g+1,e,i,d,f,hf,hx,hl,h=>by
  cases e with
  |goto l=>
   simp only[Eh]at h;split at h
   .split at h
    .rename_i p r m;obtain⟨F,y,z,_⟩:=rq m;simp only[Good,y];refine Lz (z ?_);refine kO (λe a w A=>?_) _ _ _ (oK u _ _ _ i d f hf h);obtain⟨x,D,B,E,v⟩:=A;exact Bh u j g e x a w D (hx.trans B) (hl.trans E) v
    grind
   grind
  |normal=>exact j _ _ _ _ hf hx hl h
  |exit id=>exact j _ _ _ _ hf hx hl h
  |ret=>exact j _ _ _ _ hf hx hl h
  |panic ch=>exact j _ _ _ _ hf hx hl h
  |outgrown=>exact j _ _ _ _ hf hx hl h
theorem ol{c:Code}{Q:QT}{b:Frame}{k:List Item}{m:List Frame}{ρ:Env}{a0:Act}{w0:World}{e:Exit}{a:Env}{i:Act}{j:World}
  (g:Fits n i a) (f:Ext ρ a a0 i) (d:dm w0 j) (h:Lw c Q e a j.heap):Good C.P c (Out n Q ρ a0 w0) b k m e i j:=by
 cases e with
 |goto l=>
  simp only[Lw]at h;simp only[Good];split at h
  .rename_i o;simp only[o];exact⟨a,g,f,d,h⟩
  grind
 |normal=>exact⟨a,g,f,d,h⟩
 |exit id=>exact⟨a,g,f,d,h⟩
 |ret=>exact⟨a,g,f,d,h⟩
 |panic ch=>exact⟨a,g,f,d,h⟩
 |outgrown=>exact⟨a,g,f,d,h⟩
theorem Ju{a:Act}{σ:dG}{κ:dn}{ρ:Env}{s:σ.den}(b:Fits n a ρ)(c:σ.read ρ=some s):Fits n a (σ.vals s (κ.over ρ))/\Ext ρ (σ.vals s (κ.over ρ)) a a:=
 b.pH b (λ_ _ _=>rfl) c
theorem Ow(A:Ei C n rec){c:Code}{l:Nat}{σ:dG}{κ:dn}{pre rest:List bU}{D:List (Nat×List bU)}{p r:List Code}(hc:chain c l=some (p,r)){Q:QT}{ρ:Env}{a:Act}{w:World}(hf:Fits n a ρ)
  (h:uM rec p pre (Eg (λρ' h'=>match σ.read ρ' with
     |some R=>gr (λs K h=>uM rec r rest (Eh rec c D (RD l σ κ (σ.vals s (κ.over ρ')) K (Lw c Q)) 4) (σ.vals s (κ.over ρ')) h) R h'
     |none=>False) (Lw c Q)) ρ w.heap):(Code.scope c).wp C.P (Out n Q ρ a w) a w:=by
 refine Cg λb k cs=>?_;obtain⟨kk,Z,h2,h3⟩:=rq hc;refine h3 (kO (λe a' w' y=>?_) _ _ _ (oK A _ _ _ ρ a w hf h));refine y.then (λρ' S x2 x3 M=>?_) (λy _=>?_)
 .split at M
  .rename_i R B;obtain⟨τ,V,I,μ,t0,e0,Y,i⟩:=M;subst e0;have g:=Ju (κ:=κ) S B;have x:∀(m:Nat) (t:τ) (v:Act) (j:World),μ t=m->I t j.heap->Fits n v (σ.vals (V t) (κ.over ρ'))->Ext ρ' (σ.vals (V t) (κ.over ρ')) a' v->dm w' j->
     nD C.P r (Good C.P c (Out n Q ρ a w) b k cs) v j:=by
    intro m
    induction m using Nat.strongRecOn with
    |_ m ih=>
     intro t v j hm z F f d;refine kO (λe a2 U y=>?_) _ _ _ (oK A _ _ _ _ v j F (i t j.heap z));obtain⟨W,E,L,G,J⟩:=y;refine Bh A (ρ:=σ.vals (V t) (κ.over ρ')) (a0:=v) (w0:=j) (λe O a3 w3 o q z3 z4=>?_) 4 e W a2 U E L G J;cases e with
     |goto l'=>
      simp only[RD]at z4;cases hb:wo l' l with
      |false=>
       rw[hb]at z4;exact ol o (x2.trans (f.trans q)) (x3.trans (d.trans z3)) z4
      |true=>
       rw[hb]at z4;have:=zu hb;subst this;simp only[Good,Z];cases hw:within σ κ O (O.length-(σ.vals (V t) (κ.over ρ')).length)with
       |false=>grind
       |true=>
        rw[hw]at z4;split at z4
        .rename_i s' H;have u:∀t,σ.has t=false->(κ.over []).fg t=false->a3.tmps[t]?=a'.tmps[t]?:=λt T N=>by
          rw[q.within hw t T N,f.pH t T N]
         obtain⟨u1,u2⟩:=S.pH (κ:=κ) o u H;obtain⟨t',X,i1,i2⟩:=z4;subst X;exact Lz (h2 (ih _ (by omega) t' a3 w3 rfl i1 u1 u2 (d.trans z3)))
        grind
     |normal=>exact ol o (x2.trans (f.trans q)) (x3.trans (d.trans z3)) z4
     |exit id=>exact ol o (x2.trans (f.trans q)) (x3.trans (d.trans z3)) z4
     |ret=>exact ol o (x2.trans (f.trans q)) (x3.trans (d.trans z3)) z4
     |panic ch=>exact ol o (x2.trans (f.trans q)) (x3.trans (d.trans z3)) z4
     |outgrown=>exact ol o (x2.trans (f.trans q)) (x3.trans (d.trans z3)) z4
   exact x _ t0 a' w' rfl Y g.1 g.2 (dm.refl _)
  grind
 .obtain⟨ρ1,E,L,G,J⟩:=y;exact ol E L G J
theorem aaC(X:C.Ok)(o:Ei C n rec):Ei C n (Lx C n rec):=by
 intro c P Q ρ a w g h;have u:∀{σ:dG} {κ:dn} {K:σ.den->Heap->Prop} {e:Exit} {a':Act} {w':World},Out n (GA σ κ ρ K Q) ρ a w e a' w'->(∀s h,K s h->Q .normal (σ.vals s (κ.over ρ)) h)->Out n Q ρ a w e a' w':=by
  intro σ κ K e a' w' j N;obtain⟨ρ',f,x2,x3,d⟩:=j;cases e with
  |normal=>
   simp only[GA]at d;cases hw:within σ κ ρ' (ρ'.length-ρ.length)with
   |false=>rw[hw]at d;exact d.elim
   |true=>
    rw[hw]at d;simp only[cond_true]at d;split at d
    .rename_i s hs;obtain⟨F,J⟩:=g.pH (κ:=κ) f (x2.within hw) hs;exact⟨_,F,J,x3,N _ _ d⟩
    .exact d.elim
  |exit id=>exact⟨ρ',f,x2,x3,d⟩
  |goto l=>exact⟨ρ',f,x2,x3,d⟩
  |ret=>exact⟨ρ',f,x2,x3,d⟩
  |panic ch=>exact⟨ρ',f,x2,x3,d⟩
  |outgrown=>exact⟨ρ',f,x2,x3,d⟩
 unfold Lx at h;split at h
 .rename_i σ κ x;obtain⟨K,U,Z⟩:=h;exact wp_mono (o c x _ ρ a w g Z) λe a' w' j=>u j U
 .split at h
  .exact wp_skip ⟨ρ,g,Ext.refl _ _,dm.refl _,h⟩
  .exact wp_label ⟨ρ,g,Ext.refl _ _,dm.refl _,h⟩
  .exact wp_mono (Lv X g h) λe a' w' j=>j.2
  .rename_i x y;refine wp_seq (wp_mono (o x _ _ ρ a w g h) λe a' w' j=>j.then (λρ' f x2 x3 d=>?_) λj _=>j);exact wp_mono (o y _ _ ρ' a' w' f d) λe ab S j=>j.base x2 x3
  .rename_i x y z;split at h
   .rename_i t T;refine wp_cond_split (g.eval T) (λe=>?_) (λe=>?_)
    .subst e;exact o y _ _ ρ a w g h
    .subst e;exact o z _ _ ρ a w g h
   .exact h.elim
  .rename_i id x;refine wp_block (wp_mono (o x _ _ ρ a w g h) λe a' w' j=>?_);obtain⟨ρ',f,x2,x3,d⟩:=j;cases e with
   |exit i=>
    simp only[Exit.inBlock];simp only[Uk]at d;cases hb:wo i id with
    |true=>
     rw[hb]at d;rw[if_pos (zu hb)];exact⟨ρ',f,x2,x3,d⟩
    |false=>
     rw[hb]at d;rw[if_neg λe=>by subst e;simp at hb];exact⟨ρ',f,x2,x3,d⟩
   |normal=>exact⟨ρ',f,x2,x3,d⟩
   |goto l=>exact⟨ρ',f,x2,x3,d⟩
   |ret=>exact⟨ρ',f,x2,x3,d⟩
   |panic ch=>exact⟨ρ',f,x2,x3,d⟩
   |outgrown=>exact⟨ρ',f,x2,x3,d⟩
  .exact wp_exit ⟨ρ,g,Ext.refl _ _,dm.refl _,h⟩
  .exact wp_goto ⟨ρ,g,Ext.refl _ _,dm.refl _,h⟩
  .exact wp_ret ⟨ρ,g,Ext.refl _ _,dm.refl _,h⟩
  .rename_i x;split at h
   .rename_i σ κ y _;split at h
    .rename_i s0 H;obtain⟨τ,V,I,μ,t0,W,hI,q⟩:=h;subst W;have m:=Ju (κ:=κ) g H;refine Uj (σ:=τ) (λt D B=>Fits n D (σ.vals (V t) (κ.over ρ))/\Ext ρ (σ.vals (V t) (κ.over ρ)) a D/\dm w B/\I t B.heap) (λt _=>μ t) t0 ⟨m.1,m.2,dm.refl _,hI⟩ ?_;rintro t D B ⟨G,v,z3,z4⟩;refine wp_mono (o x y _ _ D B G (q t _ z4)) λe a2 w2 j=>?_;obtain⟨ρ',f,x2,x3,d⟩:=j;cases e with
     |normal=>
      simp only[GA]at d;cases hw:within σ κ ρ' (ρ'.length-(σ.vals (V t) (κ.over ρ)).length)with
      |false=>rw[hw]at d;exact d.elim
      |true=>
       rw[hw]at d;simp only[cond_true]at d;split at d
       .rename_i s' E;have A:∀t,σ.has t=false->(κ.over []).fg t=false->a2.tmps[t]?=a.tmps[t]?:=λt M L=>by
         rw[x2.within hw t M L,v.pH t M L]
        obtain⟨F,J⟩:=g.pH (κ:=κ) f A E;obtain⟨t',e1,R,O⟩:=d;subst e1;exact⟨t',⟨F,J,z3.trans x3,R⟩,O⟩
       .exact d.elim
     |exit id=>exact⟨ρ',f,v.trans x2,z3.trans x3,d⟩
     |goto l=>exact⟨ρ',f,v.trans x2,z3.trans x3,d⟩
     |ret=>exact⟨ρ',f,v.trans x2,z3.trans x3,d⟩
     |panic ch=>exact⟨ρ',f,v.trans x2,z3.trans x3,d⟩
     |outgrown=>exact⟨ρ',f,v.trans x2,z3.trans x3,d⟩
    .exact h.elim
   .exact h.elim
  .rename_i x;split at h
   .split at h
    .rename_i p r Y;exact Ow o Y g h
    .exact h.elim
   .refine Cg λb k cs=>wp_mono (o x _ _ ρ a w g h) λe a' w' j=>?_;obtain⟨ρ',f,x2,x3,d⟩:=j;exact Bh o (ρ:=ρ) (a0:=a) (w0:=w) (λe ρ3 a3 w3 G v z3 z4=>ol G v z3 z4) 4 e ρ' a' w' f x2 x3 d
   .exact h.elim
  .exact h.elim
theorem LA(a:C.Ok):∀f,Ei C n (vc C n f)
 |0=>λ_ _ _ _ _ _ _ h=>h.elim
 |f+1=>aaC a (LA a f)
end
def CH(C:Ctx)(ρ:Env):List ResultVar->(List Value->Prop)->Heap->Prop
 |[],K,_=>K []
 | .tmp t::r,K,h=>match ρ.get t with
  |some v=>CH C ρ r (λvs=>K (v::vs)) h
  |none=>False
 | .cell a t::r,K,h=>match tH C.T (.load t (.tmp a)) ρ.eval with
  |some q=>∃y:q.ty.den,q.holds h y/\CH C ρ r (λvs=>K (q.ty.enc y::vs)) h
  |none=>False
def CI:List Value->Value
 |[v]=>v
 |vs=>.tuple vs.toArray
def aem(C:Ctx)(rs:List ResultVar)(R:Value->Heap->Prop):QT
 | .normal,ρ,h=>CH C ρ rs (λvs=>R (CI vs) h) h
 | .ret,ρ,h=>CH C ρ rs (λvs=>R (CI vs) h) h
 |_,_,_=>False
def CJ:Nat->List Value->Env
 |_,[]=>[]
 |n,v::r=>.val n v::CJ (n+1) r
def Ul(C:Ctx)(b:Func)(a:Nat)(d:bU)(args:List Value)(R:Value->Heap->Prop)(h:Heap):Prop:=
 match b.body with
 |some c=>vc C b.ntmps a c d (aem C b.results.toList R) (CJ 0 args) h
 |none=>False
theorem GB:∀{args:List Value} {n t:Nat} {v:Value},(CJ n args).get t=some v->n<=t/\args[t-n]?=some v
 |[],_,_,_,h=>by cases h
 |u::r,n,t,v,h=>by
  simp only[CJ,Env.get]at h;cases hb:wo n t with
  |true=>
   have:=zu hb
   grind
  |false=>
   rw[hb]at h;obtain⟨b,a⟩:=GB (args:=r) h
   grind
theorem Xn{C:AA}(d:C.Ok){ev:Operand->Option Value}{e:Operand->Value}(f:∀x v,ev x=some v->e x=v){t:TypeId}{x:Operand}{q:uL}
  (h:tH C.T (.load t x) ev=some q) {y:q.ty.den} {w:World} (g:q.holds w.heap y):(xz t (e x)).run C.P w=.ok (q.ty.enc y) w:=by
 have c:(do pure (Next.value (<-xz t (e x)))).run C.P w=.ok (.value (q.ty.enc y)) w:=Be d f (o:=⟨none,.load t x,0, "",#[],none⟩) h g;rw[Sem.run_bind]at c;cases hr:(xz t (e x)).run C.P w with
 |halt a b=>rw[hr]at c;cases c
 |ok v w'=>
  rw[hr]at c;cases c;rfl
theorem CK{C:Ctx}(k:C.Ok){n:Nat}{a:Act}{ρ:Env}(d:Fits n a ρ):∀{rs:List ResultVar} {K:List Value->Prop} {w:World},CH C ρ rs K w.heap->
  ∃vs,(rs.mapM (λ| .tmp t=>pure (a.tmps.getD t undef)| .cell x t=>(do loadVar t (<-asAddr (a.tmps.getD x undef)))):Sem (List Value)).run C.P w=.ok vs w/\K vs
 |[],K,w,h=>⟨[],rfl,h⟩
 | .tmp t::r,K,w,h=>by
  simp only[CH]at h;split at h
  .rename_i v p;obtain⟨vs,i,l⟩:=CK k d h;refine⟨v::vs,?_,l⟩;have j:a.tmps.getD t undef=v:=by simp[d.get t v p]
   rw[List.mapM_cons,Sem.run_bind,Sem.run_pure,Result.andThen_ok,Sem.run_bind,i,j];rfl
  grind
 | .cell x t::r,K,w,h=>by
  simp only[CH]at h;split at h
  .rename_i q f;obtain⟨y,s,h⟩:=h;obtain⟨vs,i,l⟩:=CK k d h;refine⟨q.ty.enc y::vs,?_,l⟩;have m:=Xn k.toOk (e:=a.eval) (λx v h=>d.eval h) f s;have o:∃c,a.eval (.tmp x)=.pointer (some c):=by
    unfold tH at f;simp only at f;split at f
    .rename_i c b;exact⟨c,d.eval b⟩
    grind
   obtain⟨c,b⟩:=o;have j:a.tmps.getD x undef=.pointer (some c):=b;rw[b]at m;rw[List.mapM_cons,Sem.run_bind];simp only[j];have g:(do loadVar t (<-asAddr (.pointer (some c)))).run C.P w=.ok (q.ty.enc y) w:=m;rw[g,Result.andThen_ok,Sem.run_bind,i];rfl
  grind
theorem Qe{C:Ctx}(n:C.Ok){f:FuncId}{b:Func}(q:C.P.funcs[f]?=some b){a:Nat}{g:bU}{args:List Value}(z:args.length<=b.ntmps){R:Value->Heap->Prop}{h:Heap}
  (j:Ul C b a g args R h):aj C.P f args.toArray h R:=by
 rintro w rfl;unfold Ul at j;split at j
 .rename_i c y;refine calls_of_wp q y ?_;have d:Fits b.ntmps {tmps:=args.toArray++vC (b.ntmps-args.toArray.size) undef,defers:=[]} (CJ 0 args):=by refine⟨by simp;omega,rfl,λt v u=>?_⟩;obtain⟨_,i⟩:=GB u;rw[Nat.sub_zero]at i;have k:t<args.length:=(List.getElem?_eq_some_iff.1 i).1;simp only[Array.getElem?_append,List.size_toArray,k,if_true,List.getElem?_toArray];exact i
  refine wp_mono (LA n a c g _ _ _ w d j) λe a' w' x=>?_;obtain⟨ρ',o,x2,x3,m⟩:=x;have fin:CH C ρ' b.results.toList (λvs=>R (CI vs) w'.heap) w'.heap->a'.defers=[]/\∃v,(results b a'.tmps).run C.P w'=.ok v w'/\(∃l,Ending.returned v=.returned l/\dm w w'/\R l w'.heap):=λs=>by
   obtain⟨vs,p,i⟩:=CK n o s;refine⟨o.defers,CI vs,?_,CI vs,rfl,x3,i⟩;unfold results;rw[vx,map_eq_pure_bind,bind_assoc,Sem.run_bind];refine(congrArg (λr=>Result.andThen r _) p).trans ?_;simp only[Result.andThen_ok,pure_bind,Sem.run_pure];cases vs with
   |nil=>rfl
   |cons v r=>cases r<;>rfl
  cases e<;>first|exact fin m|exact m.elim
 .exact j.elim
theorem abH{C:Ctx}(c:C.Ok){f:FuncId}{a:Func}(i:C.P.funcs[f]?=some a)(b:bU){args:List Value}{R:Value->Heap->Prop}{h:Heap}{Q:Prop}(d:Q)
  (g:xy args.length a.ntmps=true:=by kernel_rfl) (e:Ul C a 300 b args R h=Q:=by kernel_rfl):aj C.P f args.toArray h R:=Qe c i (zF g) (cast e.symm d)
def bC(P:Program)(s:Sem Value)(r:Rt)(h:Heap)(K:r.den->Heap->Prop):Prop:=au P s h λv h'=>∃x:r.den,v=r.enc x/\K x h'
def rv(P:Program)(s:Sem Value)(h:Heap)(K:Addr->Heap->Prop):Prop:=au P s h λv h'=>∃a:Addr,v=.pointer (some a)/\K a h'
def jZ(P:Program)(f:FuncId)(args:Array Value)(r:Rt)(h:Heap)(K:r.den->Heap->Prop):Prop:=aj P f args h λv h'=>∃x:r.den,v=r.enc x/\K x h'
def tK(C:Ctx)(g:FuncId)(args:List Value)(r:Rt)(h:Heap)(K:r.den->Heap->Prop):Prop:=
 match C.fns[g]? with
 |some true=>jZ C.P g args.toArray r h K
 |_=>False
theorem fF{C:Ctx}{g:FuncId}{args:List Value}{r:Rt}{h:Heap}{K:r.den->Heap->Prop}(a:C.fns[g]?=some true)(b:jZ C.P g args.toArray r h K):tK C g args r h K:=by unfold tK;rw[a];exact b
namespace Rk
open Go
inductive Er where
 |val (t:Nat) (v:Value)
 |tf (t:Nat) (b:Nat)
abbrev Ev:=List Er
def abI:Nat->Value
 |0=>.bool false
 |_+1=>.bool true
def RE:Bool->Value->Ev->Nat->Value
 |true,x,_,_=>x
 |false,_,[],_=>.tuple #[]
 |false,_,.val s x::r,t=>RE (s==t) x r t
 |false,_,.tf s n::r,t=>RE (s==t) (abI n) r t
abbrev Fw(ρ:Ev)(t:Nat):Value:=RE false (.tuple #[]) ρ t
inductive Gd where
 |k (n:Nat)
 |v (v:Value)
def Ld:Bool->Gd->Ev->Nat->Gd
 |true,x,_,_=>x
 |false,_,[],_=>.k 0
 |false,_,.val s x::r,t=>Ld (s==t) (.v x) r t
 |false,_,.tf s n::r,t=>Ld (s==t) (.k n) r t
abbrev abJ(ρ:Ev)(t:Nat):Gd:=Ld false (.k 0) ρ t
def fh(ρ:Ev):Operand->Value
 | .tmp t=>Fw ρ t
 | .const v=>v
 | .global g=>.pointer (some ⟨g,0,none⟩)
 | .func f=>.func (.func f) #[] #[]
def GC(ρ:Ev):List Operand->List Value
 |[]=>[]
 |x::r=>fh ρ x::GC ρ r
def Le(ρ:Ev):List (Nat×Operand)->List (Nat×Value)
 |[]=>[]
 |(n,x)::r=>(n,fh ρ x)::Le ρ r
def GD(ρ:Ev):Option Operand->Option Value
 |none=>none
 |some x=>some (fh ρ x)
def RF:Bool->Bool
 |true=>false
 |false=>true
def abK:Bool->Bool->Bool
 |true,b=>b
 |false,_=>false
def Xo:Bool->Bool->Bool
 |true,_=>true
 |false,b=>b
def Fx:Bool->Bool->Bool
 |true,b=>RF b
 |false,_=>false
def nc{α:Type}(d:α):List α->Nat->α
 |[],_=>d
 |a::_,0=>a
 |_::r,n+1=>nc d r n
def LB{α:Type}:Nat->List α->List α
 |0,l=>l
 |_+1,[]=>[]
 |n+1,_::r=>LB n r
def LC{α:Type}:Nat->List α->List α
 |0,_=>[]
 |_+1,[]=>[]
 |n+1,a::r=>a::LC n r
def rx{α:Type}:List α->List α->List α
 |[],m=>m
 |a::r,m=>a::rx r m
def Xp{α:Type}:List α->Nat
 |[]=>0
 |_::r=>Xp r+1
def RG:TI:=⟨.other,.sc .any,0,0,[]⟩
def abL(l:List TI)(t:Nat):TI:=nc RG l t
def RH:nv->Nat->Nat×TypeId
 | .struct fs,f=>nc (0,0) fs f
 | .int _,_| .bool,_| .str,_| .flt,_| .cpx,_| .mp,_| .fn,_| .other,_| .slice _,_| .array ..,_| .ptr _,_=>(0,0)
def GF:nv->TypeId
 | .slice e=>e
 | .array _ e=>e
 | .int _| .bool| .str| .flt| .cpx| .mp| .fn| .other| .struct _| .ptr _=>0
inductive Rz:Type 1 where
 |val (v:Value)
 |cond (c:Prop) (v:Value)
 |ex (X:Type) (c:X->Prop) (v:X->Value)
 |br (b:Bool) (x y:Value)
 |ld (a:Addr) (t:Ty) (n:Nat)
 |ru (α:Type) (s:Sem α)
 |ra (s:Sem Value)
 |rr (s:Sem Value) (t:Rt)
 |ca (f:FuncId) (l:List Value) (t:Rt)
 |dy (f:FuncId) (l:List Value) (t:Rt)
 |bad
def abM:Value->Value->Value->Rz
 | .bool b,x,y=>.br b x y
 |_,_,_=>.bad
def abN:Value->Rz
 | .pointer p=>.ex Addr (λa=>p=some a) (λa=>.pointer (some a))
 |_=>.bad
def abO:Value->Nat->Rz
 | .pointer (some a),n=>.val (.pointer (some (a.add n)))
 |_,_=>.bad
def abP:Value->Value->nv->Nat->Rz
 | .slice p len _,.int _ n,.slice _,z=>.ex Addr (λa=>p=some a/\0<=n/\n<(len:Int)) (λa=>.pointer (some (a.add (n.toNat*z))))
 | .pointer (some a),.int _ n,.array m _,z=>.cond (0<=n/\n<(m:Int)) (.pointer (some (a.add (n.toNat*z))))
 |_,_,_,_=>.bad
def Zu:Ty->Nat->List Value->Int->Array Value->Rz
 | .sc s,m,_,n,cs=>.ex s.den (λy=>0<=n/\n<(m:Int)/\cs[n.toNat]?=some (s.enc y)) (λy=>s.enc y)
 |_,_,_,_,_=>.bad
def abQ:Value->Value->nv->Ty->Rz
 | .string s,.int _ n,.str,_=>.ex UInt8 (λb=>0<=n/\s.data[n.toNat]?=some b) (λb=>.int .u8 b.toNat)
 | .agg cs,.int _ n,.array m _,t=>Zu t m [] n cs
 |_,_,_,_=>.bad
def Zv:nv->List Value->Nat->Nat->Value
 | .struct _,cs,o,z=>.agg (LC z (LB o cs)).toArray
 | .array ..,cs,o,z=>.agg (LC z (LB o cs)).toArray
 | .int _,cs,o,_| .bool,cs,o,_| .str,cs,o,_| .flt,cs,o,_| .cpx,cs,o,_| .mp,cs,o,_| .fn,cs,o,_| .other,cs,o,_| .slice _,cs,o,_| .ptr _,cs,o,_=>nc (.tuple #[]) cs o
def abR:Value->Nat->TI->Rz
 | .agg cs,o,i=>.val (Zv i.co cs.toList o i.size)
 |_,_,_=>.bad
def abS:Value->Nat->Rz
 | .tuple vs,n=>.val (nc (.tuple #[]) vs.toList n)
 |_,_=>.bad
def abT:Value->nv->Nat->Option Value->Option Value->Rz
 | .slice p n c,.slice _,_,none,none=>.val (.slice p n c)
 | .slice p _ c,.slice _,_,none,some (.int _ r)=>.cond (0<=r/\r<=(c:Int)) (.slice p r.toNat c)
 | .slice p n c,.slice _,z,some (.int _ l),none=>.cond (0<=l/\l<=(n:Int)) (.slice (if c=l.toNat then p else p.map (·.add (l.toNat*z))) (n-l.toNat) (c-l.toNat))
 | .slice p _ c,.slice _,z,some (.int _ l),some (.int _ r)=>.cond (0<=l/\l<=r/\r<=(c:Int)) (.slice (if c=l.toNat then p else p.map (·.add (l.toNat*z))) (r.toNat-l.toNat) (c-l.toNat))
 | .string s,.str,_,none,none=>.val (.string (s.extract 0 s.size))
 | .string s,.str,_,none,some (.int _ r)=>.cond (0<=r/\r<=(s.size:Int)) (.string (s.extract 0 r.toNat))
 | .string s,.str,_,some (.int _ l),none=>.cond (0<=l/\l<=(s.size:Int)) (.string (s.extract l.toNat s.size))
 | .string s,.str,_,some (.int _ l),some (.int _ r)=>.cond (0<=l/\l<=r/\r<=(s.size:Int)) (.string (s.extract l.toNat r.toNat))
 | .pointer (some a),.array n _,_,none,none=>.val (.slice (some a) n n)
 | .pointer (some a),.array n _,_,none,some (.int _ r)=>.cond (0<=r/\r<=(n:Int)) (.slice (some a) r.toNat n)
 | .pointer (some a),.array n _,z,some (.int _ l),none=>.cond (0<=l/\l<=(n:Int)) (.slice (some (if n=l.toNat then a else a.add (l.toNat*z))) (n-l.toNat) (n-l.toNat))
 | .pointer (some a),.array n _,z,some (.int _ l),some (.int _ r)=>.cond (0<=l/\l<=r/\r<=(n:Int)) (.slice (some (if n=l.toNat then a else a.add (l.toNat*z))) (r.toNat-l.toNat) (n-l.toNat))
 |_,_,_,_,_=>.bad
def abU(k:IntKind)(a b:Int):BinOp->Rz
 | .add=>.val (.int k (k.wrap (a+b)))
 | .sub=>.val (.int k (k.wrap (a-b)))
 | .mul=>.val (.int k (k.wrap (a*b)))
 | .quo=>.cond (b≠0) (.int k (k.wrap (a.tdiv b)))
 | .rem=>.cond (b≠0) (.int k (a.tmod b))
 | .and=>.val (.int k (k.wrap (qF k.bits a&&&qF k.bits b).toNat))
 | .or=>.val (.int k (k.wrap (qF k.bits a|||qF k.bits b).toNat))
 | .xor=>.val (.int k (k.wrap (qF k.bits a^^^qF k.bits b).toNat))
 | .andNot=>.val (.int k (k.wrap (qF k.bits a&&&~~~qF k.bits b).toNat))
 | .shl=>.cond (0<=b) (.int k (k.wrap (a*2^min b.toNat k.bits)))
 | .shr=>.cond (0<=b) (.int k (a.fdiv (2^min b.toNat k.bits)))
 | .eql=>.val (.bool (a==b))
 | .neq=>.val (.bool (a !=b))
 | .lss=>.val (.bool (decide (a<b)))
 | .leq=>.val (.bool (decide (a<=b)))
 | .gtr=>.val (.bool (decide (a>b)))
 | .geq=>.val (.bool (decide (a>=b)))
def abV(a b:ByteArray):BinOp->Rz
 | .eql=>.val (.bool (a.toList==b.toList))
 | .neq=>.val (.bool (!(a.toList==b.toList)))
 | .lss=>.val (.bool (Op.bytesLess a.toList b.toList))
 | .leq=>.val (.bool (Op.bytesLess a.toList b.toList||a.toList==b.toList))
 | .gtr=>.val (.bool (!(Op.bytesLess a.toList b.toList||a.toList==b.toList)))
 | .geq=>.val (.bool (!(Op.bytesLess a.toList b.toList)))
 | .add=>.cond (((a.size+b.size:Nat):Int)<=xP.max) (.string (a++b))
 |_=>.bad
def abW(a b:Bool):BinOp->Rz
 | .eql=>.val (.bool (a==b))
 | .neq=>.val (.bool (!(a==b)))
 |_=>.bad
def abX(k:FloatKind)(a b:Nat):BinOp->Rz
 | .add=>.ex Nat (λr=>k.format.add a b=some r) (λr=>.float k r)
 | .sub=>.ex Nat (λr=>k.format.sub a b=some r) (λr=>.float k r)
 | .mul=>.ex Nat (λr=>k.format.mul a b=some r) (λr=>.float k r)
 | .quo=>.ex Nat (λr=>k.format.div a b=some r) (λr=>.float k r)
 | .eql=>.val (.bool (k.format.order a b==some .eq))
 | .neq=>.val (.bool (k.format.order a b !=some .eq))
 | .lss=>.val (.bool (k.format.order a b==some .lt))
 | .gtr=>.val (.bool (k.format.order a b==some .gt))
 |_=>.bad
def LD{α:Type}(p:Option α):BinOp->Rz
 | .eql=>.val (.bool p.isNone)
 | .neq=>.val (.bool (!p.isNone))
 |_=>.bad
def abY(P:Program)(k:FloatKind)(op:BinOp)(t:TypeId)(x y:Operand)(a b:Value):BinOp->Rz
 | .eql=>.ex Bool (λr=>iN P op t x y a b (.bool r)) (λr=>.bool r)
 | .neq=>.ex Bool (λr=>iN P op t x y a b (.bool r)) (λr=>.bool r)
 |_=>.ex (Nat×Nat) (λr=>iN P op t x y a b (.complex k r.1 r.2)) (λr=>.complex k r.1 r.2)
def RI(P:Program)(op:BinOp)(t:TypeId)(x y:Operand)(a b:Value):Rz:=.ex Bool (λr=>iN P op t x y a b (.bool r)) (λr=>.bool r)
def abZ(P:Program)(op:BinOp)(t:TypeId)(x:Operand)(p q:Option Addr):Operand->Rz
 | .tmp n=>RI P op t x (.tmp n) (.pointer p) (.pointer q)
 | .const _=>LD p op
 | .global _=>LD p op
 | .func _=>LD p op
def Zw(P:Program)(op:BinOp)(t:TypeId)(x y:Operand):Value->Value->Rz
 | .int k a,.int _ b=>abU k a b op
 | .float k a,.float _ b=>abX k a b op
 | .string a,.string b=>abV a b op
 | .bool a,.bool b=>abW a b op
 | .pointer a,.pointer b=>abZ P op t x a b y
 | .slice a _ _,.slice .. =>LD a op
 | .agg a,.agg b=>RI P op t x y (.agg a) (.agg b)
 | .complex k a b,.complex k' c e=>abY P k op t x y (.complex k a b) (.complex k' c e) op
 |a,.nilIface=>RI P op t x y a .nilIface
 |_,_=>.bad
def aca:UnOp->Value->Rz
 | .not,.bool b=>.val (.bool !b)
 | .neg,.int k n=>.val (.int k (k.wrap (0-n)))
 | .xor,.int k n=>.val (.int k (k.wrap (qF k.bits (if k.signed then-1 else k.max)^^^qF k.bits n).toNat))
 |_,_=>.bad
def acb(s d:TypeId)(v:Value)(a:Ty):nv->nv->Value->Rz
 | .int _,.int k,.int _ n=>.val (.int k (k.wrap n))
 |_,_,_=>.rr (convert s d v) (.one a)
def Qf:Value->List Value
 | .agg cs=>cs.toList
 | .bool b=>[.bool b]
 | .int k n=>[.int k n]
 | .float k n=>[.float k n]
 | .complex k a b=>[.complex k a b]
 | .string s=>[.string s]
 | .pointer a=>[.pointer a]
 | .slice a l c=>[.slice a l c]
 | .map r=>[.map r]
 | .chan r=>[.chan r]
 | .func f a c=>[.func f a c]
 | .nilFunc=>[.nilFunc]
 | .iface t v=>[.iface t v]
 | .nilIface=>[.nilIface]
 | .tuple vs=>[.tuple vs]
def Zx(l:List Value)(o:Nat)(c:List Value):List Value:=rx (LC o l) (rx c (LB (o+Xp c) l))
def Um:nv->Nat->Nat->Nat
 | .struct fs,_,n=>(nc (0,0) fs n).1
 | .array _ _,z,n=>n*z
 | .int _,_,_| .bool,_,_| .str,_,_| .flt,_,_| .cpx,_,_| .mp,_,_| .fn,_,_| .other,_,_| .slice _,_,_| .ptr _,_,_=>0
def RJ(d:nv)(z:Nat):List Value->List (Nat×Value)->List Value
 |l,[]=>l
 |l,(n,v)::r=>RJ d z (Zx l (Um d z n) (Qf v)) r
def acd:Nat->Bool
 |0=>false
 |_+1=>true
def Zy(P:Program)(t:TypeId)(i:TI)(z:Nat)(vs:List (Nat×Value)):Bool->Rz
 |true=>.ex Value (λv=>aL P (xq t vs.toArray) v) (λv=>v)
 |false=>.val (.agg (RJ i.co z i.zero vs).toArray)
def RK:Value->TI->Rz
 | .pointer (some a),i=>.ld a i.ty i.size
 |_,_=>.bad
def Un(a:Array TypeId)(ty:TypeId):Value->Rz
 | .slice _ n _=>.val (.int .i64 n)
 | .string s=>.val (.int .i64 s.size)
 | .map r=>.rr (xF a ty #[.map r]) (.one (.sc (.int .i64)))
 |_=>.bad
def Uo:Value->Rz
 | .slice _ _ n=>.val (.int .i64 n)
 |_=>.bad
def Xq:Bool->List Value->Rz
 |true,[.int k a,.int _ b]=>.val (.int k (if b>a then b else a))
 |false,[.int k a,.int _ b]=>.val (.int k (if b<a then b else a))
 |_,_=>.bad
def RL:Bool->List Value->Rz
 |true,[.complex k a _]=>.val (.float k a)
 |false,[.complex k _ b]=>.val (.float k b)
 |_,_=>.bad
def Xr(T:Nat->TI)(t:TypeId):Bool->List Ty->List (TypeId×List Ty)->Rt
 |true,l,_=>.many l
 |false,_,[]=>.one (T t).ty
 |false,_,(k,l)::r=>Xr T t (k==t) l r
abbrev RM(T:Nat->TI)(t:TypeId)(l:List (TypeId×List Ty)):Rt:=Xr T t false [] l
def Zz:Value->List Value->Rt->Rz
 | .func (.func g) a c,l,t=>.dy g (a.toList++l++c.toList) t
 |_,_,_=>.bad
def ZA(a:Array TypeId)(ty:TypeId)(vs:List Value):Builtin->Rz
 | .append=>.rr (q6 a ty vs.toArray) (.one (.sc .slc))
 | .copy=>.rr (w6 a ty vs.toArray) (.one (.sc (.int .i64)))
 | .clear=>.ru Value (vO a ty vs.toArray)
 | .delete=>.ru Value (Builtin.delete_ a ty vs.toArray)
 | .unsafeString=>.rr (Builtin.unsafeString_ a ty vs.toArray) (.one (.sc .str))
 | .len=>Un a ty (nc (.tuple #[]) vs 0)
 | .cap=>Uo (nc (.tuple #[]) vs 0)
 | .min=>Xq false vs
 | .max=>Xq true vs
 | .real=>RL true vs
 | .imag=>RL false vs
 |_=>.bad
def ZB(T:Nat->TI)(tup:List (TypeId×List Ty))(ρ:Ev)(ty:TypeId)(vs:List Value)(a:Array TypeId):Callee->Rz
 | .value (.func f)=>.ca f vs (RM T ty tup)
 | .value (.tmp t)=>Zz (Fw ρ t) vs (RM T ty tup)
 | .builtin b=>ZA a ty vs b
 |_=>.bad
def ZC(P:Program)(T:Nat->TI)(tup:List (TypeId×List Ty))(ty:TypeId)(ρ:Ev):Op->Rz
 | .move x=>.val (fh ρ x)
 | .assign x=>.val (fh ρ x)
 | .pick c a b=>abM (fh ρ c) (fh ρ a) (fh ρ b)
 | .nilCheck x=>abN (fh ρ x)
 | .fieldAddr s x f=>abO (fh ρ x) (RH (T s).co f).1
 | .indexAddr t x i=>abP (fh ρ x) (fh ρ i) (T t).co (T (GF (T t).co)).size
 | .index t x i=>abQ (fh ρ x) (fh ρ i) (T t).co (T (GF (T t).co)).ty
 | .field s x f=>abR (fh ρ x) (RH (T s).co f).1 (T (RH (T s).co f).2)
 | .slice t x Fx hi none=>abT (fh ρ x) (T t).co (T (GF (T t).co)).size (GD ρ Fx) (GD ρ hi)
 | .slice t x Fx hi (some m)=>.rr (w5 t (fh ρ x) (GD ρ Fx) (GD ρ hi) (some (fh ρ m))) (.one (.sc .slc))
 | .extract x n=>abS (fh ρ x) n
 | .binOp op t x y _=>Zw P op t x y (fh ρ x) (fh ρ y)
 | .unOp op _ x=>aca op (fh ρ x)
 | .convert s d x=>acb s d (fh ρ x) (T ty).ty (T s).co (T d).co (fh ρ x)
 | .build t ps=>Zy P t (T t) (T (GF (T t).co)).size (Le ρ ps.toList) (acd ((T t).size-24))
 | .makeFunc f a c=>.val (.func f (GC ρ a.toList).toArray (GC ρ c.toList).toArray)
 | .load t x=>RK (fh ρ x) (T t)
 | .store t a x=>.ru Unit (qG t (fh ρ a) (fh ρ x))
 | .alloc t=>.ra (yd t true (.tuple #[]))
 | .box t x=>.ra (vM t (fh ρ x))
 | .makeSlice t l c=>.rr (zB t (fh ρ l) (fh ρ c)) (.one (.sc .slc))
 | .buildSlice t n ps=>.rr (zE t n (Le ρ ps.toList).toArray) (.one (.sc .slc))
 | .makeMap t none=>.rr (Instr.makeMap t none) (.one (.sc .mp))
 | .lookup t x i ok=>.rr (Instr.lookup t (fh ρ x) (fh ρ i) ok) (RM T ty tup)
 | .mapUpdate t m k x=>.ru Unit (xt t (fh ρ m) (fh ρ k) (fh ρ x))
 | .insert t m k x=>.ru Unit (xt t (fh ρ m) (fh ρ k) (fh ρ x))
 | .call ⟨c,as,tys⟩=>ZB T tup ρ ty (GC ρ as.toList) tys c
 |_=>.bad
inductive Kt:Type 1 where
 |top (rs:List ResultVar)
 |seq (c:Code) (a:bU) (k:Kt)
 |blk (id:Nat) (k:Kt)
 |jn (σ:dG) (K:σ.den->Heap->Prop) (k:Kt)
 |back (l:Nat) (σ:dG) (K:σ.den->Heap->Prop) (k:Kt)
 |lst (cs:List Code) (as:List bU) (k:Kt)
 |jmp (c:Code) (fwd:List (Nat×List bU)) (k:Kt)
 |hd (l:Nat) (σ:dG) (r:List Code) (as:List bU) (fwd:List (Nat×List bU)) (c:Code) (k:Kt)
def LF:bU->bU
 | .two a _=>a
 | .n| .inn _| .loop .. | .join .. | .scope .. | .fwd .. =>.n
def LG:bU->bU
 | .two _ b=>b
 | .n| .inn _| .loop .. | .join .. | .scope .. | .fwd .. =>.n
def Up:bU->bU
 | .inn a=>a
 | .n| .two .. | .loop .. | .join .. | .scope .. | .fwd .. =>.n
def ZD(a b:Code):Option (List Code×List Code)->Option (List Code×List Code)->Option (List Code×List Code)
 |some (p,r),_=>some (p,rx r [b])
 |none,some (p,r)=>some (a::p,r)
 |none,none=>none
def ZE:Bool->Option (List Code×List Code)
 |true=>some ([],[])
 |false=>none
def GG:Code->Nat->Option (List Code×List Code)
 | .seq a b,l=>ZD a b (GG a l) (GG b l)
 | .label k,l=>ZE (k==l)
 | .skip,_| .region ..,_| .cond ..,_| .block ..,_| .loop _,_| .rangeFunc ..,_| .exit _,_| .scope _,_| .goto _,_| .ret,_| .refuse _,_=>none
def RN:Bool->List bU->List (Nat×List bU)->Nat->Option (List bU)
 |true,x,_,_=>some x
 |false,_,[],_=>none
 |false,_,(k,x)::r,l=>RN (k==l) x r l
abbrev ZF(w:List (Nat×List bU))(l:Nat):Option (List bU):=RN false [] w l
def GH:(s:Sc)->Value->Option s.den
 | .int _,.int _ n=>some n
 | .bool,.bool x=>some x
 | .str,.string x=>some x
 | .ptr,.pointer a=>some a
 | .slc,.slice a l c=>some ⟨a,l,c⟩
 | .flt _,.float _ n=>some n
 | .cpx _,.complex _ a b=>some (a,b)
 | .mp,.map r=>some r
 | .fn,.func (.func g) f c=>some (g,f,c)
 | .any,v=>some v
 | .adr,.pointer (some a)=>some a
 |_,_=>none
def Xs{α β:Type}:Option α->Option β->Option (α×β)
 |some a,some b=>some (a,b)
 |some _,none=>none
 |none,_=>none
def Iv:(l:List Sc)->List Value->Option (xY l)
 |[],_=>some ()
 |[s],[v]=>GH s v
 |s::t::r,v::vs=>Xs (GH s v) (Iv (t::r) vs)
 |_::_,_=>none
def LH:(t:Ty)->Value->Option t.den
 | .sc s,v=>GH s v
 | .agg l,.agg cs=>Iv l cs.toList
 |_,_=>none
def Iw:(σ:dG)->Ev->Option σ.den
 |[],_=>some ()
 |[(t,y)],ρ=>LH y (Fw ρ t)
 |(t,y)::x::r,ρ=>Xs (LH y (Fw ρ t)) (Iw (x::r) ρ)
def GI:(σ:dG)->σ.den->Ev->Ev
 |[],_,ρ=>ρ
 |[(t,y)],x,ρ=>.val t (y.enc x)::ρ
 |(t,y)::z::r,x,ρ=>.val t (y.enc x.1)::GI (z::r) x.2 ρ
def Xt{α:Type}(K:α->Heap->Prop)(h:Heap):Option α->Prop
 |some s=>K s h
 |none=>False
def Ix{σ:Type}(B:σ->(σ->Heap->Prop)->Heap->Prop)(h:Heap):Option σ->Prop
 |some s=>gr B s h
 |none=>False
inductive Hd where
 |l (c:bK)
 |a (a:Addr) (vs:List Value)
abbrev Hi:=List (Nat×Hd)
def GJ:List Oper->Nat->List (Nat×Oper)
 |[],_=>[]
 |o::r,n=>(n,o)::GJ r (n+1)
def GK(l:List (Nat×Oper)):List Nat->List (Nat×Oper)
 |[]=>[]
 |n::r=>nc (0,⟨none,.ready 0,0, "",#[],none⟩) l n::GK l r
inductive Sd where
 |l (ns:List Nat)
 |y (ns:List Nat) (a b:Sd)
def Xu(id:Nat):Bool->Sd->List (Nat×Sd)->Option Sd
 |true,x,_=>some x
 |false,_,[]=>none
 |false,_,(k,x)::r=>Xu id (k==id) x r
def Xv:Nat×Oper->Nat
 |(_,⟨some d,_,_,_,_,_⟩)=>d
 |(_,⟨none,_,_,_,_,_⟩)=>0
def ZG:Ground->Bool
 | .data| .chain| .guard| .phase=>true
 | .textOnly _| .gcOnly _=>false
def Xw:List Edge->Nat->Bool
 |[],_=>false
 |⟨n,g⟩::r,i=>Xo (abK (ZG g) (n==i)) (Xw r i)
def RO:Bool->Nat×Hd->Hi->Hi
 |true,_,r=>r
 |false,p,r=>p::r
def LI(e:List Edge):Hi->Hi
 |[]=>[]
 |p::r=>RO (Xw e p.1) p (LI e r)
def Lf:Hi->bK
 |[]=>[]
 |(_,.l c)::r=>rx c (Lf r)
 |(_,.a x vs)::r=>nX x 0 vs (Lf r)
def Fy(e:List Edge)(L:Hi)(h:Heap):Bool->Prop->Prop
 |true,X=>bK.ok (Lf (LI e L)) h/\X
 |false,X=>X
def ZH(e:List Edge)(L:Hi):Bool->Hi
 |true=>LI e L
 |false=>L
def Iy(e:List Edge)(L:Hi):Bool->Hi
 |true=>LI e L
 |false=>[]
def nZ:Option Tmp->Value->Ev->Ev
 |some d,v,ρ=>.val d v::ρ
 |none,_,ρ=>ρ
def RP(dr:Bool)(n:Nat)(c:Hd)(L:Hi):Hi:=RO (RF dr) (n,c) L
def Xx(a:Addr):Nat->List Value->bK
 |_,[]=>[]
 |n,v::r=>(a.add n,v)::Xx a (n+1) r
def RQ:Ty->Bool
 | .sc .slc=>true
 |_=>false
def RR(T:Nat->TI):Op->Bool
 | .convert s d _=>RF (Xo (RQ (T s).ty) (RQ (T d).ty))
 | .move _| .assign _| .pick .. | .nilCheck _| .fieldAddr .. | .indexAddr .. | .index .. | .field .. | .extract .. | .binOp .. | .unOp .. | .build .. | .makeFunc .. | .load .. =>true
 | .slice _ _ _ _ none=>true
 | .call ⟨.builtin .len,_,_⟩| .call ⟨.builtin .cap,_,_⟩| .call ⟨.builtin .min,_,_⟩| .call ⟨.builtin .max,_,_⟩| .call ⟨.builtin .real,_,_⟩| .call ⟨.builtin .imag,_,_⟩=>true
 |_=>false
inductive Al where
 |n
 |y (a b:Sd)
structure Rg where
 all:List (Nat×Oper)
 dr:Bool
 al:Al
inductive St:Type 1 where
 |ex (c:Code) (a:bU) (k:Kt) (ρ:Ev)
 |e2 (c:Code) (a:bU) (k:Kt) (ρ:Ev)
 |cd (v:Value) (c d:Code) (a:bU) (k:Kt) (ρ:Ev)
 |ap (e:Exit) (k:Kt) (ρ:Ev)
 |bs (b:Bool) (x y:St)
 |fin (σ:dG) (K:σ.den->Heap->Prop) (ρ:Ev)
 |jp (o:Option (List bU)) (q:Option (List Code×List Code)) (l:Nat) (c:Code) (fwd:List (Nat×List bU)) (k:Kt) (ρ:Ev)
 |sc (q:Option (List Code×List Code)) (l:Nat) (σ:dG) (pre rest:List bU) (fwd:List (Nat×List bU)) (c:Code) (k:Kt) (ρ:Ev)
 |rg (os:List (Nat×Oper)) (r:Rg) (L:Hi) (k:Kt) (ρ:Ev)
 |so (o:Option Sd) (all:List (Nat×Oper)) (k:Kt) (ρ:Ev)
 |st (s:Sd) (all:List (Nat×Oper)) (dr:Bool) (L:Hi) (k:Kt) (ρ:Ev)
 |gd (g:Gd) (w:Bool) (d n:Nat) (o:Oper) (os:List (Nat×Oper)) (r:Rg) (L:Hi) (k:Kt) (ρ:Ev)
 |on (n:Nat) (o:Oper) (os:List (Nat×Oper)) (r:Rg) (L:Hi) (k:Kt) (ρ:Ev)
 |sk (n:Nat) (o:Oper) (os:List (Nat×Oper)) (r:Rg) (L:Hi) (k:Kt) (ρ:Ev)
 |rs (z:Rz) (n:Nat) (d:Option Tmp) (e:List Edge) (os:List (Nat×Oper)) (r:Rg) (L:Hi) (k:Kt) (ρ:Ev)
 |re (rs:List ResultVar) (acc:List Value) (ρ:Ev)
 |rl (z:Rz) (rs:List ResultVar) (acc:List Value) (ρ:Ev)
def bj(C:Ctx)(T:Nat->TI)(S:List (Nat×Sd))(R:Value->Heap->Prop):Nat->St->Heap->Prop
 |0,_,_=>False
 |f+1,.ex c (.join σ _ a) k ρ,h=>ku (λs h=>bj C T S R f (.ap .normal k (GI σ s ρ)) h) (λK=>bj C T S R f (.e2 c a (.jn σ K k) ρ) h)
 |f+1,.ex c .n k ρ,h=>bj C T S R f (.e2 c .n k ρ) h
 |f+1,.ex c (.two a b) k ρ,h=>bj C T S R f (.e2 c (.two a b) k ρ) h
 |f+1,.ex c (.inn a) k ρ,h=>bj C T S R f (.e2 c (.inn a) k ρ) h
 |f+1,.ex c (.loop σ κ a) k ρ,h=>bj C T S R f (.e2 c (.loop σ κ a) k ρ) h
 |f+1,.ex c (.scope l σ κ p r w) k ρ,h=>bj C T S R f (.e2 c (.scope l σ κ p r w) k ρ) h
 |f+1,.ex c (.fwd a w) k ρ,h=>bj C T S R f (.e2 c (.fwd a w) k ρ) h
 |f+1,.e2 .skip _ k ρ,h=>bj C T S R f (.ap .normal k ρ) h
 |f+1,.e2 (.label _) _ k ρ,h=>bj C T S R f (.ap .normal k ρ) h
 |f+1,.e2 (.region id ops true) _ k ρ,h=>bj C T S R f (.so (Xu id false (.l []) S) (GJ ops.toList 0) k ρ) h
 |f+1,.e2 (.region _ ops false) _ k ρ,h=>bj C T S R f (.rg (GJ ops.toList 0) ⟨GJ ops.toList 0,false,.n⟩ [] k ρ) h
 |f+1,.e2 (.seq x y) a k ρ,h=>bj C T S R f (.ex x (LF a) (.seq y (LG a) k) ρ) h
 |f+1,.e2 (.cond x c d) a k ρ,h=>bj C T S R f (.cd (fh ρ x) c d a k ρ) h
 |f+1,.e2 (.block id c) a k ρ,h=>bj C T S R f (.ex c (Up a) (.blk id k) ρ) h
 |f+1,.e2 (.exit id) _ k ρ,h=>bj C T S R f (.ap (.exit id) k ρ) h
 |f+1,.e2 (.goto l) _ k ρ,h=>bj C T S R f (.ap (.goto l) k ρ) h
 |f+1,.e2 .ret _ k ρ,h=>bj C T S R f (.ap .ret k ρ) h
 |f+1,.e2 (.loop c) (.loop σ _ a) k ρ,h=>Ix (λs K h=>bj C T S R f (.ex c a (.jn σ K k) (GI σ s ρ)) h) h (Iw σ ρ)
 |f+1,.e2 (.scope c) (.scope l σ _ pre rest fwd) k ρ,h=>bj C T S R f (.sc (GG c l) l σ pre rest fwd c k ρ) h
 |f+1,.e2 (.scope c) (.fwd a fwd) k ρ,h=>bj C T S R f (.ex c a (.jmp c fwd k) ρ) h
 |f+1,.cd (.bool t) c d a k ρ,h=>Br t (bj C T S R f (.ex c (LF a) k ρ) h) (bj C T S R f (.ex d (LG a) k ρ) h)
 |f+1,.sc (some (p,r)) l σ pre rest fwd c k ρ,h=>bj C T S R f (.ap .normal (.lst p pre (.hd l σ r rest fwd c k)) ρ) h
 |f+1,.bs true x _,h=>bj C T S R f x h
 |f+1,.bs false _ y,h=>bj C T S R f y h
 |f+1,.fin σ K ρ,h=>Xt K h (Iw σ ρ)
 |f+1,.jp (some xs) (some (_,r)) _ c fwd k ρ,h=>bj C T S R f (.ap .normal (.lst r xs (.jmp c fwd k)) ρ) h
 |f+1,.jp none _ l _ _ k ρ,h=>bj C T S R f (.ap (.goto l) k ρ) h
 |f+1,.ap .normal (.top rs) ρ,h=>bj C T S R f (.re rs [] ρ) h
 |f+1,.ap .ret (.top rs) ρ,h=>bj C T S R f (.re rs [] ρ) h
 |f+1,.ap .normal (.seq c a k) ρ,h=>bj C T S R f (.ex c a k ρ) h
 |f+1,.ap (.exit i) (.seq _ _ k) ρ,h=>bj C T S R f (.ap (.exit i) k ρ) h
 |f+1,.ap (.goto i) (.seq _ _ k) ρ,h=>bj C T S R f (.ap (.goto i) k ρ) h
 |f+1,.ap .ret (.seq _ _ k) ρ,h=>bj C T S R f (.ap .ret k ρ) h
 |f+1,.ap .normal (.blk _ k) ρ,h=>bj C T S R f (.ap .normal k ρ) h
 |f+1,.ap (.exit i) (.blk id k) ρ,h=>bj C T S R f (.bs (i==id) (.ap .normal k ρ) (.ap (.exit i) k ρ)) h
 |f+1,.ap (.goto i) (.blk _ k) ρ,h=>bj C T S R f (.ap (.goto i) k ρ) h
 |f+1,.ap .ret (.blk _ k) ρ,h=>bj C T S R f (.ap .ret k ρ) h
 |f+1,.ap .normal (.jn σ K _) ρ,h=>Xt K h (Iw σ ρ)
 |f+1,.ap (.exit i) (.jn _ _ k) ρ,h=>bj C T S R f (.ap (.exit i) k ρ) h
 |f+1,.ap (.goto i) (.jn _ _ k) ρ,h=>bj C T S R f (.ap (.goto i) k ρ) h
 |f+1,.ap .ret (.jn _ _ k) ρ,h=>bj C T S R f (.ap .ret k ρ) h
 |f+1,.ap .normal (.back _ _ _ k) ρ,h=>bj C T S R f (.ap .normal k ρ) h
 |f+1,.ap (.exit i) (.back _ _ _ k) ρ,h=>bj C T S R f (.ap (.exit i) k ρ) h
 |f+1,.ap (.goto i) (.back l σ K k) ρ,h=>bj C T S R f (.bs (i==l) (.fin σ K ρ) (.ap (.goto i) k ρ)) h
 |f+1,.ap .ret (.back _ _ _ k) ρ,h=>bj C T S R f (.ap .ret k ρ) h
 |f+1,.ap .normal (.lst [] _ k) ρ,h=>bj C T S R f (.ap .normal k ρ) h
 |f+1,.ap .normal (.lst (c::cs) [] k) ρ,h=>bj C T S R f (.ex c .n (.lst cs [] k) ρ) h
 |f+1,.ap .normal (.lst (c::cs) (x::xs) k) ρ,h=>bj C T S R f (.ex c x (.lst cs xs k) ρ) h
 |f+1,.ap (.exit i) (.lst _ _ k) ρ,h=>bj C T S R f (.ap (.exit i) k ρ) h
 |f+1,.ap (.goto i) (.lst _ _ k) ρ,h=>bj C T S R f (.ap (.goto i) k ρ) h
 |f+1,.ap .ret (.lst _ _ k) ρ,h=>bj C T S R f (.ap .ret k ρ) h
 |f+1,.ap .normal (.jmp _ _ k) ρ,h=>bj C T S R f (.ap .normal k ρ) h
 |f+1,.ap (.exit i) (.jmp _ _ k) ρ,h=>bj C T S R f (.ap (.exit i) k ρ) h
 |f+1,.ap (.goto l) (.jmp c fwd k) ρ,h=>bj C T S R f (.jp (ZF fwd l) (GG c l) l c fwd k ρ) h
 |f+1,.ap .ret (.jmp _ _ k) ρ,h=>bj C T S R f (.ap .ret k ρ) h
 |f+1,.ap .normal (.hd l σ r as fwd c k) ρ,h=>Ix (λs K h=>bj C T S R f (.ap .normal (.lst r as (.jmp c fwd (.back l σ K k))) (GI σ s ρ)) h) h (Iw σ ρ)
 |f+1,.ap (.exit i) (.hd _ _ _ _ _ _ k) ρ,h=>bj C T S R f (.ap (.exit i) k ρ) h
 |f+1,.ap (.goto i) (.hd _ _ _ _ _ _ k) ρ,h=>bj C T S R f (.ap (.goto i) k ρ) h
 |f+1,.ap .ret (.hd _ _ _ _ _ _ k) ρ,h=>bj C T S R f (.ap .ret k ρ) h
 |f+1,.so none all k ρ,h=>bj C T S R f (.rg all ⟨all,true,.n⟩ [] k ρ) h
 |f+1,.so (some s) all k ρ,h=>bj C T S R f (.st s all true [] k ρ) h
 |f+1,.st (.l ns) all dr L k ρ,h=>bj C T S R f (.rg (GK all ns) ⟨all,dr,.n⟩ L k ρ) h
 |f+1,.st (.y ns a b) all dr L k ρ,h=>bj C T S R f (.rg (GK all ns) ⟨all,dr,.y a b⟩ L k ρ) h
 |f+1,.rg [] ⟨_,_,.n⟩ _ k ρ,h=>bj C T S R f (.ap .normal k ρ) h
 |f+1,.rg [] ⟨all,dr,.y a b⟩ L k ρ,h=>bj C T S R f (.st a all dr L k ρ) h/\bj C T S R f (.st b all dr L k ρ) h
 |f+1,.rg ((n,⟨d,o,t,p,e,none⟩)::os) r L k ρ,h=>bj C T S R f (.on n ⟨d,o,t,p,e,none⟩ os r L k ρ) h
 |f+1,.rg ((n,⟨d,o,t,p,e,some (j,w)⟩)::os) r L k ρ,h=>bj C T S R f (.gd (abJ ρ (Xv (nc (0,⟨none,.ready 0,0, "",#[],none⟩) r.all j))) w (Xv (nc (0,⟨none,.ready 0,0, "",#[],none⟩) r.all j)) n ⟨d,o,t,p,e,some (j,w)⟩ os r L k ρ) h
 |f+1,.gd (.k 0) true _ n o os r L k ρ,h=>bj C T S R f (.sk n o os r L k ρ) h
 |f+1,.gd (.k 0) false _ n o os r L k ρ,h=>bj C T S R f (.on n o os r L k ρ) h
 |f+1,.gd (.k (_+1)) true _ n o os r L k ρ,h=>bj C T S R f (.on n o os r L k ρ) h
 |f+1,.gd (.k (_+1)) false _ n o os r L k ρ,h=>bj C T S R f (.sk n o os r L k ρ) h
 |f+1,.gd (.v (.tuple _)) _ _ n o os r L k ρ,h=>bj C T S R f (.sk n o os r L k ρ) h
 |f+1,.gd (.v (.bool b)) true d n o os r L k ρ,h=>Br b (bj C T S R f (.on n o os r L k (.tf d 1::ρ)) h) (bj C T S R f (.sk n o os r L k (.tf d 0::ρ)) h)
 |f+1,.gd (.v (.bool b)) false d n o os r L k ρ,h=>Br b (bj C T S R f (.sk n o os r L k (.tf d 1::ρ)) h) (bj C T S R f (.on n o os r L k (.tf d 0::ρ)) h)
 |f+1,.on n ⟨d,o,t,_,e,_⟩ os r L k ρ,h=>bj C T S R f (.rs (ZC C.P T C.tup t ρ o) n d e.toList os r L k ρ) h
 |f+1,.sk _ ⟨d,o,_,_,e,_⟩ os r L k ρ,h=>Fy e.toList L h (Fx r.dr (RR T o)) (bj C T S R f (.rg os r (ZH e.toList L (Fx r.dr (RR T o))) k (nZ d undef ρ)) h)
 |f+1,.rs (.val v) _ d _ os r L k ρ,h=>bj C T S R f (.rg os r L k (nZ d v ρ)) h
 |f+1,.rs (.cond c v) _ d _ os r L k ρ,h=>c/\bj C T S R f (.rg os r L k (nZ d v ρ)) h
 |f+1,.rs (.ex X c v) _ d _ os r L k ρ,h=>∃x:X,c x/\bj C T S R f (.rg os r L k (nZ d (v x) ρ)) h
 |f+1,.rs (.br b x y) _ d _ os r L k ρ,h=>Br b (bj C T S R f (.rg os r L k (nZ d x ρ)) h) (bj C T S R f (.rg os r L k (nZ d y ρ)) h)
 |f+1,.rs (.ld a (.sc s) _) n d _ os r L k ρ,h=>∃x:s.den,cellOf h a=some (s.enc x)/\bj C T S R f (.rg os r (RP r.dr n (.l [(a,s.enc x)]) L) k (nZ d (s.enc x) ρ)) h
 |f+1,.rs (.ld a (.agg l) _) n d _ os r L k ρ,h=>∃x:xY l,bp h a 0 (nW l x)/\bj C T S R f (.rg os r (RP r.dr n (.l (Xx a 0 (nW l x))) L) k (nZ d (.agg (nW l x).toArray) ρ)) h
 |f+1,.rs (.ld a (.arr s) m) n d _ os r L k ρ,h=>∃x:List s.den,(x.length=m/\bp h a 0 (x.map s.enc))/\bj C T S R f (.rg os r (RP r.dr n (.a a (x.map s.enc)) L) k (nZ d (.agg (x.map s.enc).toArray) ρ)) h
 |f+1,.rs (.ru _ s) _ d e os r L k ρ,h=>au C.P s h λ_ h'=>Fy e L h' r.dr (bj C T S R f (.rg os r (Iy e L r.dr) k (nZ d undef ρ)) h')
 |f+1,.rs (.ra s) _ d e os r L k ρ,h=>rv C.P s h λa h'=>Fy e L h' r.dr (bj C T S R f (.rg os r (Iy e L r.dr) k (nZ d (.pointer (some a)) ρ)) h')
 |f+1,.rs (.rr s t) _ d e os r L k ρ,h=>bC C.P s t h λx h'=>Fy e L h' r.dr (bj C T S R f (.rg os r (Iy e L r.dr) k (nZ d (t.enc x) ρ)) h')
 |f+1,.rs (.ca g l t) _ d e os r L k ρ,h=>jZ C.P g l.toArray t h λx h'=>Fy e L h' r.dr (bj C T S R f (.rg os r (Iy e L r.dr) k (nZ d (t.enc x) ρ)) h')
 |f+1,.rs (.dy g l t) _ d e os r L k ρ,h=>tK C g l t h λx h'=>Fy e L h' r.dr (bj C T S R f (.rg os r (Iy e L r.dr) k (nZ d (t.enc x) ρ)) h')
 |f+1,.re [] [] _,h=>R (.tuple #[]) h
 |f+1,.re [] [v] _,h=>R v h
 |f+1,.re [] (v::w::r) _,h=>R (.tuple (v::w::r).toArray) h
 |f+1,.re (.tmp t::r) acc ρ,h=>bj C T S R f (.re r (rx acc [Fw ρ t]) ρ) h
 |f+1,.re (.cell a t::r) acc ρ,h=>bj C T S R f (.rl (RK (Fw ρ a) (T t)) r acc ρ) h
 |f+1,.rl (.ld a (.sc s) _) r acc ρ,h=>∃x:s.den,cellOf h a=some (s.enc x)/\bj C T S R f (.re r (rx acc [s.enc x]) ρ) h
 |f+1,.rl (.ld a (.agg l) _) r acc ρ,h=>∃x:xY l,bp h a 0 (nW l x)/\bj C T S R f (.re r (rx acc [.agg (nW l x).toArray]) ρ) h
 |f+1,.rl (.ld a (.arr s) m) r acc ρ,h=>∃x:List s.den,(x.length=m/\bp h a 0 (x.map s.enc))/\bj C T S R f (.re r (rx acc [.agg (x.map s.enc).toArray]) ρ) h
 |_+1,_,_=>False
def RS:Nat->List Value->Ev
 |_,[]=>[]
 |n,v::r=>.val n v::RS (n+1) r
theorem adM{α:Type}(l:List α):(l.toArray).toList=l:=rfl
theorem adN(a:Addr):a.add 0=a:=rfl
theorem adO(s:Sl):Sl.mk s.ptr s.len s.cap=s:=rfl
theorem ace(A B:Prop):Br true A B=A:=rfl
theorem acf(A B:Prop):Br false A B=B:=rfl
end Rk
abbrev dT:=List (List UInt8)
abbrev aT:=List UInt8
abbrev cV:=List (List Int)
abbrev aC:=List Int
abbrev bx:=Option Go.Addr
abbrev aR:=List Go.Value
abbrev Ac:=Go.Value->Qw.Heap->Prop
abbrev LJ:=Go.FuncId×Array Go.Value×Array Go.Value
abbrev bU.tn(a:Qw.bU):Qw.bU:=.two .n a
abbrev bU.lp(L:Qw.dG)(S:Qw.dn):Qw.bU:=.two (.two .n (.inn (.loop L S .n))) .n
abbrev bU.jn(L:Qw.dG)(S:Qw.dn)(a:Qw.bU):Qw.bU:=.two (.join L S .n) a
universe u
theorem hZ{c:Prop}{h:Decidable c}(hc:c){α:Sort u}{t e:α}:ite c t e=t:=if_pos hc
theorem k4{c:Prop}{h:Decidable c}(hnc:¬c){α:Sort u}{t e:α}:ite c t e=e:=if_neg hnc
theorem ln{p:Prop}[inst:Decidable p]:p->decide p=true:=decide_eq_true
theorem m5{p:Prop}[inst:Decidable p]:¬p->decide p=false:=decide_eq_false
theorem m6{p:Prop}[inst:Decidable p]:decide p=true->p:=of_decide_eq_true
theorem m9{α:Sort u}{a:α}:a=a:=rfl
theorem I0:True:=trivial
theorem HF{α:Sort u}(a:α):∃b,b=a:=⟨_,rfl⟩
theorem nb{p:Prop}(h:p:=by omega):p:=h
theorem nq{p:Prop}(h:p:=by decide):p:=h
theorem n1{p:Prop}(h:p:=by dsimp only;omega):p:=h
theorem n2{p:Prop}(h:p:=by simp;omega):p:=h
theorem n3{p:Prop}(h:p:=by dsimp only;rw[af _];rfl):p:=h
theorem n4{p:Prop}(h:p:=by simp):p:=h
theorem n5{p:Prop}(h:p:=by cases e):p:=h
theorem n7{p:Prop}(h:p:=by rw[af _];rfl):p:=h
theorem n8{p:Prop}(h:p:=by grind):p:=h
theorem n9{p:Prop}(h:p:=by kernel_rfl):p:=h
theorem oi{p:Prop}(h:p:=by decide+kernel):p:=h
theorem oj{p:Prop}(h:p:=by repeat (first|exact trivial|refine⟨by assumption,?_⟩)):p:=h
theorem oo{p:Prop}(h:p:=by rw[addr_add];exact hb.cell m9):p:=h
theorem o0{p:Prop}(h:p:=by rw[af _];omega):p:=h
theorem o1{p:Prop}(h:p:=by simp[Value.cells]):p:=h
theorem o4{p:Prop}(h:p:=by rw[e1];decide):p:=h
theorem o5{p:Prop}(h:p:=by rw[cl (by omega)];omega):p:=h
theorem o6{p:Prop}(h:p:=by rw[qH];omega):p:=h
theorem o7{p:Prop}(h:p:=by simpa using e):p:=h
theorem o8{p:Prop}(h:p:=by simp[dF]):p:=h
theorem o9{p:Prop}(h:p:=by simp[bL];omega):p:=h
theorem pa{p:Prop}(h:p:=by rfl):p:=h
theorem pb{p:Prop}(h:p:=by unfold dQ;simp;omega):p:=h
theorem pt{p:Prop}(h:p:=by simp[aN]):p:=h
theorem p5{p:Prop}(h:p:=by simpa using h):p:=h
theorem p6{p:Prop}(h:p:=by have:=((jW m).1 a).1;omega):p:=h
theorem p7{p:Prop}(h:p:=by simp[bL]):p:=h
theorem p8{p:Prop}(h:p:=by rw[qx];omega):p:=h
theorem p9{p:Prop}(h:p:=by cases h):p:=h
theorem qa{p:Prop}(h:p:=by simp[ft]):p:=h
theorem qb{p:Prop}(h:p:=by dsimp only;simp;omega):p:=h
theorem sr{p:Prop}(h:p:=by rw[<-be (by omega),jm,k4 (by omega)]):p:=h
theorem sz{p:Prop}(h:p:=by assumption):p:=h
theorem sL{p:Prop}(h:p:=by simp[bR];omega):p:=h
theorem tg{p:Prop}(h:p:=by simpa using H):p:=h
theorem tq{p:Prop}(h:p:=by simp at d;omega):p:=h
theorem t6{p:Prop}(h:p:=by simp[powC]):p:=h
theorem t7{p:Prop}(h:p:=by rw[m5 b];rfl):p:=h
theorem t8{p:Prop}(h:p:=by rw[fZ];omega):p:=h
theorem u0{p:Prop}(h:p:=by simpa using e2):p:=h
theorem u5{p:Prop}(h:p:=by simpa using u):p:=h
theorem u6{p:Prop}(h:p:=by simpa using b):p:=h
theorem u7{p:Prop}(h:p:=by simp[dL];omega):p:=h
theorem u9{p:Prop}(h:p:=by simp[dJ];omega):p:=h
theorem v6{p:Prop}(h:p:=by rw[e];rfl):p:=h
theorem v7{p:Prop}(h:p:=by unfold ja;rw[o.refl];rfl):p:=h
theorem v8{p:Prop}(h:p:=by simp[g]):p:=h
theorem xa{p:Prop}(h:p:=by rw[<-y];exact w.cell0 m9):p:=h
theorem xx{p:Prop}(h:p:=by rw[<-z];exact y.cell0 m9):p:=h
theorem A0{p:Prop}(h:p:=by simp[iv]):p:=h
theorem A1{p:Prop}(h:p:=by simp[bA];omega):p:=h
theorem A3{p:Prop}(h:p:=by rw[rV d];omega):p:=h
theorem A4{p:Prop}(h:p:=by simp[d]):p:=h
theorem A5{p:Prop}(h:p:=by rw[qh (qj _)]):p:=h
theorem A6{p:Prop}(h:p:=by have:=(d a).2.2.1;omega):p:=h
theorem A7{p:Prop}(h:p:=by rw[wrap_u64];omega):p:=h
theorem A8{p:Prop}(h:p:=by simpa using a):p:=h
theorem A9{p:Prop}(h:p:=by rw[qn];omega):p:=h
theorem Bk{p:Prop}(h:p:=by rw[fE];omega):p:=h
theorem Bm{p:Prop}(h:p:=by have:=(d a).2.1;omega):p:=h
theorem B0{p:Prop}(h:p:=by rw[ok.la];omega):p:=h
theorem B1{p:Prop}(h:p:=by unfold rC;rw[e];rfl):p:=h
theorem B2{p:Prop}(h:p:=by rw[l]):p:=h
theorem B3{p:Prop}(h:p:=by simpa using o):p:=h
theorem B4{p:Prop}(h:p:=by rw[hE];exact qe hn):p:=h
theorem B5{p:Prop}(h:p:=by simpa using d):p:=h
theorem B6{p:Prop}(h:p:=by simpa using f):p:=h
theorem B7{p:Prop}(h:p:=by have:=d a;omega):p:=h
theorem B8{p:Prop}(h:p:=by rw[qx,li];omega):p:=h
theorem B9{p:Prop}(h:p:=by simp[e]):p:=h
theorem CY{p:Prop}(h:p:=by rw[w];rfl):p:=h
theorem C0{p:Prop}(h:p:=by simp[iG];omega):p:=h
theorem C1{p:Prop}(h:p:=by simp[fJ];omega):p:=h
theorem C2{p:Prop}(h:p:=by cases a):p:=h
theorem C3{p:Prop}(h:p:=by rw[L];exact r):p:=h
theorem C4{p:Prop}(h:p:=by rw[e3];decide):p:=h
theorem C5{p:Prop}(h:p:=by rw[e2];decide):p:=h
theorem C6{p:Prop}(h:p:=by simpa using k):p:=h
theorem C7{p:Prop}(h:p:=by simpa using g):p:=h
theorem C8{p:Prop}(h:p:=by simp[c]):p:=h
theorem C9{p:Prop}(h:p:=by simp at h):p:=h
theorem D0{p:Prop}(h:p:=by simpa using w):p:=h
theorem D1{p:Prop}(h:p:=by rw[qP];omega):p:=h
theorem D2{p:Prop}(h:p:=by rw[g];decide):p:=h
theorem D3{p:Prop}(h:p:=by rw[E];exact xW):p:=h
theorem D4{p:Prop}(h:p:=by simp[p]):p:=h
theorem D5{p:Prop}(h:p:=by simp[li,lc]):p:=h
theorem D6{p:Prop}(h:p:=by simp[hl]):p:=h
theorem D7{p:Prop}(h:p:=by rw[o];simp):p:=h
theorem D8{p:Prop}(h:p:=by simp[t]):p:=h
theorem D9{p:Prop}(h:p:=by rw[e2];simp):p:=h
theorem E0{p:Prop}(h:p:=by rw[fI,e];rfl):p:=h
theorem E1{p:Prop}(h:p:=by simp[a]):p:=h
theorem E2{p:Prop}(h:p:=by rw[A]):p:=h
theorem E3{p:Prop}(h:p:=by simp[f]):p:=h
theorem E4{p:Prop}(h:p:=by simp[m]):p:=h
abbrev qj:=@Nat.le_refl
abbrev qz:=@Bool.and_eq_true
abbrev zc:=@Bool.false_eq_true
abbrev zD:=@List.cons_append
abbrev qM:=@List.getElem?_map
abbrev q7:=@List.length_cons
abbrev qN:=@List.mem_cons
abbrev qp:=@List.mem_cons_of_mem
abbrev qB:=@List.mem_singleton
abbrev zl:=@Option.map_some
abbrev z6:=@UInt8.xor_zero
abbrev wv:=@UInt8.zero_xor
abbrev w7:=@Nat.add_assoc
abbrev yn:=@Nat.add_zero
abbrev qX:=@Nat.le_trans
abbrev qU:=@Nat.lt_of_lt_of_le
abbrev q8:=@Nat.lt_succ_iff_lt_or_eq
abbrev vk:=@Nat.mod_lt
abbrev zq:=@Nat.mul_le_mul
abbrev zk:=@Nat.mul_le_mul_right
abbrev zd:=@Nat.sub_self
abbrev zU:=@Nat.succ_mul
abbrev w9:=@Nat.zero_add
abbrev qQ:=@List.all_eq_true
abbrev wh:=@List.any_eq_false
abbrev ql:=@List.append_assoc
abbrev vt:=@List.countP_cons
abbrev wu:=@List.drop_drop
abbrev zh:=@List.drop_of_length_le
abbrev qR:=@List.eq_nil_of_length_eq_zero
abbrev zW:=@List.ext_getElem
abbrev zn:=@List.ext_getElem?
abbrev zi:=@List.filter_append
abbrev yZ:=@List.filter_eq_nil_iff
abbrev za:=@List.flatMap_append
abbrev zm:=@List.flatMap_cons
abbrev wB:=@List.foldl_append
abbrev zO:=@List.foldl_cons
abbrev qg:=@List.getD_eq_getElem?_getD
abbrev qu:=@List.getElem?_append_left
abbrev qk:=@List.getElem?_append_right
abbrev qO:=@List.getElem?_cons_succ
abbrev wc:=@List.getElem?_cons_zero
abbrev wJ:=@List.getElem?_drop
abbrev qc:=@List.getElem?_eq_getElem
abbrev zf:=@List.getElem?_eq_none
abbrev qm:=@List.getElem?_eq_some_iff
abbrev qV:=@List.getElem?_set
abbrev w4:=@List.getElem?_set_ne
abbrev zJ:=@List.getElem?_set_self
abbrev zN:=@List.getElem?_toArray
abbrev wQ:=@List.getElem?_zipWith
abbrev zM:=@List.getElem_drop
abbrev qe:=@List.getElem_mem
abbrev qD:=@List.getElem_of_mem
abbrev qo:=@List.length_append
abbrev qH:=@List.length_drop
abbrev qn:=@List.length_map
abbrev wP:=@List.length_mergeSort
abbrev zL:=@List.length_range
abbrev qP:=@List.length_set
abbrev qx:=@List.length_take
abbrev qw:=@List.mem_append
abbrev qS:=@List.mem_cons_self
abbrev qJ:=@List.mem_filter
abbrev wM:=@List.mem_flatMap
abbrev qI:=@List.mem_map
abbrev zK:=@List.mem_of_mem_take
abbrev qY:=@List.mem_range
abbrev zV:=@List.mem_take_iff_getElem
abbrev wb:=@List.mergeSort_perm
abbrev zy:=@List.pairwise_append
abbrev zr:=@List.pairwise_cons
abbrev zb:=@List.pairwise_iff_getElem
abbrev wD:=@List.pairwise_mergeSort
abbrev yJ:=@List.range_eq_range'
abbrev zC:=@List.range_succ
abbrev yY:=@List.set_set
abbrev qA:=@List.take_append_drop
abbrev qh:=@List.take_of_length_le
abbrev zx:=@List.take_succ_eq_append_getElem
abbrev wH:=@BitVec.ofInt_natCast
abbrev yX:=@Int.tmod_lt_of_pos
abbrev qi:=@Int.toNat_natCast
abbrev yh:=@Array.getElem?_modify
abbrev w8:=@Bool.not_eq_true'
abbrev wG:=@Bool.not_false
abbrev zR:=@List.any_eq_true
abbrev qL:=@List.append_nil
abbrev zA:=@List.filter_cons
abbrev yR:=@List.filter_eq_self
abbrev y0:=@List.map_map
abbrev yk:=@List.mem_replicate
abbrev wN:=@UInt8.ofNat_toNat
abbrev zQ:=@UInt8.toNat_lt
abbrev vQ:=@UInt8.xor_comm
abbrev vu:=@Option.getD_some
abbrev yo:=@Option.isSome_iff_exists
abbrev vL:=@Option.toList_none
abbrev wg:=@Int.mul_le_mul
abbrev vT:=@Int.mul_nonneg
abbrev zS:=@Int.natCast_mul
abbrev yQ:=@Int.ofNat_inj
abbrev xA:=@Int.ofNat_lt
abbrev yD:=@Int.tdiv_eq_ediv_of_nonneg
abbrev zT:=@Int.tmod_eq_emod_of_nonneg
abbrev yy:=@UInt8.toNat_inj
abbrev wx:=@List.all_append
abbrev zZ:=@List.all_eq_false
abbrev ye:=@List.any_append
abbrev qT:=@List.drop_eq_getElem_cons
abbrev wY:=@List.filter_nil
abbrev we:=@List.flatMap_nil
abbrev zo:=@List.getElem?_range
abbrev wE:=@List.getElem?_replicate
abbrev zH:=@List.getElem_take
abbrev yl:=@List.getElem_zip
abbrev qK:=@List.length_filter_le
abbrev wL:=@List.length_nil
abbrev qE:=@List.map_append
abbrev vK:=@List.map_mergeSort
abbrev wj:=@List.mem_of_getElem?
abbrev qZ:=@List.set_append_right
abbrev wZ:=@List.set_cons_succ
abbrev zt:=@List.set_cons_zero
abbrev qt:=@List.take_length
abbrev wF:=@Nat.add_sub_cancel_left
abbrev zG:=@Nat.mul_one
abbrev qW:=@Nat.zero_le
abbrev yp:=@Bool.false_or
abbrev z7:=@Bool.true_and
abbrev yU:=@Prod.ext
abbrev vB:=@List.any_cons
abbrev vV:=@List.any_nil
abbrev yT:=@List.drop_length
abbrev vX:=@List.find?_append
abbrev yj:=@List.find?_eq_none
abbrev zw:=@List.getElem_map
abbrev wV:=@List.length_replicate
abbrev wy:=@List.map_cons
abbrev y7:=@List.map_nil
abbrev zP:=@List.mem_of_find?_eq_some
abbrev yO:=@List.replicate_succ'
abbrev vd:=@Bool.and_self
abbrev wq:=@Int.emod_lt_of_pos
abbrev yz:=@Int.emod_nonneg
abbrev ze:=@Int.natCast_nonneg
abbrev wC:=@Int.ofNat_le
abbrev xo:=@Bool.and_true
abbrev yG:=@Bool.eq_iff_iff
abbrev yB:=@List.all_cons
abbrev vw:=@List.all_nil
abbrev xl:=@List.getElem_set
abbrev vz:=@List.getElem_set_ne
abbrev wU:=@List.getElem_set_self
abbrev xn:=@List.map_drop
abbrev xE:=@List.map_take
abbrev yP:=@List.mem_of_mem_drop
abbrev xk:=@Int.not_lt
end Go.Qw
