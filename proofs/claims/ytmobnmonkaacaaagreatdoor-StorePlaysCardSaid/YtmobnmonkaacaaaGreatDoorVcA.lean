/- Lemmas for the proof of the law; no condition. -/
import Derived.Calls
import Derived.Orders
import Derived.Scope
import Derived.KernelRfl
import Derived.Laws.Sem
import Derived.OrdersHeld
set_option linter.unusedVariables false
set_option linter.unusedSimpArgs false
open Nat renaming beq -> wF, ble -> xv, blt -> xk, eq_of_beq_eq_true -> zH, le_of_ble_eq_true -> zE, le_refl -> qj
open Bool renaming and_eq_true -> qC, false_eq_true -> zc, or_eq_false_iff -> yF, or_eq_true -> yu, or_false -> y9
open List renaming cons_append -> zD, getElem?_map -> qM, length_cons -> q7, mem_append_right -> ye, mem_cons -> qN, mem_cons_of_mem -> qp, mem_singleton -> qB
open BitVec renaming ofInt -> qG
open Go.IntKind renaming i64 -> xN
open Go.Instr renaming alloc -> wM, box -> va, build -> xo, buildSlice -> zw, fill -> wv, loadAt -> xw, makeSlice -> zB, mapUpdate -> xq, slice -> xG, sliceAt -> w5, sliceBound -> vp, sliceBounds -> zZ, storeAt -> qD
open Option renaming map_eq_some_iff -> yV, map_some -> zn, some -> wb
open Array renaming ext' -> vj, getElem?_toList -> ve, mapM_eq_mapM_toList -> vw, replicate -> vB, toList_map -> vZ
open Go.Builtin renaming append_ -> q6, clear_ -> vM, copy_ -> yN, len_ -> xD
namespace Go.Qw
abbrev Heap:=Array Obj
def cellOf(h:Heap)(a:Addr):Option Value:=
 match h[a.block]? with
 |some (.cells c _ _)=>if a.spot.isSome then none else c[a.off]?
 |_=>none
def Qz(h:Heap)(a:Addr):Bool:=
 match h[a.block]? with
 |some (.cells _ _ (lo,hi))=>lo<=a.off&&a.off<hi
 |_=>false
def QA(h:Heap)(a:Addr)(v:Value):Heap:=
 h.modify a.block λ
  | .cells c elem frozen=>.cells (if a.spot.isSome then c else c.setIfInBounds a.off v) elem frozen
  |o=>o
def shapeOf(h:Heap)(r:Nat):Option (TypeId×Nat):=match h[r]? with|some (.cells c elem _)=>some (elem,c.size)|_=>none
theorem Wq(w:World)(r:Nat):w.shape? r=shapeOf w.heap r:=rfl
theorem HU(w:World)(a:Addr):w.cell? a=cellOf w.heap a:=rfl
theorem ZH(w:World)(a:Addr):w.frozen? a=Qz w.heap a:=rfl
theorem ZI(w:World)(a:Addr)(v:Value):(w.setCell a v).heap=QA w.heap a v:=rfl
structure dj (w w':World):Prop where
 os:w'.os=w.os
 tape:w'.tape=w.tape
 output:w'.output=w.output
 drawn:w.drawn<=w'.drawn
theorem dj.refl(w:World):dj w w:=⟨rfl,rfl,rfl,qj _⟩
theorem dj.trans{a b c:World}(h:dj a b)(k:dj b c):dj a c:=⟨k.os.trans h.os,k.tape.trans h.tape,k.output.trans h.output,Nat.le_trans h.drawn k.drawn⟩
def ak(P:Program)(f:FuncId)(args:Array Value)(h:Heap)(R:Value->Heap->Prop):Prop:=
 ∀w,w.heap=h->Calls P f args w λe w'=>∃v,e=.returned v/\dj w w'/\R v w'.heap
theorem ak.mono{P:Program}{f:FuncId}{args:Array Value}{h:Heap}{R a:Value->Heap->Prop}(e:ak P f args h R)
  (g:∀v h',R v h'->a v h'):ak P f args h a:=λw b=>
 (e w b).mono λ_ _ ⟨v,c,d,r⟩=>⟨v,c,d,g _ _ r⟩
theorem ak.I2{P:Program}{f:FuncId}{args:Array Value}{h:Heap}{R:Value->Heap->Prop}{t:Heap}{c:Value}(e:ak P f args h λv h'=>v=c/\h'=t) (k:R c t):ak P f args h R:=e.mono (by rintro _ _ ⟨rfl,rfl⟩;exact k)
theorem ak.I3{P:Program}{f:FuncId}{args:Array Value}{h:Heap}{R:Value->Heap->Prop}{c:Value}{Q:Heap->Prop}(e:ak P f args h λv h'=>v=c/\Q h') (k:∀t,Q t->R c t):ak P f args h R:=e.mono (by rintro _ t ⟨rfl,q⟩;exact k t q)
theorem ak.I4{P:Program}{f:FuncId}{args:Array Value}{h:Heap}{R:Value->Heap->Prop}{α:Type}{g:α->Value}{Q:α->Heap->Prop}(e:ak P f args h λv h'=>∃x,v=g x/\Q x h') (k:∀x t,Q x t->R (g x) t):ak P f args h R:=e.mono (by rintro _ t ⟨x,rfl,q⟩;exact k x t q)
def av{α:Type}(P:Program)(s:Sem α)(h:Heap)(K:α->Heap->Prop):Prop:=
 ∀w,w.heap=h->∃v w',s.run P w=.ok v w'/\dj w w'/\K v w'.heap
variable {α β:Type} {P:Program} {h:Heap}
theorem av.pure'{K:α->Heap->Prop}{a:α}(b:K a h):av P (Pure.pure a) h K:=λw c=>⟨a,w,rfl,dj.refl w,by grind⟩
theorem av.bind{s:Sem α}{f:α->Sem β}{K:β->Heap->Prop}(k:av P s h λv h'=>av P (f v) h' K):av P (s>>=f) h K:=by intro w g;obtain⟨v,w',l,j,e⟩:=k w g;obtain⟨i,a,d,c,b⟩:=e w' rfl;exact⟨i,a,by rw[Sem.run_bind,l];exact d,j.trans c,b⟩
theorem av.mono{s:Sem α}{K d:α->Heap->Prop}(g:av P s h K)(e:∀v h',K v h'->d v h'):av P s h d:=λw f=>
 let⟨v,w',a,b,c⟩:=g w f;⟨v,w',a,b,e _ _ c⟩
theorem av.Wr{K:Program->Heap->Prop}(a:K P h):av P program h K:=λw b=>⟨P,w,rfl,dj.refl w,by grind⟩
theorem av.aaH{a:Addr}{v v0:Value}{m:Mode}{K:Unit->Heap->Prop}(e:v.oneCell'=true)(c:cellOf h a=some v0)(f:Qz h a=false)(d:K () (QA h a v)):
  av P (store a v m) h K:=λw b=>
 ⟨(),w.setCell a v,by rw[run_store _ _ _ _ _ e,HU,b,c];simp[ZH,b,f],⟨rfl,rfl,rfl,qj _⟩,by rw[ZI,b];exact d⟩
theorem av.nP{o:Obj}{K:Nat->Heap->Prop}(a:K h.size (h.push o)):av P (newObj o) h K:=λw b=>
 ⟨w.heap.size,_,run_newObj P w o,⟨rfl,rfl,rfl,qj _⟩,by grind⟩
theorem av.AJ{n:Nat}{K:Unit->Heap->Prop}(a:K () h):av P (askRoom n) h K:=λw b=>⟨(),w,run_askRoom P w n,dj.refl w,by grind⟩
theorem av.DI{q:Question}{K:Nat->Heap->Prop}(a:(q.forced=true->K 0 h)/\(q.forced=false->∀n,K (q.cut n) h)):av P (choose q) h K:=by
 intro w b;cases hq:q.forced with
 |true=>exact⟨0,w,by rw[run_choose,hq];rfl,dj.refl w,by grind⟩
 |false=>exact⟨q.cut (w.tape w.drawn q),{w with drawn:=w.drawn+1},by rw[run_choose,hq];rfl,⟨rfl,rfl,rfl,Nat.le_succ _⟩,by grind⟩
theorem av.aaI{r:Nat}{K:Option (TypeId×Nat)->Heap->Prop}(a:K (shapeOf h r) h):av P (shape r) h K:=λw b=>
 ⟨_,w,run_shape P w r,dj.refl w,by rw[Wq,b];exact a⟩
def Ae(P:Program)(s:Sem Next)(h:Heap)(K:Value->Heap->Prop):Prop:=
 av P s h λa h'=>match a with
  | .value v=>K v h'
  | .skip=>K undef h'
  | .enter f args=>ak P f args h' K
  |_=>False
theorem acK{P:Program}{o:Oper}{a:Act}{w:World}{K:Value->Heap->Prop}{Q:Exit->Act->World->Prop}
  (i:Ae P (execOp a.eval o) w.heap K) {next:Act->World->Prop}
  (g:∀v w',dj w w'->K v w'.heap->next (a.put o.dst v) w'):o.wp P a w next Q:=by
 obtain⟨j,w',k,h,c⟩:=i w rfl;unfold Oper.wp;rw[k];cases j<;>simp only at c<;>simp only[Oper.upon]
 case value v=>grind
 case skip=>grind
 case enter f args=>
  refine(c w' rfl).mono ?_;rintro e d ⟨v,rfl,b,r⟩;exact g _ _ (h.trans b) r
structure Sl where
 ptr:Option Addr
 len:Nat
 cap:Nat
 deriving Inhabited
inductive Sc where
 |int (k:IntKind)|bool|str|ptr|slc|flt (k:FloatKind)|cpx (k:FloatKind)|mp|fn|any|adr
@[reducible] def Sc.den:Sc->Type
 | .int _=>Int
 | .bool=>Bool
 | .str=>ByteArray
 | .ptr=>Option Addr
 | .slc=>Sl
 | .flt _=>Nat
 | .cpx _=>Nat×Nat
 | .mp=>Option Nat
 | .fn=>FuncId×Array Value×Array Value
 | .any=>Value
 | .adr=>Addr
@[reducible] def Sc.enc:(s:Sc)->s.den->Value
 | .int k,n=>.int k n
 | .bool,x=>.bool x
 | .str,x=>.string x
 | .ptr,a=>.pointer a
 | .slc,x=>.slice x.ptr x.len x.cap
 | .flt k,n=>.float k n
 | .cpx k,x=>.complex k x.1 x.2
 | .mp,r=>.map r
 | .fn,x=>.func (.func x.1) x.2.1 x.2.2
 | .any,v=>v
 | .adr,a=>.pointer (some a)
def Af:IntKind->IntKind->Bool
 | .i8,.i8| .i16,.i16| .i32,.i32| .i64,.i64| .u8,.u8| .u16,.u16| .u32,.u32| .u64,.u64=>true
 |_,_=>false
theorem Ez:∀{a b:IntKind},Af a b=true->a=b:=by intro a b;cases a<;>cases b<;>simp[Af]
def BZ:FloatKind->FloatKind->Bool
 | .f32,.f32| .f64,.f64=>true
 |_,_=>false
theorem Cb:∀{a b:FloatKind},BZ a b=true->a=b:=by intro a b;cases a<;>cases b<;>simp[BZ]
def Sc.dec:(s:Sc)->Value->Option s.den
 | .int k,.int k' n=>bif Af k k' then some n else none
 | .bool,.bool x=>some x
 | .str,.string x=>some x
 | .ptr,.pointer a=>some a
 | .slc,.slice a l c=>some ⟨a,l,c⟩
 | .flt k,.float k' n=>bif BZ k k' then some n else none
 | .cpx k,.complex k' a b=>bif BZ k k' then some (a,b)else none
 | .mp,.map r=>some r
 | .fn,.func (.func g) f c=>some (g,f,c)
 | .any,v=>some v
 | .adr,.pointer (some a)=>some a
 |_,_=>none
theorem Sc.pf{s:Sc}{v:Value}{x:s.den}(h:s.dec v=some x):v=s.enc x:=by
 cases s<;>cases v<;>simp only[Sc.dec]at h<;>try(first|(cases h;done)|(cases h;rfl))
 case int.int k k' n=>
  cases hk:Af k k'<;>simp[hk]at h;have:=Ez hk;grind
 case flt.float k k' n=>
  cases hk:BZ k k'<;>simp[hk]at h;have:=Cb hk;grind
 case cpx.complex k k' a b=>
  cases hk:BZ k k'<;>simp[hk]at h;have:=Cb hk;grind
 case fn.func g f c=>
  grind
 grind
@[reducible] def uY:List Sc->Type
 |[]=>Unit
 |[s]=>s.den
 |s::t::r=>s.den×uY (t::r)
@[reducible] def nG:(l:List Sc)->uY l->List Value
 |[],_=>[]
 |[s],x=>[s.enc x]
 |s::t::r,x=>s.enc x.1::nG (t::r) x.2
def QB:(l:List Sc)->List Value->Option (uY l)
 |[],[]=>some ()
 |[s],[v]=>s.dec v
 |s::t::r,v::vs=>match s.dec v with
  |some x=>match QB (t::r) vs with
   |some y=>some (x,y)
   |none=>none
  |none=>none
 |_,_=>none
theorem Tz:∀{l:List Sc} {vs:List Value} {x:uY l},QB l vs=some x->vs=nG l x:=by
 intro l vs
 fun_induction QB l vs with
 |case1=>intro x _;rfl
 |case2 s v=>intro x h;simp only[nG];rw[Sc.pf h]
 |case3 s t r v vs x hx y hy ih=>intro z h;cases h;simp only[nG];rw[Sc.pf hx,ih hy]
 |case4=>intro x h;cases h
 |case5=>intro x h;cases h
 |case6=>intro x h;cases h
inductive Ty where
 |sc (s:Sc)
 |agg (l:List Sc)
 |arr (s:Sc)
@[reducible] def Ty.den:Ty->Type
 | .sc s=>s.den
 | .agg l=>uY l
 | .arr s=>List s.den
@[reducible] def Ty.enc:(t:Ty)->t.den->Value
 | .sc s,x=>s.enc x
 | .agg l,x=>.agg (nG l x).toArray
 | .arr s,x=>.agg (x.map s.enc).toArray
def Ty.dec:(t:Ty)->Value->Option t.den
 | .sc s,v=>s.dec v
 | .agg l,.agg ⟨cs⟩=>QB l cs
 |_,_=>none
theorem Ty.pf{t:Ty}{v:Value}{x:t.den}(h:t.dec v=some x):v=t.enc x:=by
 unfold Ty.dec at h;split at h
 .exact Sc.pf h
 .have:=Tz h;subst this;rfl
 .cases h
@[reducible] def KM:List Ty->Type
 |[]=>Unit
 |[s]=>s.den
 |s::t::r=>s.den×KM (t::r)
@[reducible] def QC:(l:List Ty)->KM l->List Value
 |[],_=>[]
 |[s],x=>[s.enc x]
 |s::t::r,x=>s.enc x.1::QC (t::r) x.2
inductive Rt where
 |one (t:Ty)
 |many (l:List Ty)
@[reducible] def Rt.den:Rt->Type
 | .one t=>t.den
 | .many l=>KM l
@[reducible] def Rt.enc:(r:Rt)->r.den->Value
 | .one t,x=>t.enc x
 | .many l,x=>.tuple (QC l x).toArray
inductive ph where
 |val (t:Nat) (x:Value)
 |kil (lo hi:Nat)
abbrev Env:=List ph
def ph.fc:ph->Nat->Bool
 | .val s _,t=>wF s t
 | .kil lo hi,t=>xv lo t&&xk t hi
def Env.get:Env->Nat->Option Value
 |[],_=>none
 | .val s x::r,t=>bif wF s t then some x else Env.get r t
 | .kil lo hi::r,t=>bif xv lo t&&xk t hi then none else Env.get r t
def Env.fc:Env->Nat->Bool
 |[],_=>false
 |e::r,t=>e.fc t||Env.fc r t
theorem Env.Ws(e:ph)(r:Env)(t:Nat)(h:e.fc t=false):Env.get (e::r) t=Env.get r t:=by
 cases e<;>simp only[ph.fc]at h<;>simp[Env.get,h]
theorem Env.get_append{δ ρ:Env}{t:Nat}(h:δ.fc t=false):Env.get (δ++ρ) t=Env.get ρ t:=by
 induction δ with
 |nil=>rfl
 |cons e r ih=>
  simp only[Env.fc,yF]at h;rw[zD,Env.Ws _ _ _ h.1,ih h.2]
theorem Env.uZ{δ ρ:Env}{t:Nat}:Env.fc (δ++ρ) t=(δ.fc t||ρ.fc t):=by
 induction δ with
 |nil=>simp[Env.fc]
 |cons e r ih=>simp[Env.fc,ih,Bool.or_assoc]
structure Fits (n:Nat) (a:Act) (ρ:Env):Prop where
 size:a.tmps.size=n
 defers:a.defers=[]
 get:∀t x,ρ.get t=some x->a.tmps[t]?=some x
def Ext(ρ c:Env)(a b:Act):Prop:=∃δ:Env,c=δ++ρ/\∀t,δ.fc t=false->b.tmps[t]?=a.tmps[t]?
theorem Ext.refl(ρ:Env)(a:Act):Ext ρ ρ a a:=⟨[],rfl,λ_ _=>rfl⟩
theorem Ext.trans{ρ f b:Env}{a e c:Act}(h:Ext ρ f a e)(k:Ext f b e c):Ext ρ b a c:=by obtain⟨δ,rfl,h⟩:=h;obtain⟨g,rfl,k⟩:=k;refine⟨g++δ,by simp,λt d=>?_⟩;rw[Env.uZ,yF]at d;rw[k t d.1,h t d.2]
def Env.eval(ρ:Env):Operand->Option Value
 | .tmp t=>ρ.get t
 | .const v=>some v
 | .global g=>some (.pointer (some ⟨g,0,none⟩))
 | .func f=>some (.func (.func f) #[] #[])
theorem Fits.eval{n:Nat}{a:Act}{ρ:Env}(h:Fits n a ρ){x:Operand}{v:Value}(b:ρ.eval x=some v):a.eval x=v:=by
 cases x<;>simp only[Env.eval]at b<;>simp only[Act.eval]
 case tmp t=>have:=h.get t v b;simp[Array.getD_eq_getD_getElem?,this]
 all_goals (injection b)
theorem Fits.put{n:Nat}{a:Act}{ρ:Env}(h:Fits n a ρ){d:Nat}(f:xk d n=true)(v:Value):Fits n (a.put (some d) v) (.val d v::ρ):=by
 have c:d<n:=zE f;refine⟨by simp[Act.put,h.size],h.defers,λt x b=>?_⟩;simp only[Env.get]at b;simp only[Act.put,Array.getElem?_setIfInBounds];cases hb:wF d t with
 |true=>
  rw[hb]at b;have:d=t:=zH hb;subst this;simp at b;simp[h.size,c,b]
 |false=>
  rw[hb]at b;have:d≠t:=λe=>by subst e;simp at hb
  simp only[this,if_false];exact h.get t x b
theorem Ext.put{ρ:Env}{a:Act}{d:Nat}(v u:Value):Ext ρ (.val d u::ρ) a (a.put (some d) v):=by
 refine⟨[.val d u],rfl,λt b=>?_⟩;simp only[Env.fc,ph.fc,y9]at b;have:d≠t:=λe=>by subst e;simp at b
 simp[Act.put,this]
abbrev dC:=List (Nat×Ty)
@[reducible] def dC.den:dC->Type
 |[]=>Unit
 |[s]=>s.2.den
 |s::t::r=>s.2.den×dC.den (t::r)
def dC.vals:(σ:dC)->σ.den->Env->Env
 |[],_,ρ=>ρ
 |[s],x,ρ=>.val s.1 (s.2.enc x)::ρ
 |s::t::r,x,ρ=>.val s.1 (s.2.enc x.1)::dC.vals (t::r) x.2 ρ
def dC.read:(σ:dC)->Env->Option σ.den
 |[],_=>some ()
 |[s],ρ=>match ρ.get s.1 with
  |some v=>s.2.dec v
  |none=>none
 |s::t::r,ρ=>match ρ.get s.1 with
  |some v=>match s.2.dec v with
   |some x=>match dC.read (t::r) ρ with
    |some y=>some (x,y)
    |none=>none
   |none=>none
  |none=>none
def dC.has:dC->Nat->Bool
 |[],_=>false
 |s::r,t=>wF s.1 t||dC.has r t
abbrev dl:=List (Nat×Nat)
def dl.over:dl->Env->Env
 |[],ρ=>ρ
 |(lo,hi)::r,ρ=>.kil lo hi::dl.over r ρ
def dl.has:dl->Nat->Nat->Bool
 |[],_,_=>false
 |(lo,hi)::r,a,b=>(xv lo a&&xv b hi)||dl.has r a b
def within(σ:dC)(κ:dl):Env->Nat->Bool
 |_,0=>true
 |[],_+1=>true
 | .val t _::r,n+1=>(dC.has σ t||dl.has κ t (t+1))&&within σ κ r n
 | .kil lo hi::r,n+1=>dl.has κ lo hi&&within σ κ r n
theorem dl.Wu{κ:dl}{a b:Nat}(h:κ.has a b=true){t:Nat}(e:a<=t)(f:t<b)(ρ:Env):∃δ:Env,κ.over ρ=δ++ρ/\δ.fc t=true:=by
 induction κ with
 |nil=>simp[dl.has]at h
 |cons p r ih=>
  obtain⟨c,d⟩:=p;simp only[dl.has,yu,qC]at h;obtain⟨δ,g⟩:∃δ:Env,dl.over r ρ=δ++ρ:=by
   clear ih h
   induction r with
   |nil=>exact⟨[],rfl⟩
   |cons q r ih=>obtain⟨δ,h⟩:=ih;exact⟨.kil q.1 q.2::δ,by show ph.kil q.1 q.2::dl.over r ρ=_;rw[h];rfl⟩
  rcases h with h|h
  .have l:=zE h.1;have k:=zE h.2;refine⟨.kil c d::δ,by simp[dl.over,g],?_⟩;have i:xv c t=true:=Nat.ble_eq_true_of_le (by omega);have x2:xk t d=true:=by unfold xk;exact Nat.ble_eq_true_of_le (by omega)
   simp[Env.fc,ph.fc,i,x2]
  .obtain⟨j,e,f⟩:=ih h;exact⟨.kil c d::j,by simp[dl.over,e],by simp[Env.fc,f]⟩
theorem dl.KY(κ:dl)(ρ:Env):κ.over ρ=κ.over []++ρ:=by
 induction κ with
 |nil=>rfl
 |cons p r ih=>obtain⟨a,b⟩:=p;simp[dl.over,ih]
theorem dC.Fa:∀(σ:dC) (x:σ.den) (ρ:Env),σ.vals x ρ=σ.vals x []++ρ
 |[],_,ρ=>rfl
 |[s],x,ρ=>rfl
 |s::t::r,x,ρ=>by simp only[dC.vals];rw[dC.Fa (t::r) x.2 ρ];rfl
theorem dC.uw:∀(σ:dC) (x:σ.den) (t:Nat),(σ.vals x []).fc t=σ.has t
 |[],_,_=>rfl
 |[s],x,t=>by simp[dC.vals,Env.fc,ph.fc,dC.has]
 |s::u::r,x,t=>by
  have:=dC.uw (u::r) x.2 t;simp only[dC.vals,Env.fc,ph.fc,this];rfl
theorem dC.KZ:∀(σ:dC) (x:σ.den) (e:Env) (t:Nat),σ.has t=true->((σ.vals x [])++e).get t=(σ.vals x []).get t
 |[],_,_,_,h=>by cases h
 |[s],x,e,t,h=>by
  simp only[dC.has,y9]at h;simp[dC.vals,Env.get,h]
 |s::u::r,x,e,t,h=>by
  simp only[dC.vals,zD,Env.get];cases hb:wF s.1 t with
  |true=>rfl
  |false=>
   have h':dC.has (u::r) t=true:=by have a:(wF s.1 t||dC.has (u::r) t)=true:=h;rw[hb]at a;exact a
   simpa using dC.KZ (u::r) x.2 e t h'
theorem dl.IV{κ:dl}{a b t:Nat}(h:κ.has a b=true)(c:a<=t)(f:t<b):(κ.over []).fc t=true:=by obtain⟨δ,d,e⟩:=dl.Wu h c f [];rw[d];simpa using e
theorem pi{σ:dC}{κ:dl}:∀{δ ρ:Env},within σ κ (δ++ρ) δ.length=true->∀t,σ.has t=false->(κ.over []).fc t=false->δ.fc t=false
 |[],_,_,_,_,_=>rfl
 | .val s x::r,ρ,h,t,h1,h2=>by
  simp only[zD,q7,within,qC,yu]at h;simp only[Env.fc,ph.fc,yF];refine⟨?_,pi h.2 t h1 h2⟩;cases hb:wF s t with
  |false=>rfl
  |true=>
   have:s=t:=zH hb;subst this;rcases h.1 with h|h
   .rw[h]at h1;cases h1
   .rw[dl.IV h (qj _) (Nat.lt_succ_self _)]at h2;cases h2
 | .kil lo hi::r,ρ,h,t,h1,h2=>by
  simp only[zD,q7,within,qC]at h;simp only[Env.fc,ph.fc,yF];refine⟨?_,pi h.2 t h1 h2⟩;cases hb:(xv lo t&&xk t hi)with
  |false=>rfl
  |true=>
   simp only[qC]at hb;have b:=zE hb.1;have a:t<hi:=zE hb.2;rw[dl.IV h.1 b a]at h2;cases h2
theorem dC.La:∀{σ:dC} {ρ:Env} {x:σ.den} {t:Nat} {v:Value},σ.read ρ=some x->(σ.vals x []).get t=some v->ρ.get t=some v∨False
 |[],_,_,_,_,_,h=>by simp[dC.vals,Env.get]at h
 |[s],ρ,x,t,v,h,hv=>by
  simp only[dC.read]at h;split at h
  .rename_i u d;simp only[dC.vals,Env.get]at hv;cases hb:wF s.1 t with
   |true=>
    rw[hb]at hv;have:=zH hb;simp at hv;subst hv;rw[<-Ty.pf h,<-this];exact .inl d
   |false=>rw[hb]at hv;simp at hv
  .cases h
 |s::u::r,ρ,x,t,v,h,hv=>by
  simp only[dC.read]at h;split at h
  .rename_i z c;split at h
   .rename_i y a;split at h
    .rename_i w b;cases h;simp only[dC.vals,Env.get]at hv;cases hb:wF s.1 t with
     |true=>
      rw[hb]at hv;have:=zH hb;simp at hv;subst hv;rw[<-Ty.pf a,<-this];exact .inl c
     |false=>
      rw[hb]at hv;exact dC.La (σ:=u::r) b hv
    .cases h
   .cases h
  .cases h
theorem Fits.pj{n:Nat}{a d:Act}{σ:dC}{κ:dl}{ρ g:Env}{x:σ.den}(l:Fits n a ρ)(h:Fits n d g)
  (b:∀t,σ.has t=false->(κ.over []).fc t=false->d.tmps[t]?=a.tmps[t]?) (i:σ.read g=some x):
  Fits n d (σ.vals x (κ.over ρ))/\Ext ρ (σ.vals x (κ.over ρ)) a d:=by
 rw[dC.Fa,dl.KY];refine⟨⟨h.size,h.defers,λt v c=>?_⟩,⟨σ.vals x []++κ.over [],by simp,λt f=>?_⟩⟩
 .cases h1:σ.has t with
  |true=>
   have:∀(e:Env),((σ.vals x [])++e).get t=(σ.vals x []).get t:=λe=>dC.KZ σ x e t h1;rw[this]at c;rcases dC.La i c with h2|h2
   .exact h.get t v h2
   .exact h2.elim
  |false=>
   rw[Env.get_append (by rw[dC.uw];exact h1)]at c;cases h2:(κ.over []).fc t with
   |true=>
    have:∀(e:Env),((κ.over [])++e).get t=none:=by
     intro e;clear b c
     induction κ with
     |nil=>simp[dl.over,Env.fc]at h2
     |cons p r ih=>
      obtain⟨k,j⟩:=p;simp only[dl.over,Env.fc,ph.fc]at h2;simp only[dl.over,zD,Env.get];cases hb:(xv k t&&xk t j)with
      |true=>rfl
      |false=>rw[hb]at h2;simp at h2;simpa using ih h2
    rw[this]at c;cases c
   |false=>
    rw[Env.get_append h2]at c;rw[b t h1 h2];exact l.get t v c
 .rw[Env.uZ,yF,dC.uw]at f;exact b t f.1 f.2
theorem Ext.within{a e:Act}{σ:dC}{κ:dl}{ρ c:Env}(h:Ext ρ c a e)(d:within σ κ c (c.length-ρ.length)=true):
  ∀t,σ.has t=false->(κ.over []).fc t=false->e.tmps[t]?=a.tmps[t]?:=by
 obtain⟨δ,rfl,f⟩:=h;have b:(δ++ρ).length-ρ.length=δ.length:=by simp
 rw[b]at d;exactλt g i=>f t (pi d t g i)
theorem Ext.pj{a b:Act}{σ:dC}{κ:dl}{ρ:Env}{x:σ.den}(f:Ext ρ (σ.vals x (κ.over ρ)) a b):
  ∀t,σ.has t=false->(κ.over []).fc t=false->b.tmps[t]?=a.tmps[t]?:=by
 obtain⟨δ,c,d⟩:=f;rw[dC.Fa,dl.KY,<-List.append_assoc]at c;have:=List.append_cancel_right c;subst this;exactλt e g=>d t (by rw[Env.uZ,dC.uw,e,g];rfl)
inductive mY where
 |int (k:IntKind)|bool|str|flt|cpx|mp|fn|other
 |slice (e:TypeId)|array (n:Nat) (e:TypeId)|struct (fs:List (Nat×TypeId))|ptr (e:TypeId)
def iY:Option TypeDesc->mY
 |some (.int k)=>.int k
 |some .bool=>.bool
 |some .string=>.str
 |some (.float _)=>.flt
 |some (.complex _)=>.cpx
 |some (.map ..)=>.mp
 |some (.func ..)=>.fn
 |some (.slice e)=>.slice e
 |some (.array n e)=>.array n e
 |some (.struct fs)=>.struct (fs.toList.map λf=>(f.offset,f.type))
 |some (.pointer e)=>.ptr e
 |_=>.other
structure TI where
 cm:mY
 ty:Ty
 size:Nat
 bytes:Nat
 zero:List Value
abbrev ki:=List TI
def ki.seen(P:Program)(t:TypeId):mY×Option (Nat×Nat×Option (List Value)):=
 (iY (P.underlying t),(P.info? t).map λi=>(i.size,i.bytes,i.zero.map (·.cells.toList)))
def ki.told(i:TI):mY×Option (Nat×Nat×Option (List Value)):=(i.cm,some (i.size,i.bytes,some i.zero))
def ki.get:ki->Nat->Option TI
 |[],_=>none
 |i::_,0=>some i
 |_::r,t+1=>ki.get r t
structure Ag where
 P:Program
 T:ki
structure Ag.Ok (C:Ag):Prop where
 Qb:(List.range C.T.length).map (ki.seen C.P)=C.T.map ki.told
 mixed:C.P.follows .mixedOrders=true
theorem ki.get_eq:∀(T:ki) (t:Nat),T.get t=T[t]?
 |[],_=>rfl
 |_::_,0=>rfl
 |_::r,t+1=>by simp[ki.get,ki.get_eq r t]
theorem Ag.Ok.at{C:Ag}(h:C.Ok){t:Nat}{i:TI}(a:C.T.get t=some i):ki.seen C.P t=ki.told i:=by
 rw[ki.get_eq]at a;have:=congrArg (·[t]?) h.Qb
 grind
def Br(b:Bool)(A B:Prop):Prop:=match b with
 |true=>A
 |false=>B
inductive PV:Type 1 where
 |no
 |val (v:Value)
 |cond (c:Prop) (v:Value)
 |ex (X:Type) (c:X->Prop) (v:X->Value)
 |br (b:Bool) (x y:Value)
def PV.holds(p:PV)(K:Value->Prop):Prop:=match p with
 | .no=>False
 | .val v=>K v
 | .cond c v=>c/\K v
 | .ex _ c v=>∃x,c x/\K (v x)
 | .br b x y=>Br b (K x) (K y)
def rn(P:Program)(s:Sem Next)(v:Value):Prop:=∀w,s.run P w=.ok (.value v) w
def aL{α:Type}(P:Program)(s:Sem α)(v:α):Prop:=∀w,s.run P w=.ok v w
def kj(P:Program)(op:BinOp)(t:TypeId)(x y:Operand)(a b r:Value):Prop:=aL P (do eqGuard op t x y a b;binOp op t a b) r
def Yy:Operand->Bool
 | .tmp _=>true
 |_=>false
def Wv(P:Program)(t:TypeId)(x y:Operand)(d:Option mY)(op:BinOp):Value->Value->PV
 | .int k a,.int k' b=>
  match op with
  | .shl=>.cond (0<=b) (.int k (k.wrap (a*2^min b.toNat k.bits)))
  | .shr=>.cond (0<=b) (.int k (a.fdiv (2^min b.toNat k.bits)))
  |_=>bif Af k k' then
   match op with
   | .add=>.val (.int k (k.wrap (a+b)))
   | .sub=>.val (.int k (k.wrap (a-b)))
   | .mul=>.val (.int k (k.wrap (a*b)))
   | .quo=>.cond (b≠0) (.int k (k.wrap (a.tdiv b)))
   | .rem=>.cond (b≠0) (.int k (a.tmod b))
   | .and=>.val (.int k (k.wrap (qG k.bits a&&&qG k.bits b).toNat))
   | .or=>.val (.int k (k.wrap (qG k.bits a|||qG k.bits b).toNat))
   | .xor=>.val (.int k (k.wrap (qG k.bits a^^^qG k.bits b).toNat))
   | .andNot=>.val (.int k (k.wrap (qG k.bits a&&&~~~qG k.bits b).toNat))
   | .eql=>.val (.bool (a==b))
   | .neq=>.val (.bool (a !=b))
   | .lss=>.val (.bool (decide (a<b)))
   | .leq=>.val (.bool (decide (a<=b)))
   | .gtr=>.val (.bool (decide (a>b)))
   | .geq=>.val (.bool (decide (a>=b)))
   |_=>.no
  else .no
 | .float k a,.float k' b=>bif BZ k k' then
   match op with
   | .add=>.ex Nat (λr=>k.format.add a b=some r) (λr=>.float k r)
   | .sub=>.ex Nat (λr=>k.format.sub a b=some r) (λr=>.float k r)
   | .mul=>.ex Nat (λr=>k.format.mul a b=some r) (λr=>.float k r)
   | .quo=>.ex Nat (λr=>k.format.div a b=some r) (λr=>.float k r)
   | .eql=>.val (.bool (k.format.order a b==some .eq))
   | .neq=>.val (.bool (k.format.order a b !=some .eq))
   | .lss=>.val (.bool (k.format.order a b==some .lt))
   | .gtr=>.val (.bool (k.format.order a b==some .gt))
   |_=>.no
  else .no
 | .string a,.string b=>
  match op with
  | .eql=>.val (.bool (a.toList==b.toList))
  | .neq=>.val (.bool (!(a.toList==b.toList)))
  | .lss=>.val (.bool (Op.bytesLess a.toList b.toList))
  | .leq=>.val (.bool (Op.bytesLess a.toList b.toList||a.toList==b.toList))
  | .gtr=>.val (.bool (!(Op.bytesLess a.toList b.toList||a.toList==b.toList)))
  | .geq=>.val (.bool (!(Op.bytesLess a.toList b.toList)))
  | .add=>.cond (((a.size+b.size:Nat):Int)<=xN.max) (.string (a++b))
  |_=>.no
 | .bool a,.bool b=>
  match d with
  |some .bool=>match op with
   | .eql=>.val (.bool (a==b))
   | .neq=>.val (.bool (!(a==b)))
   |_=>.no
  |_=>.no
 | .pointer a,.pointer b=>bif Yy y then .ex Bool (λr=>kj P op t x y (.pointer a) (.pointer b) (.bool r)) (λr=>.bool r)else
  match b with
  |none=>match d with
   |some (.ptr _)=>match op with
    | .eql=>.val (.bool a.isNone)
    | .neq=>.val (.bool (!a.isNone))
    |_=>.no
   |_=>.no
  |some _=>.no
 | .slice a _ _,.slice none _ _=>
  match d with
  |some (.slice _)=>match op with
   | .eql=>.val (.bool a.isNone)
   | .neq=>.val (.bool (!a.isNone))
   |_=>.no
  |_=>.no
 | .agg a,.agg b=>.ex Bool (λr=>kj P op t x y (.agg a) (.agg b) (.bool r)) (λr=>.bool r)
 | .complex k a b,.complex k' c e=>
  match op with
  | .eql| .neq=>.ex Bool (λr=>kj P op t x y (.complex k a b) (.complex k' c e) (.bool r)) (λr=>.bool r)
  |_=>.ex (Nat×Nat) (λr=>kj P op t x y (.complex k a b) (.complex k' c e) (.complex k r.1 r.2)) (λr=>.complex k r.1 r.2)
 |_,_=>.no
def Ww(P:Program)(t:TypeId)(x y:Operand)(d:Option mY)(op:BinOp)(a:Value):Value->PV
 | .nilIface=>.ex Bool (λr=>kj P op t x y a .nilIface (.bool r)) (λr=>.bool r)
 |b=>Wv P t x y d op a b
def unV(op:UnOp):Value->PV
 | .bool b=>match op with
  | .not=>.val (.bool !b)
  |_=>.no
 | .int k n=>match op with
  | .neg=>.val (.int k (k.wrap (0-n)))
  | .xor=>.val (.int k (k.wrap (qG k.bits (if k.signed then-1 else k.max)^^^qG k.bits n).toNat))
  |_=>.no
 |_=>.no
def oY(ev:Operand->Option Value):List Operand->Option (List Value)
 |[]=>some []
 |x::r=>match ev x with
  |some v=>match oY ev r with
   |some vs=>some (v::vs)
   |none=>none
  |none=>none
def Cc(ev:Operand->Option Value):List (Nat×Operand)->Option (List (Nat×Value))
 |[]=>some []
 |(n,x)::r=>match ev x with
  |some v=>match Cc ev r with
   |some vs=>some ((n,v)::vs)
   |none=>none
  |none=>none
def placesOf(T:ki):List (Nat×TypeId)->Option (List (Nat×Nat))
 |[]=>some []
 |(off,t)::r=>match T.get t with
  |some j=>match placesOf T r with
   |some ps=>some ((off,j.size)::ps)
   |none=>none
  |none=>none
def Ga(ev:Operand->Option Value):Option Operand->Option (Option Int)
 |none=>some none
 |some x=>match ev x with
  |some (.int _ n)=>some (some n)
  |_=>none
def aaJ(d:Option mY):Value->PV
 | .slice _ n _=>match d with
  |some (.slice _)=>.val (.int .i64 n)
  |_=>.no
 | .string s=>match d with
  |some .str=>.val (.int .i64 s.size)
  |_=>.no
 |_=>.no
def aaK(d:Option mY):Value->PV
 | .slice _ _ n=>match d with
  |some (.slice _)=>.val (.int .i64 n)
  |_=>.no
 |_=>.no
def Yz(d:Option mY):Value->PV
 | .int _ n=>match d with
  |some (.int k)=>.val (.int k (k.wrap n))
  |_=>.no
 |_=>.no
def Ah(P:Program)(T:ki)(op:Op)(ev:Operand->Option Value):PV:=
 match op with
 | .move x| .assign x=>match ev x with
  |some v=>.val v
  |none=>.no
 | .pick c a b=>match ev c,ev a,ev b with
  |some (.bool t),some x,some y=>.br t x y
  |_,_,_=>.no
 | .nilCheck x=>match ev x with
  |some (.pointer p)=>.ex Addr (λa=>p=some a) (λa=>.pointer (some a))
  |_=>.no
 | .fieldAddr s x f=>match ev x with
  |some (.pointer (some a))=>match T.get s with
   |some i=>match i.cm with
    | .struct fs=>match fs[f]? with
     |some (off,t)=>match T.get t with
      |some j=>bif wF j.size 0 then .no else .val (.pointer (some (a.add off)))
      |none=>.no
     |none=>.no
    |_=>.no
   |none=>.no
  |_=>.no
 | .indexAddr t x ix=>match ev ix with
  |some (.int _ n)=>match ev x with
   |some (.slice p len _)=>match T.get t with
    |some i=>match i.cm with
     | .slice e=>match T.get e with
      |some j=>.ex Addr (λa=>p=some a/\0<=n/\n<(len:Int)) (λa=>.pointer (some (a.add (n.toNat*j.size))))
      |none=>.no
     |_=>.no
    |none=>.no
   |some (.pointer (some a))=>match T.get t with
    |some i=>match i.cm with
     | .array m e=>match T.get e with
      |some j=>.cond (0<=n/\n<(m:Int)) (.pointer (some (a.add (n.toNat*j.size))))
      |none=>.no
     |_=>.no
    |none=>.no
   |_=>.no
  |_=>.no
 | .index t x ix=>match ev ix with
  |some (.int _ n)=>match ev x with
   |some (.string s)=>match T.get t with
    |some i=>match i.cm with
     | .str=>.ex UInt8 (λb=>0<=n/\s.data[n.toNat]?=some b) (λb=>.int .u8 b.toNat)
     |_=>.no
    |none=>.no
   |some (.agg cs)=>match T.get t with
    |some i=>match i.cm with
     | .array m e=>match T.get e with
      |some j=>match j.ty with
       | .sc s=>match j.cm with
        | .struct _=>.no
        | .array _ _=>.no
        | .other=>.no
        |_=>bif wF j.size 1 then .ex s.den (λy=>0<=n/\n<(m:Int)/\cs[n.toNat]?=some (s.enc y)) (λy=>s.enc y)else .no
       |_=>.no
      |none=>.no
     |_=>.no
    |none=>.no
   |_=>.no
  |_=>.no
 | .field s x f=>match ev x with
  |some (.agg ⟨cs⟩)=>match T.get s with
   |some i=>match i.cm with
    | .struct fs=>match fs[f]? with
     |some (off,t)=>match T.get t with
      |some j=>match j.cm with
       | .struct _=>.val (.agg ((cs.drop off).take j.size).toArray)
       | .array _ _=>.val (.agg ((cs.drop off).take j.size).toArray)
       | .other=>.no
       |_=>match cs[off]? with
        |some v=>.val v
        |none=>.no
      |none=>.no
     |none=>.no
    |_=>.no
   |none=>.no
  |_=>.no
 | .slice t x lo hi mx=>match mx with
  |some _=>.no
  |none=>match Ga ev lo,Ga ev hi with
   |some l,some r=>match ev x with
    |some (.slice p len cap)=>match T.get t with
     |some i=>match i.cm with
      | .slice e=>match T.get e with
       |some j=>match l,r with
        |none,none=>.val (.slice p len cap)
        |none,some r=>.cond (0<=r/\r<=(cap:Int)) (.slice p r.toNat cap)
        |some l,none=>.cond (0<=l/\l<=(len:Int)) (.slice (if cap=l.toNat then p else p.map (·.add (l.toNat*j.size))) (len-l.toNat) (cap-l.toNat))
        |some l,some r=>.cond (0<=l/\l<=r/\r<=(cap:Int)) (.slice (if cap=l.toNat then p else p.map (·.add (l.toNat*j.size))) (r.toNat-l.toNat) (cap-l.toNat))
       |none=>.no
      |_=>.no
     |none=>.no
    |some (.string s)=>match T.get t with
     |some i=>match i.cm with
      | .str=>match l,r with
       |none,none=>.val (.string (s.extract 0 s.size))
       |none,some r=>.cond (0<=r/\r<=(s.size:Int)) (.string (s.extract 0 r.toNat))
       |some l,none=>.cond (0<=l/\l<=(s.size:Int)) (.string (s.extract l.toNat s.size))
       |some l,some r=>.cond (0<=l/\l<=r/\r<=(s.size:Int)) (.string (s.extract l.toNat r.toNat))
      |_=>.no
     |none=>.no
    |some (.pointer (some a))=>match T.get t with
     |some i=>match i.cm with
      | .array n e=>match T.get e with
       |some j=>match l,r with
        |none,none=>.val (.slice (some a) n n)
        |none,some r=>.cond (0<=r/\r<=(n:Int)) (.slice (some a) r.toNat n)
        |some l,none=>.cond (0<=l/\l<=(n:Int)) (.slice (some (if n=l.toNat then a else a.add (l.toNat*j.size))) (n-l.toNat) (n-l.toNat))
        |some l,some r=>.cond (0<=l/\l<=r/\r<=(n:Int)) (.slice (some (if n=l.toNat then a else a.add (l.toNat*j.size))) (r.toNat-l.toNat) (n-l.toNat))
       |none=>.no
      |_=>.no
     |none=>.no
    |_=>.no
   |_,_=>.no
 | .extract x n=>match ev x with
  |some (.tuple ⟨vs⟩)=>match vs[n]? with
   |some v=>.val v
   |none=>.no
  |_=>.no
 | .binOp op t x y _=>match ev x,ev y with
  |some a,some b=>Ww P t x y ((T.get t).map (·.cm)) op a b
  |_,_=>.no
 | .unOp op _ x=>match ev x with
  |some v=>unV op v
  |none=>.no
 | .convert src dst x=>match ev x,(T.get src).map TI.cm with
  |some v,some (mY.int _)=>Yz ((T.get dst).map (·.cm)) v
  |_,_=>.no
 | .build t parts=>match Cc ev parts.toList with
  |some vs=>match T.get t with
   |some i=>bif xk 24 i.size then .ex Value (λv=>aL P (xo t vs.toArray) v) (λv=>v)else match i.cm with
    | .struct fs=>match placesOf T fs with
     |some ps=>match wv (λn=>ps[n]?) i.zero.toArray vs with
      |some cells=>.val (.agg cells)
      |none=>.no
     |none=>.no
    | .array _ e=>match T.get e with
     |some j=>match wv (λn=>some (n*j.size,j.size)) i.zero.toArray vs with
      |some cells=>.val (.agg cells)
      |none=>.no
     |none=>.no
    |_=>.no
   |none=>.no
  |none=>.no
 | .makeFunc fn first captured=>match oY ev first.toList,oY ev captured.toList with
  |some a,some b=>.val (.func fn a.toArray b.toArray)
  |_,_=>.no
 | .call c=>match c.callee with
  | .builtin b=>match b with
   | .len=>match c.argTypes.toList,c.args.toList with
    |t::_,[x]=>match ev x with
     |some v=>aaJ ((T.get t).map (·.cm)) v
     |none=>.no
    |_,_=>.no
   | .cap=>match c.argTypes.toList,c.args.toList with
    |t::_,[x]=>match ev x with
     |some v=>aaK ((T.get t).map (·.cm)) v
     |none=>.no
    |_,_=>.no
   | .min=>match oY ev c.args.toList with
    |some [.int k a,.int _ b]=>.val (.int k (if b<a then b else a))
    |_=>.no
   | .max=>match oY ev c.args.toList with
    |some [.int k a,.int _ b]=>.val (.int k (if b>a then b else a))
    |_=>.no
   | .real=>match oY ev c.args.toList with
    |some [.complex k a _]=>.val (.float k a)
    |_=>.no
   | .imag=>match oY ev c.args.toList with
    |some [.complex k _ b]=>.val (.float k b)
    |_=>.no
   |_=>.no
  |_=>.no
 |_=>.no
theorem aL.next{P:Program}{s:Sem Value}{v:Value}(h:aL P s v):rn P (do pure (.value (<-s))) v:=λw=>by
 rw[Sem.run_bind,h w];rfl
theorem aL.pure{α:Type}{P:Program}{v:α}:aL P (pure v) v:=λ_=>rfl
theorem aL.bind{α β:Type}{P:Program}{s:Sem α}{f:α->Sem β}{v:α}{u:β}(h:aL P s v)(k:aL P (f v) u):aL P (s>>=f) u:=λw=>by
 rw[Sem.run_bind,h w];exact k w
theorem DJ{d:Option TypeDesc}{k:IntKind}(h:iY d=.int k):d=some (.int k):=by unfold iY at h;grind
theorem Wx{d:Option TypeDesc}(h:iY d=.bool):d=some .bool:=by unfold iY at h;grind
theorem sP{d:Option TypeDesc}(h:iY d=.str):d=some .string:=by unfold iY at h;grind
theorem il{d:Option TypeDesc}{e:TypeId}(h:iY d=.slice e):d=some (.slice e):=by unfold iY at h;grind
theorem ro{d:Option TypeDesc}{n:Nat}{e:TypeId}(h:iY d=.array n e):d=some (.array n e):=by unfold iY at h;grind
theorem ZJ{d:Option TypeDesc}{e:TypeId}(h:iY d=.ptr e):d=some (.pointer e):=by unfold iY at h;grind
theorem ot{d:Option TypeDesc}{b:List (Nat×TypeId)}(h:iY d=.struct b):∃a,d=some (.struct a)/\b=a.toList.map λf=>(f.offset,f.type):=by unfold iY at h;grind
variable {t:TypeId} {i:TI}
section
variable {C:Ag}
theorem Ag.Ok.cm(h:C.Ok)(a:C.T.get t=some i):iY (C.P.underlying t)=i.cm:=congrArg Prod.fst (h.at a)
theorem Ag.Ok.info(h:C.Ok)(a:C.T.get t=some i):∃f,C.P.info? t=some f/\f.size=i.size/\f.bytes=i.bytes/\∃z,f.zero=some z/\z.cells.toList=i.zero:=by
 have:=congrArg Prod.snd (h.at a);simp only[ki.seen,ki.told]at this;cases hf:C.P.info? t with
 |none=>grind
 |some f=>
  cases hz:f.zero with
  |none=>grind
  |some z=>grind
theorem aK{P:Program}{t:TypeId}{d:TypeDesc}(h:P.underlying t=some d):aL P (underlying t) d:=λw=>by
 simp[underlying,h]
theorem cA{P:Program}{t:TypeId}{d:TypeInfo}(h:P.info? t=some d):aL P (typeInfo t) d:=λw=>by
 simp[typeInfo,h]
theorem ey(h:C.Ok)(c:C.T.get t=some i):aL C.P (sizeOf t) i.size:=by obtain⟨f,a,b,_⟩:=h.info c;rw[<-b];exact(cA a).bind .pure
theorem pU(h:C.Ok)(d:C.T.get t=some i):∃z,aL C.P (zeroValue t) z/\z.cells.toList=i.zero:=by obtain⟨f,b,_,_,z,c,a⟩:=h.info d;refine⟨z,(cA b).bind ?_,a⟩;rw[c];exact .pure
theorem kU(h:C.Ok)(f:C.T.get t=some i):(∀b,i.cm=.struct b->aL C.P (isAgg t) true)/\(∀n e,i.cm=.array n e->aL C.P (isAgg t) true)/\
  ((∀b,i.cm≠.struct b)->(∀n e,i.cm≠.array n e)->i.cm≠.other->aL C.P (isAgg t) false):=by
 have a:=h.cm f;refine⟨λb c=>?_,λn e c=>?_,λk l h3=>?_⟩
 .rw[c]at a;obtain⟨j,g,_⟩:=ot a;exact(aK g).bind .pure
 .rw[c]at a;exact(aK (ro a)).bind .pure
 .cases hu:C.P.underlying t with
  |none=>rw[hu]at a;exact absurd a.symm h3
  |some d=>
   refine(aK hu).bind ?_;cases d<;>first|exact .pure|(simp only[iY]at a;grind)
end
theorem AK{ev:Operand->Option Value}{e:Operand->Value}(a:∀x v,ev x=some v->e x=v):∀{l:List Operand} {vs:List Value},oY ev l=some vs->l.map e=vs:=by
 intro l
 induction l with
 |nil=>intro vs h;cases h;rfl
 |cons x r ih=>
  intro vs h;simp only[oY]at h
  grind
theorem EB{ev:Operand->Option Value}{e:Operand->Value}(a:∀x v,ev x=some v->e x=v):∀{l:List (Nat×Operand)} {vs:List (Nat×Value)},Cc ev l=some vs->l.map (λp=>(p.1,e p.2))=vs:=by
 intro l
 induction l with
 |nil=>intro vs h;cases h;rfl
 |cons x r ih=>
  intro vs h;simp only[Cc]at h
  grind
theorem Fb(t:TypeId)(x y:Value):Op.equal t x y=Op.equalIn (9999+1) t x y:=rfl
theorem ZK{t:TypeId}(c:P.underlying t=some .bool)(d:Nat)(a b:Bool):aL P (Op.equalIn (d+1) t (.bool a) (.bool b)) (a==b):=λw=>by
 simp[Op.equalIn,underlying,c]
theorem aaL{t e:TypeId}(b:P.underlying t=some (.pointer e))(d:Nat)(a:Option Addr):aL P (Op.equalIn (d+1) t (.pointer a) (.pointer none)) a.isNone:=λw=>by
 cases a<;>simp[Op.equalIn,underlying,b]
theorem Wy{t e:TypeId}(g:P.underlying t=some (.slice e))(d:Nat)(a:Option Addr)(l c b f:Nat):aL P (Op.equalIn (d+1) t (.slice a l c) (.slice none b f)) a.isNone:=λw=>by
 cases a<;>simp[Op.equalIn,underlying,g]
theorem QD{t:TypeId}{d:Option mY}{op:BinOp}{a b:Value}{x y:Operand}{K:Value->Prop}(o:∀q,d=some q->iY (P.underlying t)=q)
  (h:(Wv P t x y d op a b).holds K):∃v,aL P (do eqGuard op t x y a b;binOp op t a b) v/\K v:=by
 have j:∀{a b:Value},¬(a=.nilIface/\b=.nilIface)->(∀u v,¬(a=.agg u/\b=.agg v))->aL P (eqGuard op t x y a b) ():=by
  intro a b i f w;simp only[eqGuard];cases op<;>simp only[Bool.not_true,Bool.not_false,zc,if_true,if_false]<;>
   first
    |rfl
    |(split<;>first|exact absurd ⟨rfl,rfl⟩ i|exact absurd ⟨rfl,rfl⟩ (f _ _)|rfl)
 unfold Wv at h;split at h
 .rename_i k a m b;have g:=j (a:=.int k a) (b:=.int m b) (by simp) (by simp);cases op<;>simp only at h
  case shl=>exact⟨_,g.bind λw=>by simp only[binOp,Op.shift];rw[if_neg (by have:=h.1;omega)];rfl,h.2⟩
  case shr=>exact⟨_,g.bind λw=>by simp only[binOp,Op.shift];rw[if_neg (by have:=h.1;omega)];rfl,h.2⟩
  all_goals
   cases hk:Af k m with
   |false=>rw[hk]at h;simp[PV.holds]at h
   |true=>
    rw[hk]at h;simp only[cond_true,PV.holds]at h;have e:=Ez hk;subst e
    first
     |exact⟨_,g.bind λw=>by simp[binOp,Op.intArith,Op.intBits,Op.intCmp],h⟩
     |exact⟨_,g.bind λw=>by simp[binOp,Op.intDiv,h.1],h.2⟩
     |exact h.elim
 .rename_i k a m b;have g:=j (a:=.float k a) (b:=.float m b) (by simp) (by simp);cases hk:BZ k m with
  |false=>rw[hk]at h;simp[PV.holds]at h
  |true=>
   rw[hk]at h;have e:=Cb hk;subst e;cases op<;>simp only[cond_true,PV.holds]at h<;>
    first
     |(obtain⟨r,i,f⟩:=h;exact⟨_,g.bind λw=>by simp[binOp,Op.floatArith,i],f⟩)
     |exact⟨_,g.bind λw=>by simp[binOp,Op.floatCmp],h⟩
     |exact h.elim
 .rename_i a b;have g:=j (a:=.string a) (b:=.string b) (by simp) (by simp);cases op<;>simp only[PV.holds]at h<;>
   first
    |exact⟨_,g.bind λw=>by simp[binOp,Op.stringOp],h⟩
    |exact⟨_,g.bind λw=>by simp only[binOp,Op.stringOp];rw[if_neg (by have:=h.1;omega)];rfl,h.2⟩
    |exact h.elim
 .rename_i a b;have g:=j (a:=.bool a) (b:=.bool b) (by simp) (by simp);split at h
  .have n:=Wx (o _ rfl);cases op<;>simp only[PV.holds]at h<;>
    first
     |exact⟨_,g.bind (by simp only[binOp,Fb];exact(ZK n _ a b).bind .pure),h⟩
     |exact h.elim
  .exact h.elim
 .rename_i a b;cases hy:Yy y with
  |true=>
   rw[hy]at h;obtain⟨r,i,f⟩:=h;exact⟨_,i,f⟩
  |false=>
   rw[hy]at h;cases b with
   |some _=>exact h.elim
   |none=>
    have g:=j (a:=.pointer a) (b:=.pointer none) (by simp) (by simp);simp only[cond_false]at h;split at h
    .rename_i e;have n:=ZJ (o _ rfl);cases op<;>simp only[PV.holds]at h<;>
      first
       |exact⟨_,g.bind (by simp only[binOp,Fb];exact(aaL n _ a).bind .pure),h⟩
       |exact h.elim
    .exact h.elim
 .rename_i a l c p s;have g:=j (a:=.slice a l c) (b:=.slice none p s) (by simp) (by simp);split at h
  .rename_i e;have n:=il (o _ rfl);cases op<;>simp only[PV.holds]at h<;>
    first
     |exact⟨_,g.bind (by simp only[binOp,Fb];exact(Wy n _ a l c p s).bind .pure),h⟩
     |exact h.elim
  .exact h.elim
 .obtain⟨r,i,f⟩:=h;exact⟨_,i,f⟩
 .split at h
  .obtain⟨r,i,f⟩:=h;exact⟨_,i,f⟩
  .obtain⟨r,i,f⟩:=h;exact⟨_,i,f⟩
  .obtain⟨r,i,f⟩:=h;exact⟨_,i,f⟩
 .exact h.elim
theorem QE{t:TypeId}{d:Option mY}{op:BinOp}{a b:Value}{x y:Operand}{K:Value->Prop}(e:∀q,d=some q->iY (P.underlying t)=q)
  (h:(Ww P t x y d op a b).holds K):∃v,aL P (do eqGuard op t x y a b;binOp op t a b) v/\K v:=by
 unfold Ww at h;split at h
 .obtain⟨r,c,f⟩:=h;exact⟨_,c,f⟩
 .exact QD e h
theorem Lb(a:List Value)(off n:Nat):((a.drop off).take n).toArray=(a.toArray).extract off (off+n):=by simp
variable {e:Operand->Value}
section
variable {C:Ag} {ev:Operand->Option Value}
theorem ta(c:C.Ok):∀{b:List Field} {a:List (Nat×Nat)},placesOf C.T (b.map λf=>(f.offset,f.type))=some a->
  aL C.P (b.mapM λf=>(do pure (f.offset,<-sizeOf f.type))) a
 |[],a,h=>by cases h;exact .pure
 |f::r,a,h=>by
  simp only[List.map_cons,placesOf]at h;split at h
  .rename_i j e;split at h
   .rename_i g d;cases h;rw[List.mapM_cons];exact aL.bind ((ey c e).bind .pure) ((ta c d).bind .pure)
   grind
  grind
theorem EC(g:C.Ok){t:TypeId}{j:TI}(h:C.T.get t=some j)(c:∀d,j.cm≠.struct d)(f:∀n e,j.cm≠.array n e)(h3:j.cm≠.other)
  {a:Array Value} {off:Nat} {v:Value} (b:a[off]?=some v):aL C.P (part t a off) v:=by
 refine((kU g h).2.2 c f h3).bind ?_;rw[b];exact .pure
theorem Lc(b:C.Ok){t:TypeId}{j:TI}(c:C.T.get t=some j)(h:(∃a,j.cm=.struct a)∨∃n e,j.cm=.array n e)
  {d:Array Value} {off:Nat}:aL C.P (part t d off) (.agg (d.extract off (off+j.size))):=by
 have f:aL C.P (isAgg t) true:=by
  rcases h with⟨a,h⟩|⟨n,e,h⟩
  .exact(kU b c).1 a h
  .exact(kU b c).2.1 n e h
 exact f.bind ((ey b c).bind .pure)
theorem Gb(I:C.Ok)(G:∀x v,ev x=some v->e x=v){o:Oper}{K:Value->Prop}(h:(Ah C.P C.T o.op ev).holds K):
  ∃v,rn C.P (execOp e o) v/\K v:=by
 have M:∀t q,(C.T.get t).map (·.cm)=some q->iY (C.P.underlying t)=q:=λt q h=>by
  cases F:C.T.get t with
  |none=>rw[F]at h;cases h
  |some i=>rw[F]at h;cases h;exact I.cm F
 cases hop:o.op<;>rw[hop]at h<;>simp only[Ah]at h<;>simp only[execOp,hop]
 case move x=>
  split at h
  .rename_i v A;rw[G _ _ A];exact⟨v,λ_=>rfl,h⟩
  .exact h.elim
 case assign x=>
  split at h
  .rename_i v A;rw[G _ _ A];exact⟨v,λ_=>rfl,h⟩
  .exact h.elim
 case pick c a b=>
  split at h
  .rename_i t x y N h2 h3;rw[G _ _ N,G _ _ h2,G _ _ h3];cases t
   .exact⟨y,λ_=>rfl,h⟩
   .exact⟨x,λ_=>rfl,h⟩
  .exact h.elim
 case nilCheck x=>
  split at h
  .rename_i p hp;obtain⟨a,rfl,B⟩:=h;rw[G _ _ hp];exact⟨_,λ_=>rfl,B⟩
  .exact h.elim
 case fieldAddr s x f=>
  split at h
  .rename_i a ha;rw[G _ _ ha];split at h
   .rename_i i F;split at h
    .rename_i fs X;split at h
     .rename_i off t al;split at h
      .rename_i j R;cases hz:wF j.size 0 with
       |true=>rw[hz]at h;exact h.elim
       |false=>
        rw[hz]at h;have E:=I.cm F;rw[X]at E;obtain⟨gs,hg,rfl⟩:=ot E;simp only[qM,yV]at al;obtain⟨g,ay,ap⟩:=al;cases ap;refine⟨_,aL.next ((aK hg).bind ?_),h⟩;have ad:gs[f]?=some g:=by simpa using ay
        simp only[ad];refine aL.bind (v:=a) .pure (aL.bind (v:=a.add g.offset) ?_ .pure);unfold fieldPlace;refine(ey I R).bind ?_;have:j.size≠0:=λe=>by rw[e]at hz;cases hz
        rw[if_neg this];exact .pure
      .exact h.elim
     .exact h.elim
    .exact h.elim
   .exact h.elim
  .exact h.elim
 case indexAddr t x ix=>
  split at h
  .rename_i k n hn;rw[G _ _ hn];split at h
   .rename_i p len cap S;rw[G _ _ S];split at h
    .rename_i i F;split at h
     .rename_i el D;split at h
      .rename_i j R;obtain⟨a,⟨rfl,h0,N⟩,B⟩:=h;have E:=I.cm F;rw[D]at E;have H:=il E;refine⟨_,aL.next ?_,B⟩;unfold Instr.indexAt;refine aL.bind (v:=(k,n)) .pure ?_;refine(aK H).bind ?_;refine aL.bind (v:=(some a,len,el)) .pure ?_;intro w;have:=ey I R w;simp only[Sem.run_bind,aK H w,Result.andThen_ok];cases hl:decide (len<=1)<;>simp[h0,N,this]
      .exact h.elim
     .exact h.elim
    .exact h.elim
   .rename_i a S;rw[G _ _ S];split at h
    .rename_i i F;split at h
     .rename_i m el D;split at h
      .rename_i j R;obtain⟨⟨h0,N⟩,B⟩:=h;have E:=I.cm F;rw[D]at E;have H:=ro E;refine⟨_,aL.next ?_,B⟩;unfold Instr.indexAt;refine aL.bind (v:=(k,n)) .pure ?_;refine(aK H).bind ?_;refine aL.bind (v:=(some a,m,el)) .pure ?_;intro w;have:=ey I R w;simp only[Sem.run_bind,aK H w,Result.andThen_ok];cases hl:decide (m<=1)<;>simp[h0,N,this]
      .exact h.elim
     .exact h.elim
    .exact h.elim
   .exact h.elim
  .exact h.elim
 case index t x ix=>
  split at h
  .rename_i k n hn;rw[G _ _ hn];split at h
   .rename_i s S;rw[G _ _ S];split at h
    .rename_i i F;split at h
     .rename_i D;obtain⟨b,⟨h0,N⟩,B⟩:=h;have E:=I.cm F;rw[D]at E;have H:=sP E;refine⟨_,aL.next ?_,B⟩;unfold Instr.index;refine aL.bind (v:=(k,n)) .pure ?_;refine(aK H).bind ?_;have hb:s[n.toNat]?=some b:=by rw[Array.getElem?_eq_some_iff]at N;obtain⟨a8,hg⟩:=N;have a5:n.toNat<s.size:=a8;rw[getElem?_pos s n.toNat a5];exact congrArg some hg
      simp only[h0,if_true,hb];exact .pure
     .exact h.elim
    .exact h.elim
   .rename_i cs S;rw[G _ _ S];split at h
    .rename_i i F;split at h
     .rename_i m el D;split at h
      .rename_i j R;split at h
       .rename_i s hs;have E:=I.cm F;rw[D]at E;have H:=ro E;have ah:(∃y,(0<=n/\n<(m:Int)/\cs[n.toNat]?=some (s.enc y))/\K (s.enc y))->(∀fs,j.cm≠.struct fs)->(∀n e,j.cm≠.array n e)->j.cm≠.other->j.size=1->
          ∃v,rn C.P (do pure (.value (<-Instr.index t (.agg cs) (.int k n)))) v/\K v:=by
         rintro⟨y,⟨h0,N,h2⟩,B⟩ d1 d2 d3 bl;refine⟨_,aL.next ?_,B⟩;unfold Instr.index;refine aL.bind (v:=(k,n)) .pure ?_;refine(aK H).bind ?_;simp only[h0,N,and_self,if_true];refine(ey I R).bind ?_;rw[bl,Nat.mul_one];exact EC I R d1 d2 d3 h2
        split at h
        .exact h.elim
        .exact h.elim
        .exact h.elim
        .rename_i d1 d2 d3;cases hz:wF j.size 1 with
         |false=>rw[hz]at h;exact h.elim
         |true=>
          rw[hz]at h;exact ah h d1 d2 d3 (zH hz)
       .exact h.elim
      .exact h.elim
     .exact h.elim
    .exact h.elim
   .exact h.elim
  .exact h.elim
 case field s x f=>
  split at h
  .rename_i cs S;rw[G _ _ S];split at h
   .rename_i i F;split at h
    .rename_i fs X;split at h
     .rename_i off t al;split at h
      .rename_i j R;have E:=I.cm F;rw[X]at E;obtain⟨gs,hg,rfl⟩:=ot E;simp only[qM,yV]at al;obtain⟨g,ay,ap⟩:=al;cases ap;have ad:gs[f]?=some g:=by simpa using ay
       have ah:∀v,aL C.P (part g.type ⟨cs⟩ g.offset) v->K v->∃v,rn C.P (do pure (.value (<-Instr.field s (.agg ⟨cs⟩) f))) v/\K v:=by intro v A B;refine⟨v,aL.next ((aK hg).bind ?_),B⟩;simp only[ad];exact aL.bind (v:=(⟨cs⟩:Array Value)) .pure A
       split at h
       .rename_i br a4;refine ah _ (Lc I R (.inl ⟨_,a4⟩)) ?_;rw[<-Lb];exact h
       .rename_i n' e' a4;refine ah _ (Lc I R (.inr ⟨_,_,a4⟩)) ?_;rw[<-Lb];exact h
       .exact h.elim
       .rename_i d1 d2 d3;split at h
        .rename_i v A;exact ah v (EC I R d1 d2 d3 (by simpa using A)) h
        .exact h.elim
      .exact h.elim
     .exact h.elim
    .exact h.elim
   .exact h.elim
  .exact h.elim
 case slice t x V hi0 mx=>
  split at h
  .exact h.elim
  .split at h
   .rename_i l r hl hr;have a0:(V=none/\l=none)∨∃y k m,V=some y/\e y=.int k m/\l=some m:=by
     cases V with
     |none=>cases hl;exact .inl ⟨rfl,rfl⟩
     |some y=>
      simp only[Ga]at hl;split at hl
      .rename_i k m hm;cases hl;exact .inr ⟨y,k,m,rfl,G _ _ hm,rfl⟩
      .cases hl
    have ax:(hi0=none/\r=none)∨∃y k m,hi0=some y/\e y=.int k m/\r=some m:=by
     cases hi0 with
     |none=>cases hr;exact .inl ⟨rfl,rfl⟩
     |some y=>
      simp only[Ga]at hr;split at hr
      .rename_i k m hm;cases hr;exact .inr ⟨y,k,m,rfl,G _ _ hm,rfl⟩
      .cases hr
    have J:∀(bb:Bool) (len cap:Nat) (V F:Option Value) (a b:Nat),(V=none->a=0)->(∀v,V=some v->∃k m,v=.int k m/\0<=m/\a=m.toNat/\m<=(b:Int))->
      (F=none->b=len)->(∀v,F=some v->∃k m,v=.int k m/\0<=m/\b=m.toNat/\m<=(cap:Int))->
      aL C.P (zZ bb len cap V F none) (a,b,cap):=by
     intro bb len cap V F a b N h2 h3 h4 w;cases F with
     |none=>
      have e1:=h3 rfl;subst e1;cases V with
      |none=>rw[N rfl];simp[zZ]
      |some v=>
       obtain⟨k,m,rfl,x1,rfl,x2⟩:=h2 v rfl;simp[zZ,vp,asIntOf,x1,x2]
     |some u=>
      obtain⟨k',W,rfl,y1,rfl,y2⟩:=h4 u rfl;cases V with
      |none=>rw[N rfl];simp[zZ,vp,asIntOf,y1,y2]
      |some v=>
       obtain⟨k,m,rfl,x1,rfl,x2⟩:=h2 v rfl;have x3:¬max W 0<m:=by omega
       simp[zZ,vp,asIntOf,x1,y1,y2,x3]
    split at h
    .rename_i p len cap S;rw[G _ _ S];split at h
     .rename_i i F;split at h
      .rename_i el D;split at h
       .rename_i j R;have E:=I.cm F;rw[D]at E;have H:=il E;have fin:∀(a b:Nat) (v:Value),aL C.P (zZ true len cap (V.map e) (hi0.map e) none) (a,b,cap)->
          v=.slice (if cap=a then p else p.map (·.add (a*j.size))) (b-a) (cap-a)->K v->
          ∃v,rn C.P (do pure (.value (<-w5 t (.slice p len cap) (V.map e) (hi0.map e) (Option.map e none)))) v/\K v:=by
         intro a b v hb A B;refine⟨v,aL.next ?_,B⟩;unfold w5;refine(aK H).bind ?_;simp only[xG,Option.map_none];refine(aK H).bind ?_;refine hb.bind ?_;subst A;exact(ey I R).bind .pure
        have ab:(if cap=0 then p else p.map (·.add (0*j.size)))=p:=by
         cases p<;>simp[Addr.add]
        rcases a0 with⟨rfl,rfl⟩|⟨y,k,m,rfl,hy,rfl⟩<;>rcases ax with⟨rfl,rfl⟩|⟨y',k',W,rfl,hy',rfl⟩
        .exact fin 0 len _ (J _ _ _ _ _ _ _ (λ_=>rfl) (by simp) (λ_=>rfl) (by simp)) (by rw[ab];rfl) h
        .obtain⟨⟨U,Z⟩,B⟩:=h;exact fin 0 W.toNat _ (J _ _ _ _ _ _ _ (λ_=>rfl) (by simp) (by simp) λv A=>by cases A;exact⟨k',W,hy',U,rfl,Z⟩) (by rw[ab];rfl) B
        .obtain⟨⟨U,Z⟩,B⟩:=h;exact fin m.toNat len _ (J _ _ _ _ _ _ _ (by simp) (λv A=>by cases A;exact⟨k,m,hy,U,rfl,Z⟩) (λ_=>rfl) (by simp)) rfl B
        .obtain⟨⟨U,Z,a3⟩,B⟩:=h;exact fin m.toNat W.toNat _ (J _ _ _ _ _ _ _ (by simp) (λv A=>by cases A;exact⟨k,m,hy,U,rfl,by omega⟩) (by simp) λv A=>by cases A;exact⟨k',W,hy',by omega,rfl,a3⟩) rfl B
       .exact h.elim
      .exact h.elim
     .exact h.elim
    .rename_i s S;rw[G _ _ S];split at h
     .rename_i i F;split at h
      .rename_i D;have E:=I.cm F;rw[D]at E;have H:=sP E;have fin:∀(a b:Nat) (v:Value),aL C.P (zZ false s.size s.size (V.map e) (hi0.map e) none) (a,b,s.size)->
         v=.string (s.extract a b)->K v->
         ∃v,rn C.P (do pure (.value (<-w5 t (.string s) (V.map e) (hi0.map e) (Option.map e none)))) v/\K v:=by
        intro a b v hb A B;refine⟨v,aL.next ?_,B⟩;unfold w5;refine(aK H).bind ?_;simp only[xG,Option.map_none];refine(aK H).bind ?_;subst A;intro w;simp[hb w]
       rcases a0 with⟨rfl,rfl⟩|⟨y,k,m,rfl,hy,rfl⟩<;>rcases ax with⟨rfl,rfl⟩|⟨y',k',W,rfl,hy',rfl⟩
       .exact fin 0 s.size _ (J _ _ _ _ _ _ _ (λ_=>rfl) (by simp) (λ_=>rfl) (by simp)) rfl h
       .obtain⟨⟨U,Z⟩,B⟩:=h;exact fin 0 W.toNat _ (J _ _ _ _ _ _ _ (λ_=>rfl) (by simp) (by simp) λv A=>by cases A;exact⟨k',W,hy',U,rfl,Z⟩) rfl B
       .obtain⟨⟨U,Z⟩,B⟩:=h;exact fin m.toNat s.size _ (J _ _ _ _ _ _ _ (by simp) (λv A=>by cases A;exact⟨k,m,hy,U,rfl,Z⟩) (λ_=>rfl) (by simp)) rfl B
       .obtain⟨⟨U,Z,a3⟩,B⟩:=h;exact fin m.toNat W.toNat _ (J _ _ _ _ _ _ _ (by simp) (λv A=>by cases A;exact⟨k,m,hy,U,rfl,by omega⟩) (by simp) λv A=>by cases A;exact⟨k',W,hy',by omega,rfl,a3⟩) rfl B
      .exact h.elim
     .exact h.elim
    .rename_i a S;rw[G _ _ S];split at h
     .rename_i i F;split at h
      .rename_i n el D;split at h
       .rename_i j R;have E:=I.cm F;rw[D]at E;have H:=ro E;have fin:∀(a' b:Nat) (v:Value),aL C.P (zZ false n n (V.map e) (hi0.map e) none) (a',b,n)->
          v=.slice (some (if n=a' then a else a.add (a'*j.size))) (b-a') (n-a')->K v->
          ∃v,rn C.P (do pure (.value (<-w5 t (.pointer (some a)) (V.map e) (hi0.map e) (Option.map e none)))) v/\K v:=by
         intro a' b v hb A B;refine⟨v,aL.next ?_,B⟩;unfold w5;refine(aK H).bind ?_;simp only[Option.map_none];refine aL.bind (v:=a) .pure ?_;refine hb.bind ?_;subst A;exact(ey I R).bind .pure
        have ab:(if n=0 then a else a.add (0*j.size))=a:=by simp[Addr.add]
        rcases a0 with⟨rfl,rfl⟩|⟨y,k,m,rfl,hy,rfl⟩<;>rcases ax with⟨rfl,rfl⟩|⟨y',k',W,rfl,hy',rfl⟩
        .exact fin 0 n _ (J _ _ _ _ _ _ _ (λ_=>rfl) (by simp) (λ_=>rfl) (by simp)) (by rw[ab];rfl) h
        .obtain⟨⟨U,Z⟩,B⟩:=h;exact fin 0 W.toNat _ (J _ _ _ _ _ _ _ (λ_=>rfl) (by simp) (by simp) λv A=>by cases A;exact⟨k',W,hy',U,rfl,Z⟩) (by rw[ab];rfl) B
        .obtain⟨⟨U,Z⟩,B⟩:=h;exact fin m.toNat n _ (J _ _ _ _ _ _ _ (by simp) (λv A=>by cases A;exact⟨k,m,hy,U,rfl,Z⟩) (λ_=>rfl) (by simp)) rfl B
        .obtain⟨⟨U,Z,a3⟩,B⟩:=h;exact fin m.toNat W.toNat _ (J _ _ _ _ _ _ _ (by simp) (λv A=>by cases A;exact⟨k,m,hy,U,rfl,by omega⟩) (by simp) λv A=>by cases A;exact⟨k',W,hy',by omega,rfl,a3⟩) rfl B
       .exact h.elim
      .exact h.elim
     .exact h.elim
    .exact h.elim
   .exact h.elim
 case extract x n=>
  split at h
  .rename_i vs S;rw[G _ _ S];split at h
   .rename_i v A;refine⟨v,aL.next ?_,h⟩;have:(⟨vs⟩:Array Value)[n]?=some v:=by simpa using A
    simp only[Instr.extract,this];exact .pure
   .exact h.elim
  .exact h.elim
 case binOp op t x y u=>
  split at h
  .rename_i a b ha hb;rw[G _ _ ha,G _ _ hb];obtain⟨v,A,B⟩:=QE (P:=C.P) (x:=x) (y:=y) (M t) h;exact⟨v,A.next,B⟩
  .exact h.elim
 case unOp op t x=>
  split at h
  .rename_i v A;rw[G _ _ A];unfold unV at h;split at h
   .split at h
    .exact⟨_,aL.next .pure,h⟩
    .exact h.elim
   .split at h
    .exact⟨_,aL.next .pure,h⟩
    .exact⟨_,aL.next .pure,h⟩
    .exact h.elim
   .exact h.elim
  .exact h.elim
 case convert s d x=>
  split at h
  .rename_i v ks A a6;rw[G _ _ A];have hs:=DJ (M _ _ a6);unfold Yz at h;split at h
   .split at h
    .rename_i n _ k B;have H:=DJ (M _ _ B);refine⟨_,aL.next ?_,h⟩;unfold convert;refine(aK hs).bind ((aK H).bind ?_);exact .pure
    .exact h.elim
   .exact h.elim
  .exact h.elim
 case build t parts=>
  split at h
  .rename_i vs a7;have hp:(parts.map λ(i,x)=>(i,e x)).toList=vs:=by have:=EB G a7;simpa using this
   split at h
   .rename_i i F;obtain⟨z,hz,a9⟩:=pU I F;have am:i.zero.toArray=z.cells:=by rw[<-a9]
    cases hbig:xk 24 i.size with
    |true=>
     rw[hbig]at h;obtain⟨v,A,B⟩:=h;have bd:(parts.map λ(i,x)=>(i,e x))=vs.toArray:=by rw[<-hp]
     refine⟨v,aL.next ?_,B⟩;show aL C.P (xo t (parts.map λ(i,x)=>(i,e x))) v;rw[bd];exact A
    |false=>
    rw[hbig]at h;simp only[cond_false]at h;split at h
    .rename_i fs X;have E:=I.cm F;rw[X]at E;obtain⟨gs,hg,rfl⟩:=ot E;split at h
     .rename_i ps bk;split at h
      .rename_i cells Q;refine⟨_,aL.next (hz.bind ((aK hg).bind ?_)),h⟩;have bq:aL C.P (gs.mapM λf=>(do pure (f.offset,<-sizeOf f.type):Sem (Nat×Nat))) ps.toArray:=by rw[vw];intro w;have:=ta I bk w;rw[map_eq_pure_bind,Sem.run_bind,this];rfl
       refine bq.bind ?_;have ao:wv (λn=>ps.toArray[n]?) z.cells (parts.map λ(i,x)=>(i,e x)).toList=some cells:=by rw[hp,<-am];simpa using Q
       rw[ao];exact .pure
      .exact h.elim
     .exact h.elim
    .rename_i n el X;have E:=I.cm F;rw[X]at E;have H:=ro E;split at h
     .rename_i j R;split at h
      .rename_i cells Q;refine⟨_,aL.next (hz.bind ((aK H).bind ((ey I R).bind ?_))),h⟩;have ao:wv (λi=>some (i*j.size,j.size)) z.cells (parts.map λ(i,x)=>(i,e x)).toList=some cells:=by rw[hp,<-am];exact Q
       rw[ao];exact .pure
      .exact h.elim
     .exact h.elim
    .exact h.elim
   .exact h.elim
  .exact h.elim
 case makeFunc fn first captured=>
  split at h
  .rename_i a b ha hb;have N:first.map e=a.toArray:=by apply vj;simpa using AK G ha
   have h2:captured.map e=b.toArray:=by apply vj;simpa using AK G hb
   refine⟨_,aL.next ?_,h⟩;rw[N,h2];exact .pure
  .exact h.elim
 case call c=>
  split at h
  .rename_i b hb;have L:∀{v:Value},aL C.P (builtin b c.argTypes o.type (c.args.map λ| .const _=>true|_=>false) (c.args.map e)) (.value v)->
     rn C.P (do let d<-resolve e c o.type;invoke d.target d.args) v:=by
    intro v A w;have:=A w;unfold resolve;rw[hb];exact this
   have O:∀{vs:List Value},oY ev c.args.toList=some vs->c.args.map e=vs.toArray:=λA=>by
    apply vj;simpa using AK G A
   have Y:∀{s:Sem Value} {v:Value},aL C.P s v->aL C.P (do pure (Next.value (<-s))) (.value v):=λhs=>hs.bind .pure;split at h
   case h_1=>
    split at h
    .rename_i t ts x N h2;split at h
     .rename_i v A;have ha:c.args.map e=#[v]:=by apply vj;rw[vZ,h2];simp[G _ _ A]
      have ht:c.argTypes[0]?=some t:=by rw[<-ve,N];rfl
      unfold aaJ at h;split at h
      .rename_i p n cap;split at h
       .rename_i el D;have H:=il (M _ _ D);refine⟨_,L ?_,h⟩;rw[ha];refine Y ?_;intro w;simp[xD,ht,underlying,H,goInt]
       .exact h.elim
      .rename_i s;split at h
       .rename_i D;have H:=sP (M _ _ D);refine⟨_,L ?_,h⟩;rw[ha];refine Y ?_;intro w;simp[xD,ht,underlying,H,goInt]
       .exact h.elim
      .exact h.elim
     .exact h.elim
    .exact h.elim
   case h_2=>
    split at h
    .rename_i t ts x N h2;split at h
     .rename_i v A;have ha:c.args.map e=#[v]:=by apply vj;rw[vZ,h2];simp[G _ _ A]
      have ht:c.argTypes[0]?=some t:=by rw[<-ve,N];rfl
      unfold aaK at h;split at h
      .rename_i p n cap;split at h
       .rename_i el D;have H:=il (M _ _ D);refine⟨_,L ?_,h⟩;rw[ha];refine Y ?_;intro w;simp[Builtin.cap_,ht,underlying,H,goInt]
       .exact h.elim
      .exact h.elim
     .exact h.elim
    .exact h.elim
   case h_3=>
    split at h
    .rename_i k a k' b A;refine⟨_,L ?_,h⟩;rw[O A];refine Y ?_;intro w;simp[Builtin.min_,Builtin.min2]
    .exact h.elim
   case h_4=>
    split at h
    .rename_i k a k' b A;refine⟨_,L ?_,h⟩;rw[O A];refine Y ?_;intro w;simp[Builtin.max_,Builtin.max2]
    .exact h.elim
   case h_5=>
    split at h
    .rename_i k a b A;refine⟨_,L ?_,h⟩;rw[O A];exact Y .pure
    .exact h.elim
   case h_6=>
    split at h
    .rename_i k a b A;refine⟨_,L ?_,h⟩;rw[O A];exact Y .pure
    .exact h.elim
   all_goals exact h.elim
  .exact h.elim
 all_goals exact h.elim
end
def aZ(h:Heap)(a:Addr):Nat->List Value->Prop
 |_,[]=>True
 |n,v::r=>cellOf h (a.add n)=some v/\aZ h a (n+1) r
structure ux where
 a:Addr
 ty:Ty
 n:Nat
def ux.holds(r:ux)(h:Heap)(y:r.ty.den):Prop:=
 match r.ty,y with
 | .sc s,y=>cellOf h r.a=some (s.enc y)
 | .agg l,y=>aZ h r.a 0 (nG l y)
 | .arr s,y=>y.length=r.n/\aZ h r.a 0 (y.map s.enc)
def td(T:ki)(op:Op)(ev:Operand->Option Value):Option ux:=
 match op with
 | .load t x=>match ev x with
  |some (.pointer (some a))=>match T.get t with
   |some i=>match i.cm with
    | .struct _=>match i.ty with
     | .agg l=>bif wF l.length i.size then some ⟨a,i.ty,i.size⟩else none
     |_=>none
    | .array _ _=>match i.ty with
     | .arr _=>some ⟨a,i.ty,i.size⟩
     |_=>none
    | .other=>none
    |_=>match i.ty with
     | .sc _=>some ⟨a,i.ty,1⟩
     |_=>none
   |none=>none
  |_=>none
 |_=>none
theorem ED:∀(l:List Sc) (x:uY l),(nG l x).length=l.length
 |[],_=>rfl
 |[_],_=>rfl
 |_::t::r,x=>by simp only[q7];rw[ED (t::r) x.2];rfl
theorem run_loadCells{P:Program}{w:World}{a:Addr}:∀(vs:List Value) (i:Nat) (b:Array Value),aZ w.heap a i vs->
  (loadCellsFrom a i vs.length b).run P w=.ok (b++vs.toArray) w
 |[],i,b,_=>rfl
 |v::r,i,b,h=>by
  simp only[q7,loadCellsFrom,Sem.run_bind,run_load,HU,h.1,Result.andThen_ok];rw[run_loadCells r (i+1) (b.push v) h.2];simp
theorem AL{C:Ag}(j:C.Ok){ev:Operand->Option Value}{e:Operand->Value}(E:∀x v,ev x=some v->e x=v){o:Oper}{r:ux}
  (b:td C.T o.op ev=some r) {y:r.ty.den} {w:World} (d:r.holds w.heap y):(execOp e o).run C.P w=.ok (.value (r.ty.enc y)) w:=by
 unfold td at b;split at b
 .rename_i t x q;simp only[execOp,q];split at b
  .rename_i a H;rw[E _ _ H];split at b
   .rename_i i m;have g:(∀v,(loadVar t a).run C.P w=.ok v w->(do let s<-xw t (.pointer (some a));pure (Next.value s):Sem Next).run C.P w=.ok (.value v) w):=by intro v D;have:xw t (.pointer (some a))=loadVar t a:=rfl;rw[this,Sem.run_bind,D];rfl
    split at b
    .rename_i F h;split at b
     .rename_i l f;cases hb:wF l.length i.size with
      |false=>rw[hb]at b;cases b
      |true=>
       rw[hb]at b;simp only[cond_true,wb.injEq]at b;subst b;have k:=zH hb;have c:∀(ty:Ty) (y:ty.den),ty=.agg l->ux.holds ⟨a,ty,i.size⟩ w.heap y->(loadVar t a).run C.P w=.ok (ty.enc y) w:=by rintro ty y rfl d;unfold loadVar;rw[Sem.run_bind,(kU j m).1 F h w];simp only[Result.andThen_ok,if_true,Sem.run_bind,ey j m w];have p:=run_loadCells (P:=C.P) (w:=w) (a:=a) (nG l y) 0 #[] d;rw[ED,k]at p;unfold loadCells;rw[p];simp
       exact g _ (c i.ty y f d)
     .cases b
    .rename_i n B h;split at b
     .rename_i s f;cases b;have c:∀(ty:Ty) (y:ty.den),ty=.arr s->ux.holds ⟨a,ty,i.size⟩ w.heap y->(loadVar t a).run C.P w=.ok (ty.enc y) w:=by rintro ty y rfl ⟨f,d⟩;unfold loadVar;rw[Sem.run_bind,(kU j m).2.1 n B h w];simp only[Result.andThen_ok,if_true,Sem.run_bind,ey j m w];have p:=run_loadCells (P:=C.P) (w:=w) (a:=a) (y.map s.enc) 0 #[] d;rw[List.length_map,f]at p;unfold loadCells;rw[p];simp
      exact g _ (c i.ty y f d)
     .cases b
    .cases b
    .rename_i A G z;split at b
     .rename_i s f;cases b;have c:∀(ty:Ty) (y:ty.den),ty=.sc s->ux.holds ⟨a,ty,1⟩ w.heap y->(loadVar t a).run C.P w=.ok (ty.enc y) w:=by rintro ty y rfl d;have u:cellOf w.heap a=some (s.enc y):=d;unfold loadVar;rw[Sem.run_bind,(kU j m).2.2 A G z w];simp[HU,u]
      exact g _ (c i.ty y f d)
     .cases b
   .cases b
  .cases b
 .cases b
def Typed(t:Ty)(K:Value->Heap->Prop)(v:Value)(h:Heap):Prop:=∃x:t.den,v=t.enc x/\K (t.enc x) h
def Cd(t:Rt)(K:Value->Heap->Prop)(v:Value)(h:Heap):Prop:=∃x:t.den,v=t.enc x/\K (t.enc x) h
def Ce(K:Value->Heap->Prop)(v:Value)(h:Heap):Prop:=∃a:Addr,v=.pointer (some a)/\K (.pointer (some a)) h
def QF(K:Value->Heap->Prop)(v:Value)(h:Heap):Prop:=∃(b:Bool) (r:List Value),v=.tuple ⟨.bool b::r⟩/\K (.tuple ⟨.bool b::r⟩) h
def aaM(T:ki)(t:TypeId)(tup:List (TypeId×List Ty)):Option Rt:=
 match tup.find? (λp=>wF p.1 t)with
 |some p=>some (.many p.2)
 |none=>match T.get t with
  |some i=>some (.one i.ty)
  |none=>none
structure Ctx extends Ag where
 tup:List (TypeId×List Ty)
 fns:List Bool
structure Ctx.Ok (C:Ctx):Prop extends Ag.Ok C.toAg where
 fns:(C.P.funcs.toList.map λf=>!(f.name== "runtime.NumGoroutine")&&f.body.isSome)=C.fns
def QG(C:Ctx)(g:FuncId)(args:List Value)(t:TypeId)(K:Value->Heap->Prop)(h:Heap):Prop:=
 match C.fns[g]? with
 |some true=>match aaM C.T t C.tup with
  |some r=>ak C.P g args.toArray h (Cd r K)
  |none=>False
 |_=>False
def Gc(C:Ctx)(o:Oper)(ev:Operand->Option Value)(K:Value->Heap->Prop)(h:Heap):Prop:=
 match o.op with
 | .store t a x=>match ev a,ev x with
  |some p,some v=>av C.P (qD t p v) h λ_ h'=>K undef h'
  |_,_=>False
 | .alloc t=>av C.P (wM t true (.tuple #[])) h (Ce K)
 | .box t x=>match ev x with
  |some v=>av C.P (va t v) h (Ce K)
  |none=>False
 | .makeSlice t l c=>match ev l,ev c with
  |some l,some c=>av C.P (zB t l c) h (Typed (.sc .slc) K)
  |_,_=>False
 | .buildSlice t n parts=>match Cc ev parts.toList with
  |some ps=>av C.P (zw t n ps.toArray) h (Typed (.sc .slc) K)
  |none=>False
 | .makeMap t none=>av C.P (Instr.makeMap t none) h (Typed (.sc .mp) K)
 | .lookup t x ix ok=>match ev x,ev ix,aaM C.T o.type C.tup with
  |some m,some k,some r=>av C.P (Instr.lookup t m k ok) h (Cd r K)
  |_,_,_=>False
 | .mapUpdate t m k x=>match ev m,ev k,ev x with
  |some m,some k,some v=>av C.P (xq t m k v) h λ_ h'=>K undef h'
  |_,_,_=>False
 | .insert t m k x=>match ev m,ev k,ev x with
  |some m,some k,some v=>av C.P (xq t m k v) h λ_ h'=>K undef h'
  |_,_,_=>False
 | .range t x=>match ev x with
  |some m=>av C.P (Instr.range t m) h (Ce K)
  |none=>False
 | .next it s=>match ev it with
  |some i=>av C.P (Instr.next i s o.type) h (QF K)
  |none=>False
 | .entry it=>match ev it with
  |some i=>av C.P (Instr.entry i) h (Cd (.many [.sc .str,.sc .slc]) K)
  |none=>False
 | .convert s d x=>match ev x,C.T.get o.type with
  |some v,some i=>av C.P (convert s d v) h (Typed i.ty K)
  |_,_=>False
 | .binOp op t x y _=>match ev x,ev y,C.T.get o.type with
  |some a,some b,some i=>av C.P (do eqGuard op t x y a b;binOp op t a b) h (Typed i.ty K)
  |some a,some b,none=>av C.P (do eqGuard op t x y a b;binOp op t a b) h (Typed (.sc .bool) K)
  |_,_,_=>False
 | .slice t x lo hi mx=>match optVal ev lo,optVal ev hi,optVal ev mx,ev x with
  |some l,some r,some m,some v=>av C.P (w5 t v l r m) h (Typed (.sc .slc) K)
  |_,_,_,_=>False
 | .call c=>match c.callee with
  | .builtin .append=>match oY ev c.args.toList with
   |some vs=>av C.P (q6 c.argTypes o.type vs.toArray) h (Typed (.sc .slc) K)
   |none=>False
  | .builtin .copy=>match oY ev c.args.toList with
   |some vs=>av C.P (yN c.argTypes o.type vs.toArray) h (Typed (.sc (.int .i64)) K)
   |none=>False
  | .builtin .clear=>match oY ev c.args.toList with
   |some vs=>av C.P (vM c.argTypes o.type vs.toArray) h K
   |none=>False
  | .builtin .len=>match oY ev c.args.toList with
   |some vs=>av C.P (xD c.argTypes o.type vs.toArray) h (Typed (.sc (.int .i64)) K)
   |none=>False
  | .builtin .unsafeString=>match oY ev c.args.toList with
   |some vs=>av C.P (Builtin.unsafeString_ c.argTypes o.type vs.toArray) h (Typed (.sc .str) K)
   |none=>False
  | .builtin .delete=>match oY ev c.args.toList with
   |some vs=>av C.P (Builtin.delete_ c.argTypes o.type vs.toArray) h K
   |none=>False
  | .value f=>match ev f,oY ev c.args.toList with
   |some (.func (.func g) ⟨first⟩ ⟨caps⟩),some vs=>QG C g (first++vs++caps) o.type K h
   |_,_=>False
  |_=>False
 |_=>False
where
 optVal (ev:Operand->Option Value):Option Operand->Option (Option Value)
  |none=>some none
  |some x=>match ev x with
   |some v=>some (some v)
   |none=>none
variable {K:Value->Heap->Prop}
theorem fe{s:Sem Value}(b:av P s h K):Ae P (do pure (.value (<-s))) h K:=
 av.bind (b.mono λ_ _ a=>av.pure' a)
theorem Fc{s:Sem Unit}(b:av P s h λ_ h'=>K undef h'):Ae P (do s;pure .skip) h K:=
 av.bind (b.mono λ_ _ a=>av.pure' a)
theorem Typed.out{t:Ty}{v:Value}{h:Heap}(x:Typed t K v h):K v h:=by obtain⟨y,rfl,a⟩:=x;exact a
theorem Cd.out{t:Rt}{v:Value}{h:Heap}(x:Cd t K v h):K v h:=by obtain⟨y,rfl,a⟩:=x;exact a
theorem QF.out{v:Value}{h:Heap}(x:QF K v h):K v h:=by obtain⟨b,r,rfl,a⟩:=x;exact a
theorem Ce.out{v:Value}{h:Heap}(x:Ce K v h):K v h:=by obtain⟨y,rfl,a⟩:=x;exact a
theorem NR{C:Ctx}(e:C.Ok){g:FuncId}{args:List Value}{t:TypeId}{K:Value->Heap->Prop}{h:Heap}(b:QG C g args t K h):
  Ae C.P (callFunc g args.toArray) h K:=by
 unfold QG at b;split at b
 .rename_i d;split at b
  .have a:=congrArg (·[g]?) e.fns;simp only[qM,d]at a;cases hf:C.P.funcs.toList[g]? with
   |none=>grind
   |some fn=>
    rw[hf]at a;simp only[zn,wb.injEq,qC,Bool.not_eq_true']at a;have c:C.P.funcs[g]?=some fn:=by grind
    have f:fn.body.isNone=false:=by cases hbb:fn.body<;>simp[hbb]at a⊢
    refine av.bind (av.Wr ?_);simp only[c,a.1,f];exact av.pure' (b.mono λv h' x=>x.out)
  grind
 grind
theorem QH{C:Ctx}(U:C.Ok){ev:Operand->Option Value}{e:Operand->Value}(A:∀x v,ev x=some v->e x=v){o:Oper}
  {K:Value->Heap->Prop} {h:Heap} (j:Gc C o ev K h):Ae C.P (execOp e o) h K:=by
 have H:∀{x:Option Operand} {r:Option Value},Gc.optVal ev x=some r->x.map e=r:=by
  intro x r I;cases x with
  |none=>cases I;rfl
  |some y=>
   simp only[Gc.optVal]at I;split at I
   .rename_i v B;cases I;rw[zn,A _ _ B]
   .cases I
 unfold Gc at j;split at j
 .rename_i t a x q;simp only[execOp,q];split at j
  .rename_i p v Z B;rw[A _ _ Z,A _ _ B];exact Fc j
  .exact j.elim
 .rename_i t q;simp only[execOp,q];exact fe (j.mono λ_ _ x=>x.out)
 .rename_i t x q;simp only[execOp,q];split at j
  .rename_i v B;rw[A _ _ B];exact fe (j.mono λ_ _ x=>x.out)
  .exact j.elim
 .rename_i t l c q;simp only[execOp,q];split at j
  .rename_i v u B X;rw[A _ _ B,A _ _ X];exact fe (j.mono λ_ _ x=>x.out)
  .exact j.elim
 .rename_i t n parts q;simp only[execOp,q];split at j
  .rename_i ps N;have:(parts.map λ(i,x)=>(i,e x))=ps.toArray:=by apply vj;have:=EB A N;simpa using this
   rw[this];exact fe (j.mono λ_ _ x=>x.out)
  .exact j.elim
 .rename_i t q;simp only[execOp,q];exact fe (j.mono λ_ _ x=>x.out)
 .rename_i t x ix ok q;simp only[execOp,q];split at j
  .rename_i m k r E G R;rw[A _ _ E,A _ _ G];exact fe (j.mono λ_ _ x=>x.out)
  .exact j.elim
 .rename_i t m k x q;simp only[execOp,q];split at j
  .rename_i Y S v E G B;rw[A _ _ E,A _ _ G,A _ _ B];exact Fc j
  .exact j.elim
 .rename_i t m k x q;simp only[execOp,q];split at j
  .rename_i Y S v E G B;rw[A _ _ E,A _ _ G,A _ _ B];exact Fc j
  .exact j.elim
 .rename_i t x q;simp only[execOp,q];split at j
  .rename_i m E;rw[A _ _ E];exact fe (j.mono λ_ _ x=>x.out)
  .exact j.elim
 .rename_i T s q;simp only[execOp,q];split at j
  .rename_i m E;rw[A _ _ E];exact fe (j.mono λ_ _ x=>x.out)
  .exact j.elim
 .rename_i T q;simp only[execOp,q];split at j
  .rename_i m E;rw[A _ _ E];exact fe (j.mono λ_ _ x=>x.out)
  .exact j.elim
 .rename_i s d x q;simp only[execOp,q];split at j
  .rename_i v i B M;rw[A _ _ B];exact fe (j.mono λ_ _ x=>x.out)
  .exact j.elim
 .rename_i op t x y u q;simp only[execOp,q];split at j
  .rename_i a b i O Q M;rw[A _ _ O,A _ _ Q];exact fe (j.mono λ_ _ x=>x.out)
  .rename_i a b O Q M;rw[A _ _ O,A _ _ Q];exact fe (j.mono λ_ _ x=>x.out)
  .exact j.elim
 .rename_i t x lo M mx q;simp only[execOp,q];split at j
  .rename_i l r m v V R E B;rw[H V,H R,H E,A _ _ B];exact fe (j.mono λ_ _ x=>x.out)
  .exact j.elim
 .rename_i c q;simp only[execOp,q];have w:∀{vs:List Value},oY ev c.args.toList=some vs->c.args.map e=vs.toArray:=λB=>by
   apply vj;simpa using AK A B
  split at j
  .rename_i D;split at j
   .rename_i vs z;unfold resolve;rw[D,w z];exact fe (j.mono λ_ _ x=>x.out)
   .exact j.elim
  .rename_i D;split at j
   .rename_i vs z;unfold resolve;rw[D,w z];exact fe (j.mono λ_ _ x=>x.out)
   .exact j.elim
  .rename_i D;split at j
   .rename_i vs z;unfold resolve;rw[D,w z];exact fe j
   .exact j.elim
  .rename_i D;split at j
   .rename_i vs z;unfold resolve;rw[D,w z];exact fe (j.mono λ_ _ x=>x.out)
   .exact j.elim
  .rename_i D;split at j
   .rename_i vs z;unfold resolve;rw[D,w z];exact fe (j.mono λ_ _ x=>x.out)
   .exact j.elim
  .rename_i D;split at j
   .rename_i vs z;unfold resolve;rw[D,w z];exact fe j
   .exact j.elim
  .rename_i f D;split at j
   .rename_i g first F vs W z
    unfold resolve;rw[D,w z];simp only[A _ _ W];have:=NR U j;have J:(⟨first⟩:Array Value)++vs.toArray++(⟨F⟩:Array Value)=(first++vs++F).toArray:=by simp
    have L:Ae C.P (callFunc g ((⟨first⟩:Array Value)++vs.toArray++(⟨F⟩:Array Value))) h K:=by rw[J];exact this
    simp only[Deferred.ofValue];exact L
   .exact j.elim
  .exact j.elim
 .exact j.elim
def put(n:Nat)(a:Option Tmp)(K:Env->Heap->Prop)(ρ:Env)(v:Value)(h:Heap):Prop:=
 match a with
 |some d=>bif xk d n then K (.val d v::ρ) h else False
 |none=>K ρ h
theorem te{n:Nat}{b:Option Tmp}{K:Env->Heap->Prop}{ρ:Env}{v:Value}{h:Heap}(c:put n b K ρ v h){a:Act}(e:Fits n a ρ):
  ∃ρ',Fits n (a.put b v) ρ'/\Ext ρ ρ' a (a.put b v)/\K ρ' h:=by
 unfold put at c;cases b with
 |none=>exact⟨ρ,e,Ext.refl _ _,c⟩
 |some d=>
  simp only at c;cases hb:xk d n with
  |false=>rw[hb]at c;exact c.elim
  |true=>rw[hb]at c;exact⟨_,e.put hb v,Ext.put v v,c⟩
def Wz(C:Ctx)(n:Nat)(o:Oper)(K:Env->Heap->Prop)(ρ:Env)(h:Heap):Prop:=
 match Ah C.P C.T o.op ρ.eval with
 | .no=>match td C.T o.op ρ.eval with
  |some r=>∃y:r.ty.den,r.holds h y/\put n o.dst K ρ (r.ty.enc y) h
  |none=>Gc C o ρ.eval (put n o.dst K ρ) h
 |p=>p.holds λv=>put n o.dst K ρ v h
def Ge(ops:Array Oper)(o:Oper)(ρ:Env)(a skip:Env->Prop):Prop:=
 match o.guard with
 |none=>a ρ
 |some (j,want)=>match(ops[j]?).bind (·.dst)with
  |some d=>match ρ.get d with
   |some (.bool b)=>Br b (bif want then a (.val d (.bool true)::ρ)else skip (.val d (.bool true)::ρ)) (bif want then skip (.val d (.bool false)::ρ)else a (.val d (.bool false)::ρ))
   |some (.tuple _)=>skip ρ
   |_=>False
  |none=>False
theorem Fits.known{n:Nat}{a:Act}{ρ:Env}(c:Fits n a ρ){d:Nat}{v:Value}(e:ρ.get d=some v):Fits n a (.val d v::ρ)/\Ext ρ (.val d v::ρ) a a:=by
 refine⟨⟨c.size,c.defers,λt x b=>?_⟩,⟨[.val d v],rfl,λ_ _=>rfl⟩⟩;simp only[Env.get]at b;cases hb:wF d t with
 |false=>rw[hb]at b;exact c.get t x b
 |true=>
  rw[hb]at b;have:=zH hb;subst this;rw[cond_true]at b;exact c.get _ x (e.trans b)
theorem EE{ops:Array Oper}{o:Oper}{ρ:Env}{e skip:Env->Prop}{n:Nat}{a:Act}(g:Fits n a ρ)(c:Ge ops o ρ e skip):
  ∃ρ',Fits n a ρ'/\Ext ρ ρ' a a/\((Region.wanted o (yielded ops a.tmps)=true/\e ρ')∨(Region.wanted o (yielded ops a.tmps)=false/\skip ρ')):=by
 unfold Ge at c;unfold Region.wanted;split at c
 .rename_i l;rw[l];exact⟨ρ,g,Ext.refl _ _,.inl ⟨rfl,c⟩⟩
 .rename_i j f l;rw[l];split at c
  .rename_i d p;split at c
   .rename_i b k;have m:yielded ops a.tmps j=some b:=by unfold yielded;rw[p];simp[g.get _ _ k]
    simp only[m];obtain⟨i,h⟩:=g.known k;cases b<;>cases f<;>simp only[Br,cond_true,cond_false]at c
    .exact⟨_,i,h,.inl ⟨rfl,c⟩⟩
    .exact⟨_,i,h,.inr ⟨rfl,c⟩⟩
    .exact⟨_,i,h,.inr ⟨rfl,c⟩⟩
    .exact⟨_,i,h,.inl ⟨rfl,c⟩⟩
   .rename_i vs k;have m:yielded ops a.tmps j=none:=by unfold yielded;rw[p];simp[g.get _ _ k]
    simp only[m];exact⟨ρ,g,Ext.refl _ _,.inr ⟨by simp,c⟩⟩
   .exact c.elim
  .exact c.elim
theorem TA{C:Ctx}(f:C.Ok){n:Nat}{o:Oper}{K:Env->Heap->Prop}{ρ:Env}{a:Act}{w:World}(j:Fits n a ρ)(d:Wz C n o K ρ w.heap)
  {Q:Exit->Act->World->Prop} {next:Act->World->Prop}
  (l:∀a' w' ρ',Fits n a' ρ'->Ext ρ ρ' a a'->dj w w'->K ρ' w'.heap->next a' w'):o.wp C.P a w next Q:=by
 have i:∀x v,ρ.eval x=some v->a.eval x=v:=λx v h=>j.eval h;have b:∀v w',dj w w'->put n o.dst K ρ v w'.heap->next (a.put o.dst v) w':=λv w' p t=>by
  obtain⟨ρ',s,k,h3⟩:=te t j;exact l _ _ _ s k p h3
 have c:(Ah C.P C.T o.op ρ.eval).holds (λv=>put n o.dst K ρ v w.heap)->o.wp C.P a w next Q:=λh=>by
  obtain⟨v,q,g⟩:=Gb f.toOk i h;unfold Oper.wp;rw[q w];exact b v w (dj.refl w) g
 unfold Wz at d;split at d
 .split at d
  .rename_i r e;obtain⟨y,m,g⟩:=d;unfold Oper.wp;rw[AL f.toOk i e m];exact b _ w (dj.refl w) g
  .exact acK (QH f i d) b
 .exact c d
def DL(C:Ctx)(n:Nat)(ops:Array Oper)(o:Oper)(K:Env->Heap->Prop)(ρ:Env)(h:Heap):Prop:=
 Ge ops o ρ (λρ=>Wz C n o K ρ h) (λρ=>put n o.dst K ρ undef h)
theorem Gg{C:Ctx}(g:C.Ok){n:Nat}{ops:Array Oper}{o:Oper}{i:Nat}(j:ops[i]?=some o){K:Env->Heap->Prop}{ρ:Env}{a:Act}{w:World}
  (l:Fits n a ρ) (h:DL C n ops o K ρ w.heap) {Q:Exit->Act->World->Prop} {next:Act->World->Prop}
  (d:∀a' w' ρ',Fits n a' ρ'->Ext ρ ρ' a a'->dj w w'->K ρ' w'.heap->next a' w'):wpOp C.P ops Q i next a w:=by
 obtain⟨ρ',e,c,h3⟩:=EE l h;unfold wpOp;simp only[j];rcases h3 with⟨hw,hr⟩|⟨hw,hr⟩
 .simp only[hw,if_true];exact .inl (TA g e hr λa' w' b k x2 x3 m=>d _ _ _ k (c.trans x2) x3 m)
 .simp only[hw,zc,if_false];obtain⟨b,p,f,q⟩:=te hr e;exact d _ _ _ p (c.trans f) (dj.refl w) q
def WA(C:Ctx)(n:Nat)(ops:Array Oper)(K:Env->Heap->Prop):List Oper->Env->Heap->Prop
 |[],ρ,h=>K ρ h
 |o::r,ρ,h=>DL C n ops o (WA C n ops K r) ρ h
def Out(n:Nat)(Q:Exit->Env->Heap->Prop)(ρ:Env)(a:Act)(w:World):Exit->Act->World->Prop:=λe a' w'=>
 ∃ρ',Fits n a' ρ'/\Ext ρ ρ' a a'/\dj w w'/\Q e ρ' w'.heap
theorem IW{C:Ctx}(b:C.Ok){n:Nat}{ops:Array Oper}{K:Env->Heap->Prop}{Q:Exit->Act->World->Prop}{ρ0:Env}{a0:Act}{w0:World}
  (c:∀a w ρ,Fits n a ρ->Ext ρ0 ρ a0 a->dj w0 w->K ρ w.heap->Q .normal a w):
  ∀(r:List Oper) (i:Nat),(∀j,r[j]?=ops[i+j]?)->∀(ρ:Env) (a:Act) (w:World),Fits n a ρ->Ext ρ0 ρ a0 a->dj w0 w->WA C n ops K r ρ w.heap->
   wpOps C.P ops Q (List.range' i r.length) a w
 |[],i,_,ρ,a,w,hf,hx,hl,hs=>c a w ρ hf hx hl hs
 |o::r,i,hr,ρ,a,w,hf,hx,hl,hs=>by
  have f:ops[i]?=some o:=by simpa using(hr 0).symm
  rw[q7,List.range'_succ,wpOps_cons];refine Gg b f hf hs λa' w' ρ' g d h3 e=>?_;exact IW b c r (i+1) (λj=>by have:=hr (j+1);simpa[Nat.add_assoc,Nat.add_comm 1 j]using this) ρ' a' w' g (hx.trans d) (hl.trans h3) e
abbrev bx:=List (Addr×Value)
def bx.ok:bx->Heap->Prop
 |[],_=>True
 |p::r,h=>cellOf h p.1=some p.2/\bx.ok r h
def nH(a:Addr):Nat->List Value->bx->bx
 |_,[],L=>L
 |n,v::r,L=>(a.add n,v)::nH a (n+1) r L
theorem ng{a:Addr}{h:Heap}:∀{vs:List Value} {n:Nat} {L:bx},(nH a n vs L).ok h↔aZ h a n vs/\L.ok h
 |[],_,L=>by simp[nH,aZ]
 |v::r,n,L=>by simp only[nH,bx.ok,aZ,ng (vs:=r),and_assoc]
def ux.held(r:ux)(y:r.ty.den)(L:bx):bx:=
 match r.ty,y with
 | .sc s,y=>(r.a,s.enc y)::L
 | .agg l,y=>nH r.a 0 (nG l y) L
 | .arr s,y=>nH r.a 0 (y.map s.enc) L
theorem ux.ZL{r:ux}{y:r.ty.den}{L:bx}{b:Heap}(c:r.holds b y){m:Heap}:(r.held y L).ok m↔r.holds m y/\L.ok m:=by
 obtain⟨a,ty,n⟩:=r;cases ty with
 |sc s=>rfl
 |agg l=>exact ng
 |arr s=>exact ng.trans ⟨λx=>⟨⟨c.1,x.1⟩,x.2⟩,λx=>⟨x.1.2,x.2⟩⟩
structure gg where
 op:Nat
 r:ux
 y:r.ty.den
def flat:List gg->bx
 |[]=>[]
 |p::r=>p.r.held p.y (flat r)
def gg.ok(p:gg)(w:World):Prop:=p.r.holds w.heap p.y
def waits(ops:Array Oper)(j i:Nat):Bool:=match ops[j]? with
 |some o=>o.after.any λe=>Region.binds .any e&&wF e.on i
 |none=>false
def keep(ops:Array Oper)(j:Nat):List gg->List gg
 |[]=>[]
 |p::r=>bif waits ops j p.op then keep ops j r else p::keep ops j r
theorem pk{ops:Array Oper}{j:Nat}:∀{L:List gg},∀p∈keep ops j L,p∈L
 |[],p,h=>by cases h
 |q::r,p,h=>by
  unfold keep at h;cases hw:waits ops j q.op with
  |true=>rw[hw]at h;exact qp _ (pk p h)
  |false=>
   rw[hw]at h;rcases qN.1 h with rfl|h
   .simp
   .exact qp _ (pk p h)
theorem AM{ops:Array Oper}{j:Nat}:∀{L:List gg} {p:gg},p∈L->waits ops j p.op=false->p∈keep ops j L
 |q::r,p,h,hw=>by
  unfold keep;rcases qN.1 h with rfl|h
  .grind
  .cases hq:waits ops j q.op with
   |true=>exact AM h hw
   |false=>exact qp _ (AM h hw)
theorem Fe{ops:Array Oper}{j:Nat}{p:gg}:∀{M:List gg},p∈keep ops j M->waits ops j p.op=false
 |[],h=>by cases h
 |q::r,h=>by
  unfold keep at h;cases hq:waits ops j q.op with
  |true=>rw[hq]at h;exact Fe h
  |false=>
   rw[hq]at h;rcases qN.1 h with rfl|h
   .exact hq
   .exact Fe h
theorem Cf{ops:Array Oper}{j:Nat}{L a:List gg}(c:∀p∈a,p∈L):∀p∈keep ops j a,p∈keep ops j L:=
 λp b=>AM (c p (pk p b)) (Fe b)
def lO(P:Program)(ops:Array Oper)(Q:Exit->Act->World->Prop):Nat->List gg->Array Bool->Act->World->Prop
 |0,_,listed,a,w=>Region.ready .any ops listed=[]/\Q .normal a w
 |fuel+1,L,listed,a,w=>
  (Region.ready .any ops listed=[]->Q .normal a w)/\
  ∀i∈Region.ready .any ops listed,wpOp P ops Q i (λa' w'=>(∀p∈keep ops i L,p.ok w')/\lO P ops Q fuel (keep ops i L) (listed.setIfInBounds i true) a' w') a w
theorem Gh{P:Program}{ops:Array Oper}{Q:Exit->Act->World->Prop}:∀(b:Nat) (L:List gg) (c:Array Bool) (a:Act) (w:World),lO P ops Q b L c a w->wpAny P .any ops Q b c a w
 |0,_,_,_,_,h=>h
 |b+1,_,_,_,_,h=>⟨h.1,λi d=>wpOp_mono (λa' w' h'=>Gh b _ _ a' w' h'.2) (h.2 i d)⟩
theorem AN{P:Program}{ops:Array Oper}{Q:Exit->Act->World->Prop}:∀(b:Nat) {L d:List gg} (c:Array Bool) (a:Act) (w:World),(∀p∈d,p∈L)->lO P ops Q b L c a w->lO P ops Q b d c a w
 |0,_,_,_,_,_,_,h=>h
 |b+1,_,_,_,_,_,hs,h=>⟨h.1,λi f=>wpOp_mono (λa' w' h'=>⟨λp e=>h'.1 p (Cf hs p e),AN b _ a' w' (Cf hs) h'.2⟩) (h.2 i f)⟩
theorem Ld{P:Program}{ops:Array Oper}{Q:Exit->Act->World->Prop}{i:Nat}{s:Oper}{v:Value}{T:World->Prop}{N:List gg}(X:ops[i]?=some s)(y:∀(j:Nat) (o:Oper) cs b,ops[j]?=some o->o.op≠.select cs b)
  (hQ:∀c a w,Q (.panic c) (a.put s.dst v) w->Q (.panic c) a w) (hN:∀p∈N,p.op=i) (hT:∀w,(∀p∈N,p.ok w)->T w):
  ∀(f:Nat) (L:List gg) (d:Array Bool) (a:Act) (w:World),
   (∀j t,ops[j]?=some t->j≠i->d.getD j true=false->(∀e∈t.after,Region.binds .any e=true->e.on≠i)->s.apart ops t=true)->
   i∈Region.ready .any ops d->YieldsIf P ops T s v a->(∀p∈N,p.ok w)->(∀p∈L,p.ok w)->
   lO P ops Q f (N++L) (d.setIfInBounds i true) (a.put s.dst v) w->lO P ops Q (f+1) L d a w:=by
 intro f;have B:∀(f:Nat) (L:List gg) (d:Array Bool) (a:Act) (w:World),YieldsIf P ops T s v a->(∀p∈N,p.ok w)->(∀p∈L,p.ok w)->
   lO P ops Q f (N++L) (d.setIfInBounds i true) (a.put s.dst v) w->
   wpOp P ops Q i (λa' w'=>(∀p∈keep ops i L,p.ok w')/\lO P ops Q f (keep ops i L) (d.setIfInBounds i true) a' w') a w:=λf L d a w F r M H=>
  F.wpOp X (hT w r) ⟨λp g=>M p (pk p g),AN f _ _ _ (λp g=>ye _ (pk p g)) H⟩
 induction f with
 |zero=>
  intro L d a w _ G F r M H;refine⟨λh=>(by grind),λj O=>?_⟩;by_cases m:j=i
  .grind
  .have:=ready_mono O m;rw[H.1]at this;cases this
 |succ f ih=>
  intro L d a w n G F r M H;refine⟨λh=>(by rw[h]at G;cases G),λj O=>?_⟩;by_cases m:j=i
  .subst m;exact B (f+1) L d a w F r M H
  .have A:=H.2 j (ready_mono O m);obtain⟨I,t,u,J⟩:=mem_ready.1 O;have x:∀e∈t.after,Region.binds .any e=true->e.on≠i:=λe he K U=>by
    have A:=J e he K;have Y:=(mem_ready.1 G).1;rw[U]at A;rcases Nat.lt_or_ge i d.size with h'|h'
    .simp[h']at Y A;rw[Y]at A;cases A
    .simp[Array.getElem?_eq_none h']at A
   have Z:(t.after.any λe=>Region.binds .any e&&wF e.on i)=false:=by
    cases hc:t.after.any λe=>Region.binds .any e&&wF e.on i with
    |false=>rfl
    |true=>
     obtain⟨k,S,K⟩:=Array.any_eq_true.1 hc;simp only[qC]at K;exact absurd (zH K.2) (x _ (Array.getElem_mem S) K.1)
   have V:waits ops j i=false:=by unfold waits;rw[u];omega
   have z:∀p,p∈N->p∈keep ops j (N++L):=λp g=>AM (List.mem_append_left _ g) (by rw[hN p g];omega);have l:∀p,p∈keep ops j L->p∈keep ops j (N++L):=Cf λp g=>ye _ g;have h2:=wpOp_putIf u (n j t u m I x) (λcs b=>y i s cs b X) (λcs b=>y j t cs b u) hQ F A;have q:∀k ok,ops[k]?=some ok->k≠i->(d.setIfInBounds j true).getD k true=false->
     (∀e∈ok.after,Region.binds .any e=true->e.on≠i)->s.apart ops ok=true:=λk ok S W E R=>by
    refine n k ok S W ?_ R;by_cases D:j=k
    .subst D;omega
    .rw[getD_set_ne true D]at E;exact E
   refine wpOp_mono (λa' w' h3=>⟨λp g=>h3.2.1 p (l p g),ih (keep ops j L) (d.setIfInBounds j true) a' w' q (ready_mono G (Ne.symm m)) h3.1 (λp g=>h3.2.1 p (z p g)) (λp g=>h3.2.1 p (l p g)) ?_⟩) h2;rw[Array.setIfInBounds_comm _ _ m];refine AN _ _ _ _ (λp g=>?_) h3.2.2;rcases List.mem_append.1 g with g|g
   .exact z p g
   .exact l p g
theorem vi{P:Program}{ops:Array Oper}{Q:Exit->Act->World->Prop}{i:Nat}{e:Oper}{v:Value}{T:World->Prop}{N:List gg}{d:Nat}{L:List gg}{b:Array Bool}{a:Act}{w:World}(g:ops[i]?=some e)
  (m:Region.noSelect ops=true) (n:Region.free .any ops b i=true) (r:(Region.ready .any ops b).contains i=true)
  (q:∀c a w,Q (.panic c) (a.put e.dst v) w->Q (.panic c) a w) (o:∀p∈N,p.op=i) (j:∀w,(∀p∈N,p.ok w)->T w) (l:YieldsIf P ops T e v a) (f:∀p∈N,p.ok w) (k:∀p∈L,p.ok w)
  (h:lO P ops Q d (N++L) (b.setIfInBounds i true) (a.put e.dst v) w):lO P ops Q (d+1) L b a w:=
 Ld g (Region.noSelect_spec m) q o j d L b a w (Region.free_spec g n) (by grind) l f k h
theorem HV:∀{L:List gg} {w0:World},(∀p∈L,p.ok w0)->∀{m:Heap},(flat L).ok m->∀p∈L,p.r.holds m p.y
 |[],_,_,_,_,p,a=>by cases a
 |q::r,w0,h0,m,h,p,a=>by
  have h:=(ux.ZL (h0 q List.mem_cons_self)).1 h;rcases qN.1 a with rfl|a
  .exact h.1
  .exact HV (λp a=>h0 p (qp _ a)) h.2 p a
def YA(T:ki)(t:TypeId):Bool:=match T.get t with
 |some i=>match i.ty with
  | .sc .slc=>true
  |_=>false
 |none=>false
def YB(T:ki):Op->Bool
 | .convert s d _=>!(YA T s||YA T d)
 | .move _| .assign _| .pick .. | .nilCheck _| .fieldAddr .. | .indexAddr .. | .index .. | .field .. | .extract .. | .binOp .. | .unOp .. | .build .. | .makeFunc .. | .load .. =>true
 | .slice _ _ _ _ none=>true
 | .call c=>match c.callee with
  | .builtin .len| .builtin .cap| .builtin .min| .builtin .max| .builtin .real| .builtin .imag=>true
  |_=>false
 |_=>false
def nI(T:ki)(ops:Array Oper)(a:Array Bool):List Nat->Option Nat
 |[]=>none
 |i::r=>match ops[i]? with
  |some o=>bif YB T o.op&&Region.free .any ops a i then some i else nI T ops a r
  |none=>nI T ops a r
def QI(C:Ctx)(n:Nat)(ops:Array Oper)(i:Nat)(o:Oper)(L:List gg)(K:List gg->Env->Heap->Prop)(ρ:Env)(h:Heap):Prop:=
 Ge ops o ρ (λρ=>match Ah C.P C.T o.op ρ.eval with
  | .no=>match td C.T o.op ρ.eval with
   |some r=>∃y:r.ty.den,r.holds h y/\put n o.dst (K (⟨i,r,y⟩::L)) ρ (r.ty.enc y) h
   |none=>False
  |p=>p.holds λv=>put n o.dst (K L) ρ v h) (λρ=>put n o.dst (K L) ρ undef h)
def Le(C:Ctx)(n:Nat)(ops:Array Oper)(K:Nat->Env->Heap->Prop)(ρ:Env)(h:Heap):List Nat->Prop
 |[]=>True
 |[i]=>match ops[i]? with
  |some o=>DL C n ops o (K i) ρ h
  |none=>False
 |i::j::r=>(match ops[i]? with
  |some o=>DL C n ops o (K i) ρ h
  |none=>False)/\Le C n ops K ρ h (j::r)
def th(C:Ctx)(n:Nat)(ops:Array Oper)(K:Env->Heap->Prop):Nat->Array Bool->List gg->Env->Heap->Prop
 |0,listed,_,ρ,h=>bif (Region.ready .any ops listed).isEmpty then K ρ h else False
 |k+1,listed,L,ρ,h=>match nI C.T ops listed (Region.ready .any ops listed)with
  |some i=>match ops[i]? with
   |some o=>QI C n ops i o L (th C n ops K k (listed.setIfInBounds i true)) ρ h
   |none=>False
  |none=>match Region.ready .any ops listed with
   |[]=>K ρ h
   |i::r=>Le C n ops (λi ρ h=>(flat (keep ops i L)).ok h/\th C n ops K k (listed.setIfInBounds i true) (keep ops i L) ρ h) ρ h (i::r)
theorem rT{T:ki}{ops:Array Oper}{a:Array Bool}:∀{rs:List Nat} {i:Nat},nI T ops a rs=some i->i∈rs/\Region.free .any ops a i=true
 |[],_,h=>by cases h
 |j::r,i,h=>by
  simp only[nI]at h;split at h
  .rename_i o b;cases hb:(YB T o.op&&Region.free .any ops a j)with
   |true=>
    grind
   |false=>
    rw[hb]at h;have:=rT h
    grind
  .have:=rT h
   grind
theorem IX{C:Ctx}{n:Nat}{ops:Array Oper}{K:Nat->Env->Heap->Prop}{ρ:Env}{h:Heap}:∀{l:List Nat},Le C n ops K ρ h l->∀i∈l,∃o,ops[i]?=some o/\DL C n ops o (K i) ρ h
 |[],_,i,hi=>by cases hi
 |[j],ha,i,hi=>by
  simp only[Le]at ha
  grind
 |j::k::r,ha,i,hi=>by
  obtain⟨b,a⟩:=ha;rcases qN.1 hi with rfl|hi
  .grind
  .exact IX a i hi
variable {n:Nat} {ops:Array Oper} {Q:Exit->Act->World->Prop} {ρ0:Env} {a0:Act} {w0:World}
section
variable {C:Ctx} {K:Env->Heap->Prop}
theorem IY(G:C.Ok)(I:Region.noSelect ops=true)
  (W:∀a w ρ,Fits n a ρ->Ext ρ0 ρ a0 a->dj w0 w->K ρ w.heap->Q .normal a w) (u:∀c a w,¬Q (.panic c) a w):
  ∀(k:Nat) (b:Array Bool) (L:List gg) (ρ:Env) (a:Act) (w:World),Fits n a ρ->Ext ρ0 ρ a0 a->dj w0 w->(∀p∈L,p.ok w)->
   th C n ops K k b L ρ w.heap->lO C.P ops Q k L b a w
 |0,b,L,ρ,a,w,hf,hx,hl,hL,h=>by
  simp only[th]at h;cases hb:(Region.ready .any ops b).isEmpty with
  |false=>rw[hb]at h;exact h.elim
  |true=>rw[hb]at h;exact⟨by simpa using hb,W _ _ _ hf hx hl h⟩
 |k+1,b,L,ρ,a,w,hf,hx,hl,hL,h=>by
  have H:=IY G I W u k;simp only[th]at h;split at h
  .rename_i i J;obtain⟨F,f⟩:=rT J;have d:(Region.ready .any ops b).contains i=true:=by simpa using F
   split at h
   .rename_i o B;unfold QI at h;obtain⟨ρ',M,S,h3⟩:=EE hf h;have s:∀c a w (v:Value),Q (.panic c) (Act.put a o.dst v) w->Q (.panic c) a w:=λc a w v hq=>absurd hq (u c _ w);have X:∀x v,Env.eval ρ' x=some v->a.eval x=v:=λx v h=>M.eval h;rcases h3 with⟨t,g⟩|⟨t,g⟩
    .have q:(Ah C.P C.T o.op (Env.eval ρ')).holds (λv=>put n o.dst (th C n ops K k (b.setIfInBounds i true) L) ρ' v w.heap)->
       lO C.P ops Q (k+1) L b a w:=λe=>by
      obtain⟨v,hv,U⟩:=Gb G.toOk X e;obtain⟨m,D,z,E⟩:=te U M;exact vi (N:=[]) (T:=λ_=>True) B I f d (λc a w=>s c a w v) (λp e=>by cases e) (λ_ _=>trivial) (.inl ⟨t,λw _=>hv w⟩) (λp e=>by cases e) hL
       (H _ L m _ w D (hx.trans (S.trans z)) hl hL E)
     split at g
     .split at g
      .rename_i r A;obtain⟨y,Z,U⟩:=g;obtain⟨m,D,z,E⟩:=te U M;have O:∀p∈[(⟨i,r,y⟩:gg)],p.ok w:=λp e=>by rw[qB]at e;subst e;exact Z
       refine vi (N:=[⟨i,r,y⟩]) (T:=λw=>r.holds w.heap y) B I f d (λc a w=>s c a w _) (λp e=>by rw[qB]at e;subst e;rfl)
        (λw h=>h ⟨i,r,y⟩ (qB.2 rfl)) (.inl ⟨t,λw t=>AL G.toOk X A t⟩) O hL ?_
       refine H _ (⟨i,r,y⟩::L) m _ w D (hx.trans (S.trans z)) hl (λp e=>?_) E
       grind
      .exact g.elim
     .exact q g
    .obtain⟨m,D,z,E⟩:=te g M;exact vi (N:=[]) (T:=λ_=>True) B I f d (λc a w=>s c a w undef) (λp e=>by cases e) (λ_ _=>trivial) (.inr ⟨t,rfl⟩) (λp e=>by cases e) hL
      (H _ L m _ w D (hx.trans (S.trans z)) hl hL E)
   .exact h.elim
  .split at h
   .rename_i g;exact⟨λ_=>W _ _ _ hf hx hl h,λi J=>by rw[g]at J;cases J⟩
   .rename_i i r g;refine⟨λh0=>absurd (g▸h0) (by simp),λj Y=>?_⟩;rw[g]at Y;obtain⟨o,B,R⟩:=IX h j Y;have l:∀p∈keep ops j L,p.ok w:=λp e=>hL p (pk p e);exact Gg G B hf R λa' w' ρ' x1 x2 x3 V=>⟨HV l V.1,H _ (keep ops j L) ρ' a' w' x1 (hx.trans x2) (hl.trans x3) (HV l V.1) V.2⟩
end
def sched(T:ki)(ops:Array Oper):Nat->Array Bool->Option (List (Nat×Bool))
 |0,listed=>bif (Region.ready .any ops listed).isEmpty then some []else none
 |k+1,listed=>match nI T ops listed (Region.ready .any ops listed)with
  |some i=>(sched T ops k (listed.setIfInBounds i true)).map ((i,true)::·)
  |none=>match Region.ready .any ops listed with
   |[]=>some []
   |[i]=>(sched T ops k (listed.setIfInBounds i true)).map ((i,false)::·)
   |_::_::_=>none
def rq(C:Ctx)(n:Nat)(ops:Array Oper)(K:Env->Heap->Prop):List (Nat×Bool)->List gg->Env->Heap->Prop
 |[],_,ρ,h=>K ρ h
 |(i,true)::r,L,ρ,h=>match ops[i]? with
  |some o=>QI C n ops i o L (rq C n ops K r) ρ h
  |none=>False
 |(i,false)::r,L,ρ,h=>match ops[i]? with
  |some o=>DL C n ops o (λρ h=>(flat (keep ops i L)).ok h/\rq C n ops K r (keep ops i L) ρ h) ρ h
  |none=>False
theorem IZ{C:Ctx}{n:Nat}{ops:Array Oper}{K:Env->Heap->Prop}:∀(k:Nat) (a:Array Bool) (l:List (Nat×Bool)),sched C.T ops k a=some l->
  th C n ops K k a=rq C n ops K l
 |0,a,l,hs=>by
  simp only[sched]at hs;cases hb:(Region.ready .any ops a).isEmpty with
  |false=>rw[hb]at hs;cases hs
  |true=>
   rw[hb]at hs;cases hs;funext L ρ h;simp only[th,hb,rq,cond_true]
 |k+1,a,l,hs=>by
  have d:=λi=>IZ (C:=C) (n:=n) (ops:=ops) (K:=K) k (a.setIfInBounds i true);funext L ρ h;unfold sched at hs;unfold th;cases hi:nI C.T ops a (Region.ready .any ops a)with
  |some i=>
   rw[hi]at hs;obtain⟨c,b,rfl⟩:=yV.1 hs;simp only[rq,d i c b]
  |none=>
   rw[hi]at hs;generalize e:Region.ready .any ops a=rd at hs
   match rd,hs with
   |[],hs=>cases hs;simp only[rq]
   |[i],hs=>
    obtain⟨c,b,rfl⟩:=yV.1 hs;simp only[Le,rq,d i c b]
def HW(C:Ctx)(n:Nat)(ops:Array Oper)(a:Bool)(K:Env->Heap->Prop)(ρ:Env)(h:Heap):Prop:=
 match a with
 |false=>WA C n ops K ops.toList ρ h
 |true=>bif Region.noSelect ops then(match sched C.T ops ops.size (vB ops.size false)with
  |some l=>rq C n ops K l [] ρ h
  |none=>th C n ops K ops.size (vB ops.size false) [] ρ h)else False
theorem Lf{C:Ctx}(d:C.Ok){n:Nat}{id:Nat}{ops:Array Oper}{b:Bool}{Q:Exit->Env->Heap->Prop}{ρ:Env}{a:Act}{w:World}(i:Fits n a ρ)
  (h:HW C n ops b (Q .normal) ρ w.heap):(Code.region id ops b).wp C.P (λe a' w'=>(∀c,e≠.panic c)/\Out n Q ρ a w e a' w') a w:=by
 cases b with
 |false=>
  refine wp_region ?_;have:=IW d (Q:=λe a' w'=>(∀c,e≠.panic c)/\Out n Q ρ a w e a' w') (K:=Q .normal) (ρ0:=ρ) (a0:=a) (w0:=w) (λa' w' ρ' f x2 x3 g=>⟨λc e=>(by cases e),ρ',f,x2,x3,g⟩)
   ops.toList 0 (λj=>by simp) ρ a w i (Ext.refl _ _) (dj.refl _) h
  rw[List.range_eq_range'];simpa using this
 |true=>
  simp only[HW]at h;cases hb:Region.noSelect ops with
  |false=>rw[hb]at h;exact h.elim
  |true=>
   rw[hb]at h;have h:th C n ops (Q .normal) ops.size (vB ops.size false) [] ρ w.heap:=by
    simp only[cond_true]at h;split at h
    .rename_i l k;rw[IZ _ _ _ k];exact h
    .exact h
   refine wp_region_any d.mixed (Gh _ [] _ _ _ ?_);exact IY d hb (Q:=λe a' w'=>(∀c,e≠.panic c)/\Out n Q ρ a w e a' w') (ρ0:=ρ) (a0:=a) (w0:=w) (λa' w' ρ' f x2 x3 g=>⟨λc e=>(by cases e),ρ',f,x2,x3,g⟩)
    (λc a w m=>m.1 c rfl) _ _ [] ρ a {w with drawn:=w.drawn+1} i (Ext.refl _ _) ⟨rfl,rfl,rfl,Nat.le_succ _⟩ (λp o=>by cases o) h
def ly{σ:Type}(rest:σ->Heap->Prop)(B:(σ->Heap->Prop)->Prop):Prop:=∃R:σ->Heap->Prop,(∀s h,R s h->rest s h)/\B R
def fP{σ:Type}(B:σ->(σ->Heap->Prop)->Heap->Prop)(s:σ)(h:Heap):Prop:=
 ∃(τ:Type) (V:τ->σ) (I:τ->Heap->Prop) (μ:τ->Nat) (t0:τ),s=V t0/\I t0 h/\∀t h,I t h->B (V t) (λb h'=>∃a,b=V a/\I a h'/\μ a<μ t) h
theorem TB{P:Program}{c:Code}{Q:Exit->Act->World->Prop}{a:Act}{w:World}{σ:Type}(R:σ->Act->World->Prop)(μ:σ->World->Nat)(t:σ)(z:R t a w)
  (g:∀s a w,R s a w->c.wp P (Exit.then (λa' w'=>∃m,R m a' w'/\μ m w'<μ s w) Q) a w):(Code.loop c).wp P Q a w:=by
 intro b k cs;have q:∀n s a w,μ s w=n->R s a w->
   ∃e a' w',Q e a' w'/\Arrives P (lone (b.at a (.code c::.inLoop c::k)) cs w) b k cs e a' w':=by
  intro n
  induction n using Nat.strongRecOn with
  |_ n ih=>
   intro s a w v A;obtain⟨e,j,i,f,d⟩:=g s a w A b (.inLoop c::k) cs;cases e with
   |normal=>
    obtain⟨m,o,r⟩:=f;obtain⟨y,B,u,p,h⟩:=ih (μ m i) (v▸r) m j i rfl o;exact⟨y,B,u,p,.of_steps (Steps.trans d (.one step_inLoop)) h⟩
   |exit id=>exact⟨_,j,i,f,.pass (x:=.inLoop c) rfl (λ_ _=>.inl (by simp)) d⟩
   |goto l=>exact⟨_,j,i,f,.pass (x:=.inLoop c) rfl (λ_ _=>.inl (by simp)) d⟩
   |ret=>exact⟨_,j,i,f,.pass (x:=.inLoop c) rfl (λ_ _=>.inl (by simp)) d⟩
   |panic ch=>exact⟨_,j,i,f,.pass (x:=.inLoop c) rfl (λ_ _=>.inl (by simp)) d⟩
   |outgrown=>exact⟨_,j,i,f,.pass (x:=.inLoop c) rfl (λ_ _=>.inl (by simp)) d⟩
 obtain⟨e,a',w',f,d⟩:=q _ t a w rfl z;exact⟨e,a',w',f,.of_steps (.one step_loop) d⟩
inductive cg where
 |n
 |two (a b:cg)
 |inn (a:cg)
 |loop (σ:dC) (κ:dl) (a:cg)
 |join (σ:dC) (κ:dl) (a:cg)
 |scope (l:Nat) (σ:dC) (κ:dl) (pre rest:List cg) (fwd:List (Nat×List cg))
 |fwd (a:cg) (fwd:List (Nat×List cg))
def cg.fst:cg->cg
 | .two a _=>a
 |_=>.n
def cg.snd:cg->cg
 | .two _ b=>b
 |_=>.n
def cg.sub:cg->cg
 | .inn a=>a
 |_=>.n
abbrev QT:=Exit->Env->Heap->Prop
def Gi(σ:dC)(κ:dl)(ρ:Env)(K:σ.den->Heap->Prop)(Q:QT):QT
 | .normal,ρ',h=>bif within σ κ ρ' (ρ'.length-ρ.length)then(match σ.read ρ' with|some s=>K s h|none=>False)else False
 |e,ρ',h=>Q e ρ' h
def DM(next:Env->Heap->Prop)(Q:QT):QT
 | .normal,ρ,h=>next ρ h
 |e,ρ,h=>Q e ρ h
def TC(id:Nat)(Q:QT):QT
 | .exit i,ρ,h=>bif wF i id then Q .normal ρ h else Q (.exit i) ρ h
 |e,ρ,h=>Q e ρ h
abbrev Rec:=Code->cg->QT->Env->Heap->Prop
def uy(rec:Rec):List Code->List cg->QT->Env->Heap->Prop
 |[],_,Q,ρ,h=>Q .normal ρ h
 |c::cs,[],Q,ρ,h=>rec c .n (DM (uy rec cs [] Q) Q) ρ h
 |c::cs,x::xs,Q,ρ,h=>rec c x (DM (uy rec cs xs Q) Q) ρ h
def chain:Code->Nat->Option (List Code×List Code)
 | .seq a b,l=>match chain a l with
  |some (p,r)=>some (p,r++[b])
  |none=>match chain b l with
   |some (p,r)=>some (a::p,r)
   |none=>none
 | .label l',l=>bif wF l' l then some ([],[])else none
 |_,_=>none
def YC(a:List (Nat×List cg))(l:Nat):Option (List cg):=
 match a with
 |[]=>none
 |p::r=>bif wF p.1 l then some p.2 else YC r l
def DN(rec:Rec)(c:Code)(a:List (Nat×List cg))(Q:QT):Nat->QT
 |0=>λ_ _ _=>False
 |g+1=>λe ρ h=>match e with
  | .goto l=>match YC a l with
   |some xs=>match chain c l with
    |some (_,r)=>uy rec r xs (DN rec c a Q g) ρ h
    |none=>False
   |none=>Q (.goto l) ρ h
  |e=>Q e ρ h
def QJ(l:Nat)(σ:dC)(κ:dl)(ρ:Env)(K:σ.den->Heap->Prop)(Q:QT):QT
 | .goto l',ρ',h=>bif wF l' l then(bif within σ κ ρ' (ρ'.length-ρ.length)then(match σ.read ρ' with|some s=>K s h|none=>False)else False)else Q (.goto l') ρ' h
 |e,ρ',h=>Q e ρ' h
def Lg(c:Code)(Q:QT):QT
 | .goto l,ρ,h=>match findLabel c l with
  |none=>Q (.goto l) ρ h
  |some _=>False
 |e,ρ,h=>Q e ρ h
def Lh(C:Ctx)(n:Nat)(rec:Rec)(c:Code)(d:cg)(Q:QT)(ρ:Env)(h:Heap):Prop:=
 match d with
 | .join σ κ a=>ly (λs h=>Q .normal (σ.vals s (κ.over ρ)) h) (λK=>rec c a (Gi σ κ ρ K Q) ρ h)
 |d=>match c with
  | .skip=>Q .normal ρ h
  | .label _=>Q .normal ρ h
  | .region _ ops draw=>HW C n ops draw (Q .normal) ρ h
  | .seq a b=>rec a d.fst (DM (rec b d.snd Q) Q) ρ h
  | .cond x a b=>match ρ.eval x with
   |some (.bool t)=>Br t (rec a d.fst Q ρ h) (rec b d.snd Q ρ h)
   |_=>False
  | .block id c=>rec c d.sub (TC id Q) ρ h
  | .exit id=>Q (.exit id) ρ h
  | .goto l=>Q (.goto l) ρ h
  | .ret=>Q .ret ρ h
  | .loop c=>match d with
   | .loop σ κ a=>match σ.read ρ with
    |some s0=>fP (λs K h=>rec c a (Gi σ κ (σ.vals s (κ.over ρ)) K Q) (σ.vals s (κ.over ρ)) h) s0 h
    |none=>False
   |_=>False
  | .scope c=>match d with
   | .scope l σ κ pre rest fwd=>match chain c l with
    |some (p,r)=>uy rec p pre (DM (λρ' h'=>match σ.read ρ' with
     |some s0=>fP (λs K h=>uy rec r rest (DN rec c fwd (QJ l σ κ (σ.vals s (κ.over ρ')) K (Lg c Q)) 4) (σ.vals s (κ.over ρ')) h) s0 h'
     |none=>False) (Lg c Q)) ρ h
    |none=>False
   | .fwd a fwd=>rec c a (DN rec c fwd (Lg c Q) 4) ρ h
   |_=>False
  |_=>False
def vc(C:Ctx)(n:Nat):Nat->Rec
 |0=>λ_ _ _ _ _=>False
 |f+1=>Lh C n (vc C n f)
def DO(C:Ctx)(n:Nat)(rec:Rec):Prop:=∀(c:Code) (b:cg) (Q:QT) (ρ:Env) (a:Act) (w:World),Fits n a ρ->rec c b Q ρ w.heap->c.wp C.P (Out n Q ρ a w) a w
variable {ρ ρ':Env} {a a':Act} {w w':World}
section
variable {C:Ctx} {Q:QT}
theorem Out.base{e:Exit}{c:Act}{b:World}(f:Ext ρ ρ' a a')(j:dj w w')(h:Out n Q ρ' a' w' e c b):Out n Q ρ a w e c b:=by obtain⟨d,i,k,h3,g⟩:=h;exact⟨d,i,f.trans k,j.trans h3,g⟩
theorem Out.then{next:Env->Heap->Prop}{N:Act->World->Prop}{j:Exit->Act->World->Prop}{e:Exit}{c:Act}{b:World}(h:Out n (DM next Q) ρ a w e c b)
  (l:∀ρ',Fits n c ρ'->Ext ρ ρ' a c->dj w b->next ρ' b.heap->N c b) (k:Out n Q ρ a w e c b->e≠.normal->j e c b):Exit.then N j e c b:=by
 obtain⟨d,g,i,h3,f⟩:=h;cases e<;>first|exact l d g i h3 f|exact k ⟨d,g,i,h3,f⟩ (by simp)
def nh(P:Program):List Code->(Exit->Act->World->Prop)->Act->World->Prop
 |[],Q,a,w=>Q .normal a w
 |c::cs,Q,a,w=>c.wp P (Exit.then (nh P cs Q) Q) a w
theorem kG{P:Program}{Q d:Exit->Act->World->Prop}(b:∀e a w,Q e a w->d e a w):∀(l:List Code) (a:Act) (w:World),nh P l Q a w->nh P l d a w
 |[],_,_,h=>b _ _ _ h
 |c::cs,a,w,h=>wp_mono h λe a w h=>by
  cases e<;>first|exact kG b cs a w h|exact b _ _ _ h
theorem ou{rec:Rec}(d:DO C n rec):∀(l:List Code) (xs:List cg) (Q:QT) (ρ:Env) (a:Act) (w:World),Fits n a ρ->uy rec l xs Q ρ w.heap->nh C.P l (Out n Q ρ a w) a w
 |[],_,Q,ρ,a,w,hf,h=>⟨ρ,hf,Ext.refl _ _,dj.refl _,h⟩
 |c::cs,[],Q,ρ,a,w,hf,h=>by
  refine wp_mono (d c .n _ ρ a w hf h) λe a' w' b=>b.then (λρ' f x2 x3 g=>?_) λb _=>b;exact kG (λe a w h=>h.base x2 x3) cs a' w' (ou d cs [] Q ρ' a' w' f g)
 |c::cs,x::xs,Q,ρ,a,w,hf,h=>by
  refine wp_mono (d c x _ ρ a w hf h) λe a' w' b=>b.then (λρ' f x2 x3 g=>?_) λb _=>b;exact kG (λe a w h=>h.base x2 x3) cs a' w' (ou d cs xs Q ρ' a' w' f g)
end
theorem vl{P:Program}{b:Code}{Q:Exit->Act->World->Prop}:∀(l:List Code) (a:Act) (w:World),nh P (l++[b]) Q a w->nh P l (Exit.then (b.wp P Q) Q) a w
 |[],a,w,h=>by
  refine wp_mono h λe a w h=>?_;cases e<;>exact h
 |c::cs,a,w,h=>wp_mono h λe a w h=>by
  cases e<;>first|exact vl cs a w h|exact h
theorem pV:∀{c:Code} {l:Nat} {p r:List Code},chain c l=some (p,r)->∃k,findLabel c l=some k/\
  (∀{P:Program} {Q:Exit->Act->World->Prop} {a:Act} {w:World},nh P r Q a w->k.wp P Q a w)/\
  (∀{P:Program} {Q:Exit->Act->World->Prop} {a:Act} {w:World},nh P p (Exit.then (nh P r Q) Q) a w->c.wp P Q a w)
 | .seq x y,l,p,r,h=>by
  simp only[chain]at h;split at h
  .rename_i q j d;cases h;obtain⟨k,m,i,h3⟩:=pV d;refine⟨.seq k y,by simp[findLabel,m],λ{P Q a w} h=>wp_seq (i (vl j a w h)),λ{P Q a w} h=>wp_seq (h3 ?_)⟩;refine kG (λe a w g=>?_) p a w h;cases e<;>first|exact vl j a w g|exact g
  .rename_i d;split at h
   .rename_i q j o;cases h;obtain⟨k,m,i,h3⟩:=pV o;have n:findLabel x l=none:=by
     induction x with
     |seq a b iha ihb=>
      simp only[chain]at d;split at d
      .cases d
      .rename_i s;split at d
       .cases d
       .rename_i f;simp[findLabel,iha s,ihb f]
     |label l'=>
      simp only[chain]at d;cases f:wF l' l with
      |true=>grind
      |false=>
       have:¬l'=l:=λe=>by subst e;simp at f
       simp[findLabel,this]
     |_=>rfl
    refine⟨k,by simp[findLabel,n,m],i,λ{P Q a w} h=>wp_seq (wp_mono h λe a w g=>?_)⟩;cases e<;>first|exact h3 g|exact g
   grind
 | .label l',l,p,r,h=>by
  simp only[chain]at h;cases f:wF l' l with
  |false=>grind
  |true=>
   rw[f]at h;cases h;have:=zH f;subst this;exact⟨.skip,by simp[findLabel],λh=>wp_skip h,λh=>wp_label h⟩
 | .skip,_,_,_,h=>by cases h
 | .region ..,_,_,_,h=>by cases h
 | .cond ..,_,_,_,h=>by cases h
 | .block ..,_,_,_,h=>by cases h
 | .loop _,_,_,_,h=>by cases h
 | .rangeFunc ..,_,_,_,h=>by cases h
 | .exit _,_,_,_,h=>by cases h
 | .scope _,_,_,_,h=>by cases h
 | .goto _,_,_,_,h=>by cases h
 | .ret,_,_,_,h=>by cases h
 | .refuse _,_,_,_,h=>by cases h
variable {c:Code} {b:Frame} {k:List Item} {cs:List Frame}
def Reach(P:Program)(c:Code)(Q:Exit->Act->World->Prop)(b:Frame)(k:List Item)(d:List Frame)(a:Act)(w:World)(r:Code):Prop:=
 ∃e a' w',Q e a' w'/\Arrives P (lone (b.at a (.code r::.inScope c::k)) d w) b k d e a' w'
def Good(P:Program)(c:Code)(Q:Exit->Act->World->Prop)(b:Frame)(k:List Item)(d:List Frame):Exit->Act->World->Prop
 | .goto l,a,w=>match findLabel c l with
  |some r=>Reach P c Q b k d a w r
  |none=>Q (.goto l) a w
 |e,a,w=>Q e a w
theorem Li{m:Machine}{e:Exit}{a:Act}{w:World}(f:Good P c Q b k cs e a w)(d:Arrives P m b (.inScope c::k) cs e a w):
  ∃e a' w',Q e a' w'/\Arrives P m b k cs e a' w':=by
 cases e with
 |normal=>exact⟨.normal,a,w,f,Steps.trans d (.one step_inScope)⟩
 |exit id=>exact⟨.exit id,a,w,f,λi h=>d i (by simp[exitTo,h])⟩
 |goto l=>
  simp only[Good]at f;cases hf:findLabel c l with
  |none=>
   rw[hf]at f;exact⟨.goto l,a,w,f,λi h=>d i (by simp[gotoIn,hf,h])⟩
  |some r=>
   rw[hf]at f;obtain⟨o,p,n,j,g⟩:=f;exact⟨o,p,n,j,.of_steps (d _ (by simp[gotoIn,hf])) g⟩
 |ret=>exact⟨_,a,w,f,d⟩
 |panic ch=>exact⟨_,a,w,f,d⟩
 |outgrown=>exact⟨_,a,w,f,d⟩
theorem Lj{r:Code}{a:Act}{w:World}(h:r.wp P (Good P c Q b k cs) a w):Reach P c Q b k cs a w r:=by obtain⟨e,a',w',f,d⟩:=h b (.inScope c::k) cs;exact Li f d
theorem BG{a:Act}{w:World}(h:∀b k cs,c.wp P (Good P c Q b k cs) a w):(Code.scope c).wp P Q a w:=by intro b k cs;obtain⟨e,m,l,i,d⟩:=h b k cs b (.inScope c::k) cs;obtain⟨f,a',w',g,j⟩:=Li i d;exact⟨f,a',w',g,.of_steps (.one step_scope) j⟩
variable {rec:Rec}
section
variable {C:Ctx}
theorem AO(t:DO C n rec){c:Code}{o:List (Nat×List cg)}{s:QT}{u:Exit->Act->World->Prop}{b:Frame}{k:List Item}{q:List Frame}{ρ:Env}{a0:Act}{w0:World}
  (j:∀e f d i,Fits n d f->Ext ρ f a0 d->dj w0 i->s e f i.heap->Good C.P c u b k q e d i):
  ∀(g:Nat) (e:Exit) (f:Env) (d:Act) (i:World),Fits n d f->Ext ρ f a0 d->dj w0 i->DN rec c o s g e f i.heap->Good C.P c u b k q e d i
 |0,_,_,_,_,_,_,_,h=>h.elim
 |g+1,e,f,d,i,hf,hx,hl,h=>by
  cases e with
  |goto l=>
   simp only[DN]at h;split at h
   .split at h
    .rename_i p r m;obtain⟨F,A,y,_⟩:=pV m;simp only[Good,A];refine Lj (y ?_);refine kG (λe a w z=>?_) _ _ _ (ou t _ _ _ f d i hf h);obtain⟨x,B,v,D,E⟩:=z;exact AO t j g e x a w B (hx.trans v) (hl.trans D) E
    grind
   grind
  |normal=>exact j _ _ _ _ hf hx hl h
  |exit id=>exact j _ _ _ _ hf hx hl h
  |ret=>exact j _ _ _ _ hf hx hl h
  |panic ch=>exact j _ _ _ _ hf hx hl h
  |outgrown=>exact j _ _ _ _ hf hx hl h
theorem nQ{c:Code}{Q:QT}{b:Frame}{k:List Item}{m:List Frame}{ρ:Env}{a0:Act}{w0:World}{e:Exit}{a:Env}{j:Act}{i:World}
  (f:Fits n j a) (d:Ext ρ a a0 j) (g:dj w0 i) (h:Lg c Q e a i.heap):Good C.P c (Out n Q ρ a0 w0) b k m e j i:=by
 cases e with
 |goto l=>
  simp only[Lg]at h;simp only[Good];split at h
  .rename_i o;simp only[o];exact⟨a,f,d,g,h⟩
  grind
 |normal=>exact⟨a,f,d,g,h⟩
 |exit id=>exact⟨a,f,d,g,h⟩
 |ret=>exact⟨a,f,d,g,h⟩
 |panic ch=>exact⟨a,f,d,g,h⟩
 |outgrown=>exact⟨a,f,d,g,h⟩
theorem Ja{a:Act}{σ:dC}{κ:dl}{ρ:Env}{s:σ.den}(b:Fits n a ρ)(c:σ.read ρ=some s):Fits n a (σ.vals s (κ.over ρ))/\Ext ρ (σ.vals s (κ.over ρ)) a a:=
 b.pj b (λ_ _ _=>rfl) c
theorem NS(J:DO C n rec){c:Code}{l:Nat}{σ:dC}{κ:dl}{pre rest:List cg}{G:List (Nat×List cg)}{p r:List Code}(hc:chain c l=some (p,r)){Q:QT}{ρ:Env}{a:Act}{w:World}(X:Fits n a ρ)
  (h:uy rec p pre (DM (λρ' h'=>match σ.read ρ' with
     |some S=>fP (λs K h=>uy rec r rest (DN rec c G (QJ l σ κ (σ.vals s (κ.over ρ')) K (Lg c Q)) 4) (σ.vals s (κ.over ρ')) h) S h'
     |none=>False) (Lg c Q)) ρ w.heap):(Code.scope c).wp C.P (Out n Q ρ a w) a w:=by
 refine BG λb k cs=>?_;obtain⟨kk,h1,h2,h3⟩:=pV hc;refine h3 (kG (λe a' w' x=>?_) _ _ _ (ou J _ _ _ ρ a w X h));refine x.then (λρ' R x2 x3 T=>?_) (λx _=>?_)
 .split at T
  .rename_i S D;obtain⟨τ,V,I,μ,t0,e0,Z,i⟩:=T;subst e0;have g:=Ja (κ:=κ) R D;have y:∀(m:Nat) (t:τ) (v:Act) (u:World),μ t=m->I t u.heap->Fits n v (σ.vals (V t) (κ.over ρ'))->Ext ρ' (σ.vals (V t) (κ.over ρ')) a' v->dj w' u->
     nh C.P r (Good C.P c (Out n Q ρ a w) b k cs) v u:=by
    intro m
    induction m using Nat.strongRecOn with
    |_ m ih=>
     intro t v u hm B L f d;refine kG (λe a2 w2 x=>?_) _ _ _ (ou J _ _ _ _ v u L (i t u.heap B));obtain⟨U,A,F,E,H⟩:=x;refine AO J (ρ:=σ.vals (V t) (κ.over ρ')) (a0:=v) (w0:=u) (λe M a3 w3 q j z3 z4=>?_) 4 e U a2 w2 A F E H;cases e with
     |goto l'=>
      simp only[QJ]at z4;cases hb:wF l' l with
      |false=>
       rw[hb]at z4;exact nQ q (x2.trans (f.trans j)) (x3.trans (d.trans z3)) z4
      |true=>
       rw[hb]at z4;have:=zH hb;subst this;simp only[Good,h1];cases hw:within σ κ M (M.length-(σ.vals (V t) (κ.over ρ')).length)with
       |false=>grind
       |true=>
        rw[hw]at z4;split at z4
        .rename_i s' z;have o:∀t,σ.has t=false->(κ.over []).fc t=false->a3.tmps[t]?=a'.tmps[t]?:=λt O N=>by
          rw[j.within hw t O N,f.pj t O N]
         obtain⟨u1,u2⟩:=R.pj (κ:=κ) q o z;obtain⟨t',W,Y,i2⟩:=z4;subst W;exact Lj (h2 (ih _ (by omega) t' a3 w3 rfl Y u1 u2 (d.trans z3)))
        grind
     |normal=>exact nQ q (x2.trans (f.trans j)) (x3.trans (d.trans z3)) z4
     |exit id=>exact nQ q (x2.trans (f.trans j)) (x3.trans (d.trans z3)) z4
     |ret=>exact nQ q (x2.trans (f.trans j)) (x3.trans (d.trans z3)) z4
     |panic ch=>exact nQ q (x2.trans (f.trans j)) (x3.trans (d.trans z3)) z4
     |outgrown=>exact nQ q (x2.trans (f.trans j)) (x3.trans (d.trans z3)) z4
   exact y _ t0 a' w' rfl Z g.1 g.2 (dj.refl _)
  grind
 .obtain⟨ρ1,A,F,E,H⟩:=x;exact nQ A F E H
theorem ZM(R:C.Ok)(o:DO C n rec):DO C n (Lh C n rec):=by
 intro c P Q ρ a w g h;have u:∀{σ:dC} {κ:dl} {K:σ.den->Heap->Prop} {e:Exit} {a':Act} {w':World},Out n (Gi σ κ ρ K Q) ρ a w e a' w'->(∀s h,K s h->Q .normal (σ.vals s (κ.over ρ)) h)->Out n Q ρ a w e a' w':=by
  intro σ κ K e a' w' j T;obtain⟨ρ',f,x2,x3,d⟩:=j;cases e with
  |normal=>
   simp only[Gi]at d;cases hw:within σ κ ρ' (ρ'.length-ρ.length)with
   |false=>rw[hw]at d;exact d.elim
   |true=>
    rw[hw]at d;simp only[cond_true]at d;split at d
    .rename_i s U;obtain⟨G,F⟩:=g.pj (κ:=κ) f (x2.within hw) U;exact⟨_,G,F,x3,T _ _ d⟩
    .exact d.elim
  |exit id=>exact⟨ρ',f,x2,x3,d⟩
  |goto l=>exact⟨ρ',f,x2,x3,d⟩
  |ret=>exact⟨ρ',f,x2,x3,d⟩
  |panic ch=>exact⟨ρ',f,x2,x3,d⟩
  |outgrown=>exact⟨ρ',f,x2,x3,d⟩
 unfold Lh at h;split at h
 .rename_i σ κ x;obtain⟨K,hK,W⟩:=h;exact wp_mono (o c x _ ρ a w g W) λe a' w' j=>u j hK
 .split at h
  .exact wp_skip ⟨ρ,g,Ext.refl _ _,dj.refl _,h⟩
  .exact wp_label ⟨ρ,g,Ext.refl _ _,dj.refl _,h⟩
  .exact wp_mono (Lf R g h) λe a' w' j=>j.2
  .rename_i x y;refine wp_seq (wp_mono (o x _ _ ρ a w g h) λe a' w' j=>j.then (λρ' f x2 x3 d=>?_) λj _=>j);exact wp_mono (o y _ _ ρ' a' w' f d) λe X S j=>j.base x2 x3
  .rename_i x y z;split at h
   .rename_i t ht;refine wp_cond_split (g.eval ht) (λe=>?_) (λe=>?_)
    .subst e;exact o y _ _ ρ a w g h
    .subst e;exact o z _ _ ρ a w g h
   .exact h.elim
  .rename_i id x;refine wp_block (wp_mono (o x _ _ ρ a w g h) λe a' w' j=>?_);obtain⟨ρ',f,x2,x3,d⟩:=j;cases e with
   |exit i=>
    simp only[Exit.inBlock];simp only[TC]at d;cases hb:wF i id with
    |true=>
     rw[hb]at d;rw[if_pos (zH hb)];exact⟨ρ',f,x2,x3,d⟩
    |false=>
     rw[hb]at d;rw[if_neg λe=>by subst e;simp at hb];exact⟨ρ',f,x2,x3,d⟩
   |normal=>exact⟨ρ',f,x2,x3,d⟩
   |goto l=>exact⟨ρ',f,x2,x3,d⟩
   |ret=>exact⟨ρ',f,x2,x3,d⟩
   |panic ch=>exact⟨ρ',f,x2,x3,d⟩
   |outgrown=>exact⟨ρ',f,x2,x3,d⟩
  .exact wp_exit ⟨ρ,g,Ext.refl _ _,dj.refl _,h⟩
  .exact wp_goto ⟨ρ,g,Ext.refl _ _,dj.refl _,h⟩
  .exact wp_ret ⟨ρ,g,Ext.refl _ _,dj.refl _,h⟩
  .rename_i x;split at h
   .rename_i σ κ y _;split at h
    .rename_i s0 J;obtain⟨τ,V,I,μ,t0,e0,hI,q⟩:=h;subst e0;have m:=Ja (κ:=κ) g J;refine TB (σ:=τ) (λt B D=>Fits n B (σ.vals (V t) (κ.over ρ))/\Ext ρ (σ.vals (V t) (κ.over ρ)) a B/\dj w D/\I t D.heap) (λt _=>μ t) t0 ⟨m.1,m.2,dj.refl _,hI⟩ ?_;rintro t B D ⟨H,v,z3,z4⟩;refine wp_mono (o x y _ _ B D H (q t _ z4)) λe a2 w2 j=>?_;obtain⟨ρ',f,x2,x3,d⟩:=j;cases e with
     |normal=>
      simp only[Gi]at d;cases hw:within σ κ ρ' (ρ'.length-(σ.vals (V t) (κ.over ρ)).length)with
      |false=>rw[hw]at d;exact d.elim
      |true=>
       rw[hw]at d;simp only[cond_true]at d;split at d
       .rename_i s' E;have A:∀t,σ.has t=false->(κ.over []).fc t=false->a2.tmps[t]?=a.tmps[t]?:=λt M L=>by
         rw[x2.within hw t M L,v.pj t M L]
        obtain⟨G,F⟩:=g.pj (κ:=κ) f A E;obtain⟨O,Y,i1,Z⟩:=d;subst Y;exact⟨O,⟨G,F,z3.trans x3,i1⟩,Z⟩
       .exact d.elim
     |exit id=>exact⟨ρ',f,v.trans x2,z3.trans x3,d⟩
     |goto l=>exact⟨ρ',f,v.trans x2,z3.trans x3,d⟩
     |ret=>exact⟨ρ',f,v.trans x2,z3.trans x3,d⟩
     |panic ch=>exact⟨ρ',f,v.trans x2,z3.trans x3,d⟩
     |outgrown=>exact⟨ρ',f,v.trans x2,z3.trans x3,d⟩
    .exact h.elim
   .exact h.elim
  .rename_i x;split at h
   .split at h
    .rename_i p r N;exact NS o N g h
    .exact h.elim
   .refine BG λb k cs=>wp_mono (o x _ _ ρ a w g h) λe a' w' j=>?_;obtain⟨ρ',f,x2,x3,d⟩:=j;exact AO o (ρ:=ρ) (a0:=a) (w0:=w) (λe ρ3 a3 w3 H v z3 z4=>nQ H v z3 z4) 4 e ρ' a' w' f x2 x3 d
   .exact h.elim
  .exact h.elim
theorem Lk(a:C.Ok):∀f,DO C n (vc C n f)
 |0=>λ_ _ _ _ _ _ _ h=>h.elim
 |f+1=>ZM a (Lk a f)
end
def Cg(C:Ctx)(ρ:Env):List ResultVar->(List Value->Prop)->Heap->Prop
 |[],K,_=>K []
 | .tmp t::r,K,h=>match ρ.get t with
  |some v=>Cg C ρ r (λvs=>K (v::vs)) h
  |none=>False
 | .cell a t::r,K,h=>match td C.T (.load t (.tmp a)) ρ.eval with
  |some q=>∃y:q.ty.den,q.holds h y/\Cg C ρ r (λvs=>K (q.ty.enc y::vs)) h
  |none=>False
def Ch:List Value->Value
 |[v]=>v
 |vs=>.tuple vs.toArray
def adl(C:Ctx)(rs:List ResultVar)(R:Value->Heap->Prop):QT
 | .normal,ρ,h=>Cg C ρ rs (λvs=>R (Ch vs) h) h
 | .ret,ρ,h=>Cg C ρ rs (λvs=>R (Ch vs) h) h
 |_,_,_=>False
def Ci:Nat->List Value->Env
 |_,[]=>[]
 |n,v::r=>.val n v::Ci (n+1) r
def TD(C:Ctx)(b:Func)(a:Nat)(d:cg)(args:List Value)(R:Value->Heap->Prop)(h:Heap):Prop:=
 match b.body with
 |some c=>vc C b.ntmps a c d (adl C b.results.toList R) (Ci 0 args) h
 |none=>False
theorem Gj:∀{args:List Value} {n t:Nat} {v:Value},(Ci n args).get t=some v->n<=t/\args[t-n]?=some v
 |[],_,_,_,h=>by cases h
 |u::r,n,t,v,h=>by
  simp only[Ci,Env.get]at h;cases hb:wF n t with
  |true=>
   have:=zH hb
   grind
  |false=>
   rw[hb]at h;obtain⟨a,b⟩:=Gj (args:=r) h
   grind
theorem WB{C:Ag}(h:C.Ok){ev:Operand->Option Value}{e:Operand->Value}(f:∀x v,ev x=some v->e x=v){t:TypeId}{x:Operand}{q:ux}
  (g:td C.T (.load t x) ev=some q) {y:q.ty.den} {w:World} (d:q.holds w.heap y):(xw t (e x)).run C.P w=.ok (q.ty.enc y) w:=by
 have c:(do pure (Next.value (<-xw t (e x)))).run C.P w=.ok (.value (q.ty.enc y)) w:=AL h f (o:=⟨none,.load t x,0, "",#[],none⟩) g d;rw[Sem.run_bind]at c;cases hr:(xw t (e x)).run C.P w with
 |halt a b=>rw[hr]at c;cases c
 |ok v w'=>
  rw[hr]at c;cases c;rfl
theorem Cj{C:Ctx}(g:C.Ok){n:Nat}{a:Act}{ρ:Env}(d:Fits n a ρ):∀{rs:List ResultVar} {K:List Value->Prop} {w:World},Cg C ρ rs K w.heap->
  ∃vs,(rs.mapM (λ| .tmp t=>pure (a.tmps.getD t undef)| .cell x t=>(do loadVar t (<-asAddr (a.tmps.getD x undef)))):Sem (List Value)).run C.P w=.ok vs w/\K vs
 |[],K,w,h=>⟨[],rfl,h⟩
 | .tmp t::r,K,w,h=>by
  simp only[Cg]at h;split at h
  .rename_i v s;obtain⟨vs,k,i⟩:=Cj g d h;refine⟨v::vs,?_,i⟩;have l:a.tmps.getD t undef=v:=by simp[d.get t v s]
   rw[List.mapM_cons,Sem.run_bind,Sem.run_pure,Result.andThen_ok,Sem.run_bind,k,l];rfl
  grind
 | .cell x t::r,K,w,h=>by
  simp only[Cg]at h;split at h
  .rename_i q f;obtain⟨y,p,h⟩:=h;obtain⟨vs,k,i⟩:=Cj g d h;refine⟨q.ty.enc y::vs,?_,i⟩;have m:=WB g.toOk (e:=a.eval) (λx v h=>d.eval h) f p;have o:∃c,a.eval (.tmp x)=.pointer (some c):=by
    unfold td at f;simp only at f;split at f
    .rename_i c b;exact⟨c,d.eval b⟩
    grind
   obtain⟨c,b⟩:=o;have l:a.tmps.getD x undef=.pointer (some c):=b;rw[b]at m;rw[List.mapM_cons,Sem.run_bind];simp only[l];have j:(do loadVar t (<-asAddr (.pointer (some c)))).run C.P w=.ok (q.ty.enc y) w:=m;rw[j,Result.andThen_ok,Sem.run_bind,k];rfl
  grind
theorem PB{C:Ctx}(l:C.Ok){f:FuncId}{d:Func}(s:C.P.funcs[f]?=some d){a:Nat}{g:cg}{args:List Value}(z:args.length<=d.ntmps){R:Value->Heap->Prop}{h:Heap}
  (j:TD C d a g args R h):ak C.P f args.toArray h R:=by
 rintro w rfl;unfold TD at j;split at j
 .rename_i c p;refine calls_of_wp s p ?_;have b:Fits d.ntmps {tmps:=args.toArray++vB (d.ntmps-args.toArray.size) undef,defers:=[]} (Ci 0 args):=by refine⟨by simp;omega,rfl,λt v y=>?_⟩;obtain⟨_,i⟩:=Gj y;rw[Nat.sub_zero]at i;have k:t<args.length:=(List.getElem?_eq_some_iff.1 i).1;simp only[Array.getElem?_append,List.size_toArray,k,if_true,List.getElem?_toArray];exact i
  refine wp_mono (Lk l a c g _ _ _ w b j) λe a' w' u=>?_;obtain⟨ρ',n,x2,x3,o⟩:=u;have fin:Cg C ρ' d.results.toList (λvs=>R (Ch vs) w'.heap) w'.heap->a'.defers=[]/\∃v,(results d a'.tmps).run C.P w'=.ok v w'/\(∃m,Ending.returned v=.returned m/\dj w w'/\R m w'.heap):=λq=>by
   obtain⟨vs,x,i⟩:=Cj l n q;refine⟨n.defers,Ch vs,?_,Ch vs,rfl,x3,i⟩;unfold results;rw[vw,map_eq_pure_bind,bind_assoc,Sem.run_bind];refine(congrArg (λr=>Result.andThen r _) x).trans ?_;simp only[Result.andThen_ok,pure_bind,Sem.run_pure];cases vs with
   |nil=>rfl
   |cons v r=>cases r<;>rfl
  cases e<;>first|exact fin o|exact o.elim
 .exact j.elim
theorem aaN{C:Ctx}(g:C.Ok){f:FuncId}{a:Func}(c:C.P.funcs[f]?=some a)(b:cg){args:List Value}{R:Value->Heap->Prop}{h:Heap}{Q:Prop}(d:Q)
  (i:xv args.length a.ntmps=true:=by kernel_rfl) (e:TD C a 300 b args R h=Q:=by kernel_rfl):ak C.P f args.toArray h R:=PB g c (zE i) (cast e.symm d)
def bF(P:Program)(s:Sem Value)(r:Rt)(h:Heap)(K:r.den->Heap->Prop):Prop:=av P s h λv h'=>∃x:r.den,v=r.enc x/\K x h'
def pW(P:Program)(s:Sem Value)(h:Heap)(K:Addr->Heap->Prop):Prop:=av P s h λv h'=>∃a:Addr,v=.pointer (some a)/\K a h'
def ji(P:Program)(f:FuncId)(args:Array Value)(r:Rt)(h:Heap)(K:r.den->Heap->Prop):Prop:=ak P f args h λv h'=>∃x:r.den,v=r.enc x/\K x h'
def vI(C:Ctx)(g:FuncId)(args:List Value)(r:Rt)(h:Heap)(K:r.den->Heap->Prop):Prop:=
 match C.fns[g]? with
 |some true=>ji C.P g args.toArray r h K
 |_=>False
theorem fv{C:Ctx}{g:FuncId}{args:List Value}{r:Rt}{h:Heap}{K:r.den->Heap->Prop}(b:C.fns[g]?=some true)(a:ji C.P g args.toArray r h K):vI C g args r h K:=by unfold vI;rw[b];exact a
namespace Rk
open Go
inductive Er where
 |val (t:Nat) (v:Value)
 |tf (t:Nat) (b:Nat)
abbrev Ev:=List Er
def aaO:Nat->Value
 |0=>.bool false
 |_+1=>.bool true
def QK:Bool->Value->Ev->Nat->Value
 |true,x,_,_=>x
 |false,_,[],_=>.tuple #[]
 |false,_,.val s x::r,t=>QK (s==t) x r t
 |false,_,.tf s n::r,t=>QK (s==t) (aaO n) r t
abbrev Ff(ρ:Ev)(t:Nat):Value:=QK false (.tuple #[]) ρ t
inductive Gd where
 |k (n:Nat)
 |v (v:Value)
def KN:Bool->Gd->Ev->Nat->Gd
 |true,x,_,_=>x
 |false,_,[],_=>.k 0
 |false,_,.val s x::r,t=>KN (s==t) (.v x) r t
 |false,_,.tf s n::r,t=>KN (s==t) (.k n) r t
abbrev aaP(ρ:Ev)(t:Nat):Gd:=KN false (.k 0) ρ t
def fd(ρ:Ev):Operand->Value
 | .tmp t=>Ff ρ t
 | .const v=>v
 | .global g=>.pointer (some ⟨g,0,none⟩)
 | .func f=>.func (.func f) #[] #[]
def Gk(ρ:Ev):List Operand->List Value
 |[]=>[]
 |x::r=>fd ρ x::Gk ρ r
def KO(ρ:Ev):List (Nat×Operand)->List (Nat×Value)
 |[]=>[]
 |(n,x)::r=>(n,fd ρ x)::KO ρ r
def Gl(ρ:Ev):Option Operand->Option Value
 |none=>none
 |some x=>some (fd ρ x)
def QL:Bool->Bool
 |true=>false
 |false=>true
def aaQ:Bool->Bool->Bool
 |true,b=>b
 |false,_=>false
def WC:Bool->Bool->Bool
 |true,_=>true
 |false,b=>b
def Fg:Bool->Bool->Bool
 |true,b=>QL b
 |false,_=>false
def mN{α:Type}(d:α):List α->Nat->α
 |[],_=>d
 |a::_,0=>a
 |_::r,n+1=>mN d r n
def Ll{α:Type}:Nat->List α->List α
 |0,l=>l
 |_+1,[]=>[]
 |n+1,_::r=>Ll n r
def Lm{α:Type}:Nat->List α->List α
 |0,_=>[]
 |_+1,[]=>[]
 |n+1,a::r=>a::Lm n r
def pX{α:Type}:List α->List α->List α
 |[],m=>m
 |a::r,m=>a::pX r m
def WD{α:Type}:List α->Nat
 |[]=>0
 |_::r=>WD r+1
def QM:TI:=⟨.other,.sc .any,0,0,[]⟩
def aaR(l:List TI)(t:Nat):TI:=mN QM l t
def QN:mY->Nat->Nat×TypeId
 | .struct fs,f=>mN (0,0) fs f
 | .int _,_| .bool,_| .str,_| .flt,_| .cpx,_| .mp,_| .fn,_| .other,_| .slice _,_| .array ..,_| .ptr _,_=>(0,0)
def Gm:mY->TypeId
 | .slice e=>e
 | .array _ e=>e
 | .int _| .bool| .str| .flt| .cpx| .mp| .fn| .other| .struct _| .ptr _=>0
inductive Rz:Type 1 where
 |val (v:Value)
 |cond (c:Prop) (v:Value)
 |ex (X:Type) (c:X->Prop) (v:X->Value)
 |br (b:Bool) (x y:Value)
 |ld (a:Addr) (t:Ty) (n:Nat)
 |ru (α:Type) (s:Sem α)
 |ra (s:Sem Value)
 |rr (s:Sem Value) (t:Rt)
 |ca (f:FuncId) (l:List Value) (t:Rt)
 |dy (f:FuncId) (l:List Value) (t:Rt)
 |bad
def aaS:Value->Value->Value->Rz
 | .bool b,x,y=>.br b x y
 |_,_,_=>.bad
def aaT:Value->Rz
 | .pointer p=>.ex Addr (λa=>p=some a) (λa=>.pointer (some a))
 |_=>.bad
def aaU:Value->Nat->Rz
 | .pointer (some a),n=>.val (.pointer (some (a.add n)))
 |_,_=>.bad
def aaV:Value->Value->mY->Nat->Rz
 | .slice p len _,.int _ n,.slice _,z=>.ex Addr (λa=>p=some a/\0<=n/\n<(len:Int)) (λa=>.pointer (some (a.add (n.toNat*z))))
 | .pointer (some a),.int _ n,.array m _,z=>.cond (0<=n/\n<(m:Int)) (.pointer (some (a.add (n.toNat*z))))
 |_,_,_,_=>.bad
def YD:Ty->Nat->List Value->Int->Array Value->Rz
 | .sc s,m,_,n,cs=>.ex s.den (λy=>0<=n/\n<(m:Int)/\cs[n.toNat]?=some (s.enc y)) (λy=>s.enc y)
 |_,_,_,_,_=>.bad
def aaW:Value->Value->mY->Ty->Rz
 | .string s,.int _ n,.str,_=>.ex UInt8 (λb=>0<=n/\s.data[n.toNat]?=some b) (λb=>.int .u8 b.toNat)
 | .agg cs,.int _ n,.array m _,t=>YD t m [] n cs
 |_,_,_,_=>.bad
def YE:mY->List Value->Nat->Nat->Value
 | .struct _,cs,o,z=>.agg (Lm z (Ll o cs)).toArray
 | .array ..,cs,o,z=>.agg (Lm z (Ll o cs)).toArray
 | .int _,cs,o,_| .bool,cs,o,_| .str,cs,o,_| .flt,cs,o,_| .cpx,cs,o,_| .mp,cs,o,_| .fn,cs,o,_| .other,cs,o,_| .slice _,cs,o,_| .ptr _,cs,o,_=>mN (.tuple #[]) cs o
def aaX:Value->Nat->TI->Rz
 | .agg cs,o,i=>.val (YE i.cm cs.toList o i.size)
 |_,_,_=>.bad
def aaY:Value->Nat->Rz
 | .tuple vs,n=>.val (mN (.tuple #[]) vs.toList n)
 |_,_=>.bad
def aaZ:Value->mY->Nat->Option Value->Option Value->Rz
 | .slice p n c,.slice _,_,none,none=>.val (.slice p n c)
 | .slice p _ c,.slice _,_,none,some (.int _ r)=>.cond (0<=r/\r<=(c:Int)) (.slice p r.toNat c)
 | .slice p n c,.slice _,z,some (.int _ l),none=>.cond (0<=l/\l<=(n:Int)) (.slice (if c=l.toNat then p else p.map (·.add (l.toNat*z))) (n-l.toNat) (c-l.toNat))
 | .slice p _ c,.slice _,z,some (.int _ l),some (.int _ r)=>.cond (0<=l/\l<=r/\r<=(c:Int)) (.slice (if c=l.toNat then p else p.map (·.add (l.toNat*z))) (r.toNat-l.toNat) (c-l.toNat))
 | .string s,.str,_,none,none=>.val (.string (s.extract 0 s.size))
 | .string s,.str,_,none,some (.int _ r)=>.cond (0<=r/\r<=(s.size:Int)) (.string (s.extract 0 r.toNat))
 | .string s,.str,_,some (.int _ l),none=>.cond (0<=l/\l<=(s.size:Int)) (.string (s.extract l.toNat s.size))
 | .string s,.str,_,some (.int _ l),some (.int _ r)=>.cond (0<=l/\l<=r/\r<=(s.size:Int)) (.string (s.extract l.toNat r.toNat))
 | .pointer (some a),.array n _,_,none,none=>.val (.slice (some a) n n)
 | .pointer (some a),.array n _,_,none,some (.int _ r)=>.cond (0<=r/\r<=(n:Int)) (.slice (some a) r.toNat n)
 | .pointer (some a),.array n _,z,some (.int _ l),none=>.cond (0<=l/\l<=(n:Int)) (.slice (some (if n=l.toNat then a else a.add (l.toNat*z))) (n-l.toNat) (n-l.toNat))
 | .pointer (some a),.array n _,z,some (.int _ l),some (.int _ r)=>.cond (0<=l/\l<=r/\r<=(n:Int)) (.slice (some (if n=l.toNat then a else a.add (l.toNat*z))) (r.toNat-l.toNat) (n-l.toNat))
 |_,_,_,_,_=>.bad
def aba(k:IntKind)(a b:Int):BinOp->Rz
 | .add=>.val (.int k (k.wrap (a+b)))
 | .sub=>.val (.int k (k.wrap (a-b)))
 | .mul=>.val (.int k (k.wrap (a*b)))
 | .quo=>.cond (b≠0) (.int k (k.wrap (a.tdiv b)))
 | .rem=>.cond (b≠0) (.int k (a.tmod b))
 | .and=>.val (.int k (k.wrap (qG k.bits a&&&qG k.bits b).toNat))
 | .or=>.val (.int k (k.wrap (qG k.bits a|||qG k.bits b).toNat))
 | .xor=>.val (.int k (k.wrap (qG k.bits a^^^qG k.bits b).toNat))
 | .andNot=>.val (.int k (k.wrap (qG k.bits a&&&~~~qG k.bits b).toNat))
 | .shl=>.cond (0<=b) (.int k (k.wrap (a*2^min b.toNat k.bits)))
 | .shr=>.cond (0<=b) (.int k (a.fdiv (2^min b.toNat k.bits)))
 | .eql=>.val (.bool (a==b))
 | .neq=>.val (.bool (a !=b))
 | .lss=>.val (.bool (decide (a<b)))
 | .leq=>.val (.bool (decide (a<=b)))
 | .gtr=>.val (.bool (decide (a>b)))
 | .geq=>.val (.bool (decide (a>=b)))
def abb(a b:ByteArray):BinOp->Rz
 | .eql=>.val (.bool (a.toList==b.toList))
 | .neq=>.val (.bool (!(a.toList==b.toList)))
 | .lss=>.val (.bool (Op.bytesLess a.toList b.toList))
 | .leq=>.val (.bool (Op.bytesLess a.toList b.toList||a.toList==b.toList))
 | .gtr=>.val (.bool (!(Op.bytesLess a.toList b.toList||a.toList==b.toList)))
 | .geq=>.val (.bool (!(Op.bytesLess a.toList b.toList)))
 | .add=>.cond (((a.size+b.size:Nat):Int)<=xN.max) (.string (a++b))
 |_=>.bad
def abc(a b:Bool):BinOp->Rz
 | .eql=>.val (.bool (a==b))
 | .neq=>.val (.bool (!(a==b)))
 |_=>.bad
def abd(k:FloatKind)(a b:Nat):BinOp->Rz
 | .add=>.ex Nat (λr=>k.format.add a b=some r) (λr=>.float k r)
 | .sub=>.ex Nat (λr=>k.format.sub a b=some r) (λr=>.float k r)
 | .mul=>.ex Nat (λr=>k.format.mul a b=some r) (λr=>.float k r)
 | .quo=>.ex Nat (λr=>k.format.div a b=some r) (λr=>.float k r)
 | .eql=>.val (.bool (k.format.order a b==some .eq))
 | .neq=>.val (.bool (k.format.order a b !=some .eq))
 | .lss=>.val (.bool (k.format.order a b==some .lt))
 | .gtr=>.val (.bool (k.format.order a b==some .gt))
 |_=>.bad
def Ln{α:Type}(p:Option α):BinOp->Rz
 | .eql=>.val (.bool p.isNone)
 | .neq=>.val (.bool (!p.isNone))
 |_=>.bad
def abe(P:Program)(k:FloatKind)(op:BinOp)(t:TypeId)(x y:Operand)(a b:Value):BinOp->Rz
 | .eql=>.ex Bool (λr=>kj P op t x y a b (.bool r)) (λr=>.bool r)
 | .neq=>.ex Bool (λr=>kj P op t x y a b (.bool r)) (λr=>.bool r)
 |_=>.ex (Nat×Nat) (λr=>kj P op t x y a b (.complex k r.1 r.2)) (λr=>.complex k r.1 r.2)
def QO(P:Program)(op:BinOp)(t:TypeId)(x y:Operand)(a b:Value):Rz:=.ex Bool (λr=>kj P op t x y a b (.bool r)) (λr=>.bool r)
def abf(P:Program)(op:BinOp)(t:TypeId)(x:Operand)(p q:Option Addr):Operand->Rz
 | .tmp n=>QO P op t x (.tmp n) (.pointer p) (.pointer q)
 | .const _=>Ln p op
 | .global _=>Ln p op
 | .func _=>Ln p op
def YF(P:Program)(op:BinOp)(t:TypeId)(x y:Operand):Value->Value->Rz
 | .int k a,.int _ b=>aba k a b op
 | .float k a,.float _ b=>abd k a b op
 | .string a,.string b=>abb a b op
 | .bool a,.bool b=>abc a b op
 | .pointer a,.pointer b=>abf P op t x a b y
 | .slice a _ _,.slice .. =>Ln a op
 | .agg a,.agg b=>QO P op t x y (.agg a) (.agg b)
 | .complex k a b,.complex k' c e=>abe P k op t x y (.complex k a b) (.complex k' c e) op
 |a,.nilIface=>QO P op t x y a .nilIface
 |_,_=>.bad
def abg:UnOp->Value->Rz
 | .not,.bool b=>.val (.bool !b)
 | .neg,.int k n=>.val (.int k (k.wrap (0-n)))
 | .xor,.int k n=>.val (.int k (k.wrap (qG k.bits (if k.signed then-1 else k.max)^^^qG k.bits n).toNat))
 |_,_=>.bad
def abh(s d:TypeId)(v:Value)(a:Ty):mY->mY->Value->Rz
 | .int _,.int k,.int _ n=>.val (.int k (k.wrap n))
 |_,_,_=>.rr (convert s d v) (.one a)
def PC:Value->List Value
 | .agg cs=>cs.toList
 | .bool b=>[.bool b]
 | .int k n=>[.int k n]
 | .float k n=>[.float k n]
 | .complex k a b=>[.complex k a b]
 | .string s=>[.string s]
 | .pointer a=>[.pointer a]
 | .slice a l c=>[.slice a l c]
 | .map r=>[.map r]
 | .chan r=>[.chan r]
 | .func f a c=>[.func f a c]
 | .nilFunc=>[.nilFunc]
 | .iface t v=>[.iface t v]
 | .nilIface=>[.nilIface]
 | .tuple vs=>[.tuple vs]
def YG(l:List Value)(o:Nat)(c:List Value):List Value:=pX (Lm o l) (pX c (Ll (o+WD c) l))
def TE:mY->Nat->Nat->Nat
 | .struct fs,_,n=>(mN (0,0) fs n).1
 | .array _ _,z,n=>n*z
 | .int _,_,_| .bool,_,_| .str,_,_| .flt,_,_| .cpx,_,_| .mp,_,_| .fn,_,_| .other,_,_| .slice _,_,_| .ptr _,_,_=>0
def QP(d:mY)(z:Nat):List Value->List (Nat×Value)->List Value
 |l,[]=>l
 |l,(n,v)::r=>QP d z (YG l (TE d z n) (PC v)) r
def abi:Nat->Bool
 |0=>false
 |_+1=>true
def YH(P:Program)(t:TypeId)(i:TI)(z:Nat)(vs:List (Nat×Value)):Bool->Rz
 |true=>.ex Value (λv=>aL P (xo t vs.toArray) v) (λv=>v)
 |false=>.val (.agg (QP i.cm z i.zero vs).toArray)
def QQ:Value->TI->Rz
 | .pointer (some a),i=>.ld a i.ty i.size
 |_,_=>.bad
def TF(a:Array TypeId)(ty:TypeId):Value->Rz
 | .slice _ n _=>.val (.int .i64 n)
 | .string s=>.val (.int .i64 s.size)
 | .map r=>.rr (xD a ty #[.map r]) (.one (.sc (.int .i64)))
 |_=>.bad
def TG:Value->Rz
 | .slice _ _ n=>.val (.int .i64 n)
 |_=>.bad
def WE:Bool->List Value->Rz
 |true,[.int k a,.int _ b]=>.val (.int k (if b>a then b else a))
 |false,[.int k a,.int _ b]=>.val (.int k (if b<a then b else a))
 |_,_=>.bad
def QR:Bool->List Value->Rz
 |true,[.complex k a _]=>.val (.float k a)
 |false,[.complex k _ b]=>.val (.float k b)
 |_,_=>.bad
def WF(T:Nat->TI)(t:TypeId):Bool->List Ty->List (TypeId×List Ty)->Rt
 |true,l,_=>.many l
 |false,_,[]=>.one (T t).ty
 |false,_,(k,l)::r=>WF T t (k==t) l r
abbrev QS(T:Nat->TI)(t:TypeId)(l:List (TypeId×List Ty)):Rt:=WF T t false [] l
def YI:Value->List Value->Rt->Rz
 | .func (.func g) a c,l,t=>.dy g (a.toList++l++c.toList) t
 |_,_,_=>.bad
def YJ(a:Array TypeId)(ty:TypeId)(vs:List Value):Builtin->Rz
 | .append=>.rr (q6 a ty vs.toArray) (.one (.sc .slc))
 | .copy=>.rr (yN a ty vs.toArray) (.one (.sc (.int .i64)))
 | .clear=>.ru Value (vM a ty vs.toArray)
 | .delete=>.ru Value (Builtin.delete_ a ty vs.toArray)
 | .unsafeString=>.rr (Builtin.unsafeString_ a ty vs.toArray) (.one (.sc .str))
 | .len=>TF a ty (mN (.tuple #[]) vs 0)
 | .cap=>TG (mN (.tuple #[]) vs 0)
 | .min=>WE false vs
 | .max=>WE true vs
 | .real=>QR true vs
 | .imag=>QR false vs
 |_=>.bad
def YK(T:Nat->TI)(tup:List (TypeId×List Ty))(ρ:Ev)(ty:TypeId)(vs:List Value)(a:Array TypeId):Callee->Rz
 | .value (.func f)=>.ca f vs (QS T ty tup)
 | .value (.tmp t)=>YI (Ff ρ t) vs (QS T ty tup)
 | .builtin b=>YJ a ty vs b
 |_=>.bad
def YL(P:Program)(T:Nat->TI)(tup:List (TypeId×List Ty))(ty:TypeId)(ρ:Ev):Op->Rz
 | .move x=>.val (fd ρ x)
 | .assign x=>.val (fd ρ x)
 | .pick c a b=>aaS (fd ρ c) (fd ρ a) (fd ρ b)
 | .nilCheck x=>aaT (fd ρ x)
 | .fieldAddr s x f=>aaU (fd ρ x) (QN (T s).cm f).1
 | .indexAddr t x i=>aaV (fd ρ x) (fd ρ i) (T t).cm (T (Gm (T t).cm)).size
 | .index t x i=>aaW (fd ρ x) (fd ρ i) (T t).cm (T (Gm (T t).cm)).ty
 | .field s x f=>aaX (fd ρ x) (QN (T s).cm f).1 (T (QN (T s).cm f).2)
 | .slice t x Fg hi none=>aaZ (fd ρ x) (T t).cm (T (Gm (T t).cm)).size (Gl ρ Fg) (Gl ρ hi)
 | .slice t x Fg hi (some m)=>.rr (w5 t (fd ρ x) (Gl ρ Fg) (Gl ρ hi) (some (fd ρ m))) (.one (.sc .slc))
 | .extract x n=>aaY (fd ρ x) n
 | .binOp op t x y _=>YF P op t x y (fd ρ x) (fd ρ y)
 | .unOp op _ x=>abg op (fd ρ x)
 | .convert s d x=>abh s d (fd ρ x) (T ty).ty (T s).cm (T d).cm (fd ρ x)
 | .build t ps=>YH P t (T t) (T (Gm (T t).cm)).size (KO ρ ps.toList) (abi ((T t).size-24))
 | .makeFunc f a c=>.val (.func f (Gk ρ a.toList).toArray (Gk ρ c.toList).toArray)
 | .load t x=>QQ (fd ρ x) (T t)
 | .store t a x=>.ru Unit (qD t (fd ρ a) (fd ρ x))
 | .alloc t=>.ra (wM t true (.tuple #[]))
 | .box t x=>.ra (va t (fd ρ x))
 | .makeSlice t l c=>.rr (zB t (fd ρ l) (fd ρ c)) (.one (.sc .slc))
 | .buildSlice t n ps=>.rr (zw t n (KO ρ ps.toList).toArray) (.one (.sc .slc))
 | .makeMap t none=>.rr (Instr.makeMap t none) (.one (.sc .mp))
 | .lookup t x i ok=>.rr (Instr.lookup t (fd ρ x) (fd ρ i) ok) (QS T ty tup)
 | .mapUpdate t m k x=>.ru Unit (xq t (fd ρ m) (fd ρ k) (fd ρ x))
 | .insert t m k x=>.ru Unit (xq t (fd ρ m) (fd ρ k) (fd ρ x))
 | .call ⟨c,as,tys⟩=>YK T tup ρ ty (Gk ρ as.toList) tys c
 |_=>.bad
inductive Kt:Type 1 where
 |top (rs:List ResultVar)
 |seq (c:Code) (a:cg) (k:Kt)
 |blk (id:Nat) (k:Kt)
 |jn (σ:dC) (K:σ.den->Heap->Prop) (k:Kt)
 |back (l:Nat) (σ:dC) (K:σ.den->Heap->Prop) (k:Kt)
 |lst (cs:List Code) (as:List cg) (k:Kt)
 |jmp (c:Code) (fwd:List (Nat×List cg)) (k:Kt)
 |hd (l:Nat) (σ:dC) (r:List Code) (as:List cg) (fwd:List (Nat×List cg)) (c:Code) (k:Kt)
def Lo:cg->cg
 | .two a _=>a
 | .n| .inn _| .loop .. | .join .. | .scope .. | .fwd .. =>.n
def Lp:cg->cg
 | .two _ b=>b
 | .n| .inn _| .loop .. | .join .. | .scope .. | .fwd .. =>.n
def TH:cg->cg
 | .inn a=>a
 | .n| .two .. | .loop .. | .join .. | .scope .. | .fwd .. =>.n
def YM(a b:Code):Option (List Code×List Code)->Option (List Code×List Code)->Option (List Code×List Code)
 |some (p,r),_=>some (p,pX r [b])
 |none,some (p,r)=>some (a::p,r)
 |none,none=>none
def YN:Bool->Option (List Code×List Code)
 |true=>some ([],[])
 |false=>none
def Gn:Code->Nat->Option (List Code×List Code)
 | .seq a b,l=>YM a b (Gn a l) (Gn b l)
 | .label k,l=>YN (k==l)
 | .skip,_| .region ..,_| .cond ..,_| .block ..,_| .loop _,_| .rangeFunc ..,_| .exit _,_| .scope _,_| .goto _,_| .ret,_| .refuse _,_=>none
def QU:Bool->List cg->List (Nat×List cg)->Nat->Option (List cg)
 |true,x,_,_=>some x
 |false,_,[],_=>none
 |false,_,(k,x)::r,l=>QU (k==l) x r l
abbrev YO(w:List (Nat×List cg))(l:Nat):Option (List cg):=QU false [] w l
def Gp:(s:Sc)->Value->Option s.den
 | .int _,.int _ n=>some n
 | .bool,.bool x=>some x
 | .str,.string x=>some x
 | .ptr,.pointer a=>some a
 | .slc,.slice a l c=>some ⟨a,l,c⟩
 | .flt _,.float _ n=>some n
 | .cpx _,.complex _ a b=>some (a,b)
 | .mp,.map r=>some r
 | .fn,.func (.func g) f c=>some (g,f,c)
 | .any,v=>some v
 | .adr,.pointer (some a)=>some a
 |_,_=>none
def WG{α β:Type}:Option α->Option β->Option (α×β)
 |some a,some b=>some (a,b)
 |some _,none=>none
 |none,_=>none
def HX:(l:List Sc)->List Value->Option (uY l)
 |[],_=>some ()
 |[s],[v]=>Gp s v
 |s::t::r,v::vs=>WG (Gp s v) (HX (t::r) vs)
 |_::_,_=>none
def Lq:(t:Ty)->Value->Option t.den
 | .sc s,v=>Gp s v
 | .agg l,.agg cs=>HX l cs.toList
 |_,_=>none
def HY:(σ:dC)->Ev->Option σ.den
 |[],_=>some ()
 |[(t,y)],ρ=>Lq y (Ff ρ t)
 |(t,y)::x::r,ρ=>WG (Lq y (Ff ρ t)) (HY (x::r) ρ)
def Gq:(σ:dC)->σ.den->Ev->Ev
 |[],_,ρ=>ρ
 |[(t,y)],x,ρ=>.val t (y.enc x)::ρ
 |(t,y)::z::r,x,ρ=>.val t (y.enc x.1)::Gq (z::r) x.2 ρ
def WH{α:Type}(K:α->Heap->Prop)(h:Heap):Option α->Prop
 |some s=>K s h
 |none=>False
def HZ{σ:Type}(B:σ->(σ->Heap->Prop)->Heap->Prop)(h:Heap):Option σ->Prop
 |some s=>fP B s h
 |none=>False
inductive Hd where
 |l (c:bx)
 |a (a:Addr) (vs:List Value)
abbrev Hi:=List (Nat×Hd)
def Gr:List Oper->Nat->List (Nat×Oper)
 |[],_=>[]
 |o::r,n=>(n,o)::Gr r (n+1)
def Gs(l:List (Nat×Oper)):List Nat->List (Nat×Oper)
 |[]=>[]
 |n::r=>mN (0,⟨none,.ready 0,0, "",#[],none⟩) l n::Gs l r
inductive Sd where
 |l (ns:List Nat)
 |y (ns:List Nat) (a b:Sd)
def WI(id:Nat):Bool->Sd->List (Nat×Sd)->Option Sd
 |true,x,_=>some x
 |false,_,[]=>none
 |false,_,(k,x)::r=>WI id (k==id) x r
def WJ:Nat×Oper->Nat
 |(_,⟨some d,_,_,_,_,_⟩)=>d
 |(_,⟨none,_,_,_,_,_⟩)=>0
def YP:Ground->Bool
 | .data| .chain| .guard| .phase=>true
 | .textOnly _| .gcOnly _=>false
def WK:List Edge->Nat->Bool
 |[],_=>false
 |⟨n,g⟩::r,i=>WC (aaQ (YP g) (n==i)) (WK r i)
def QV:Bool->Nat×Hd->Hi->Hi
 |true,_,r=>r
 |false,p,r=>p::r
def Lr(e:List Edge):Hi->Hi
 |[]=>[]
 |p::r=>QV (WK e p.1) p (Lr e r)
def KP:Hi->bx
 |[]=>[]
 |(_,.l c)::r=>pX c (KP r)
 |(_,.a x vs)::r=>nH x 0 vs (KP r)
def Fh(e:List Edge)(L:Hi)(h:Heap):Bool->Prop->Prop
 |true,X=>bx.ok (KP (Lr e L)) h/\X
 |false,X=>X
def YQ(e:List Edge)(L:Hi):Bool->Hi
 |true=>Lr e L
 |false=>L
def Ia(e:List Edge)(L:Hi):Bool->Hi
 |true=>Lr e L
 |false=>[]
def nJ:Option Tmp->Value->Ev->Ev
 |some d,v,ρ=>.val d v::ρ
 |none,_,ρ=>ρ
def QW(dr:Bool)(n:Nat)(c:Hd)(L:Hi):Hi:=QV (QL dr) (n,c) L
def WL(a:Addr):Nat->List Value->bx
 |_,[]=>[]
 |n,v::r=>(a.add n,v)::WL a (n+1) r
def QX:Ty->Bool
 | .sc .slc=>true
 |_=>false
def QY(T:Nat->TI):Op->Bool
 | .convert s d _=>QL (WC (QX (T s).ty) (QX (T d).ty))
 | .move _| .assign _| .pick .. | .nilCheck _| .fieldAddr .. | .indexAddr .. | .index .. | .field .. | .extract .. | .binOp .. | .unOp .. | .build .. | .makeFunc .. | .load .. =>true
 | .slice _ _ _ _ none=>true
 | .call ⟨.builtin .len,_,_⟩| .call ⟨.builtin .cap,_,_⟩| .call ⟨.builtin .min,_,_⟩| .call ⟨.builtin .max,_,_⟩| .call ⟨.builtin .real,_,_⟩| .call ⟨.builtin .imag,_,_⟩=>true
 |_=>false
inductive Al where
 |n
 |y (a b:Sd)
structure Rg where
 all:List (Nat×Oper)
 dr:Bool
 al:Al
inductive St:Type 1 where
 |ex (c:Code) (a:cg) (k:Kt) (ρ:Ev)
 |e2 (c:Code) (a:cg) (k:Kt) (ρ:Ev)
 |cd (v:Value) (c d:Code) (a:cg) (k:Kt) (ρ:Ev)
 |ap (e:Exit) (k:Kt) (ρ:Ev)
 |bu (b:Bool) (x y:St)
 |fin (σ:dC) (K:σ.den->Heap->Prop) (ρ:Ev)
 |jp (o:Option (List cg)) (q:Option (List Code×List Code)) (l:Nat) (c:Code) (fwd:List (Nat×List cg)) (k:Kt) (ρ:Ev)
 |sc (q:Option (List Code×List Code)) (l:Nat) (σ:dC) (pre rest:List cg) (fwd:List (Nat×List cg)) (c:Code) (k:Kt) (ρ:Ev)
 |rg (os:List (Nat×Oper)) (r:Rg) (L:Hi) (k:Kt) (ρ:Ev)
 |so (o:Option Sd) (all:List (Nat×Oper)) (k:Kt) (ρ:Ev)
 |st (s:Sd) (all:List (Nat×Oper)) (dr:Bool) (L:Hi) (k:Kt) (ρ:Ev)
 |gd (g:Gd) (w:Bool) (d n:Nat) (o:Oper) (os:List (Nat×Oper)) (r:Rg) (L:Hi) (k:Kt) (ρ:Ev)
 |on (n:Nat) (o:Oper) (os:List (Nat×Oper)) (r:Rg) (L:Hi) (k:Kt) (ρ:Ev)
 |sk (n:Nat) (o:Oper) (os:List (Nat×Oper)) (r:Rg) (L:Hi) (k:Kt) (ρ:Ev)
 |rs (z:Rz) (n:Nat) (d:Option Tmp) (e:List Edge) (os:List (Nat×Oper)) (r:Rg) (L:Hi) (k:Kt) (ρ:Ev)
 |re (rs:List ResultVar) (acc:List Value) (ρ:Ev)
 |rl (z:Rz) (rs:List ResultVar) (acc:List Value) (ρ:Ev)
def bm(C:Ctx)(T:Nat->TI)(S:List (Nat×Sd))(R:Value->Heap->Prop):Nat->St->Heap->Prop
 |0,_,_=>False
 |f+1,.ex c (.join σ _ a) k ρ,h=>ly (λs h=>bm C T S R f (.ap .normal k (Gq σ s ρ)) h) (λK=>bm C T S R f (.e2 c a (.jn σ K k) ρ) h)
 |f+1,.ex c .n k ρ,h=>bm C T S R f (.e2 c .n k ρ) h
 |f+1,.ex c (.two a b) k ρ,h=>bm C T S R f (.e2 c (.two a b) k ρ) h
 |f+1,.ex c (.inn a) k ρ,h=>bm C T S R f (.e2 c (.inn a) k ρ) h
 |f+1,.ex c (.loop σ κ a) k ρ,h=>bm C T S R f (.e2 c (.loop σ κ a) k ρ) h
 |f+1,.ex c (.scope l σ κ p r w) k ρ,h=>bm C T S R f (.e2 c (.scope l σ κ p r w) k ρ) h
 |f+1,.ex c (.fwd a w) k ρ,h=>bm C T S R f (.e2 c (.fwd a w) k ρ) h
 |f+1,.e2 .skip _ k ρ,h=>bm C T S R f (.ap .normal k ρ) h
 |f+1,.e2 (.label _) _ k ρ,h=>bm C T S R f (.ap .normal k ρ) h
 |f+1,.e2 (.region id ops true) _ k ρ,h=>bm C T S R f (.so (WI id false (.l []) S) (Gr ops.toList 0) k ρ) h
 |f+1,.e2 (.region _ ops false) _ k ρ,h=>bm C T S R f (.rg (Gr ops.toList 0) ⟨Gr ops.toList 0,false,.n⟩ [] k ρ) h
 |f+1,.e2 (.seq x y) a k ρ,h=>bm C T S R f (.ex x (Lo a) (.seq y (Lp a) k) ρ) h
 |f+1,.e2 (.cond x c d) a k ρ,h=>bm C T S R f (.cd (fd ρ x) c d a k ρ) h
 |f+1,.e2 (.block id c) a k ρ,h=>bm C T S R f (.ex c (TH a) (.blk id k) ρ) h
 |f+1,.e2 (.exit id) _ k ρ,h=>bm C T S R f (.ap (.exit id) k ρ) h
 |f+1,.e2 (.goto l) _ k ρ,h=>bm C T S R f (.ap (.goto l) k ρ) h
 |f+1,.e2 .ret _ k ρ,h=>bm C T S R f (.ap .ret k ρ) h
 |f+1,.e2 (.loop c) (.loop σ _ a) k ρ,h=>HZ (λs K h=>bm C T S R f (.ex c a (.jn σ K k) (Gq σ s ρ)) h) h (HY σ ρ)
 |f+1,.e2 (.scope c) (.scope l σ _ pre rest fwd) k ρ,h=>bm C T S R f (.sc (Gn c l) l σ pre rest fwd c k ρ) h
 |f+1,.e2 (.scope c) (.fwd a fwd) k ρ,h=>bm C T S R f (.ex c a (.jmp c fwd k) ρ) h
 |f+1,.cd (.bool t) c d a k ρ,h=>Br t (bm C T S R f (.ex c (Lo a) k ρ) h) (bm C T S R f (.ex d (Lp a) k ρ) h)
 |f+1,.sc (some (p,r)) l σ pre rest fwd c k ρ,h=>bm C T S R f (.ap .normal (.lst p pre (.hd l σ r rest fwd c k)) ρ) h
 |f+1,.bu true x _,h=>bm C T S R f x h
 |f+1,.bu false _ y,h=>bm C T S R f y h
 |f+1,.fin σ K ρ,h=>WH K h (HY σ ρ)
 |f+1,.jp (some xs) (some (_,r)) _ c fwd k ρ,h=>bm C T S R f (.ap .normal (.lst r xs (.jmp c fwd k)) ρ) h
 |f+1,.jp none _ l _ _ k ρ,h=>bm C T S R f (.ap (.goto l) k ρ) h
 |f+1,.ap .normal (.top rs) ρ,h=>bm C T S R f (.re rs [] ρ) h
 |f+1,.ap .ret (.top rs) ρ,h=>bm C T S R f (.re rs [] ρ) h
 |f+1,.ap .normal (.seq c a k) ρ,h=>bm C T S R f (.ex c a k ρ) h
 |f+1,.ap (.exit i) (.seq _ _ k) ρ,h=>bm C T S R f (.ap (.exit i) k ρ) h
 |f+1,.ap (.goto i) (.seq _ _ k) ρ,h=>bm C T S R f (.ap (.goto i) k ρ) h
 |f+1,.ap .ret (.seq _ _ k) ρ,h=>bm C T S R f (.ap .ret k ρ) h
 |f+1,.ap .normal (.blk _ k) ρ,h=>bm C T S R f (.ap .normal k ρ) h
 |f+1,.ap (.exit i) (.blk id k) ρ,h=>bm C T S R f (.bu (i==id) (.ap .normal k ρ) (.ap (.exit i) k ρ)) h
 |f+1,.ap (.goto i) (.blk _ k) ρ,h=>bm C T S R f (.ap (.goto i) k ρ) h
 |f+1,.ap .ret (.blk _ k) ρ,h=>bm C T S R f (.ap .ret k ρ) h
 |f+1,.ap .normal (.jn σ K _) ρ,h=>WH K h (HY σ ρ)
 |f+1,.ap (.exit i) (.jn _ _ k) ρ,h=>bm C T S R f (.ap (.exit i) k ρ) h
 |f+1,.ap (.goto i) (.jn _ _ k) ρ,h=>bm C T S R f (.ap (.goto i) k ρ) h
 |f+1,.ap .ret (.jn _ _ k) ρ,h=>bm C T S R f (.ap .ret k ρ) h
 |f+1,.ap .normal (.back _ _ _ k) ρ,h=>bm C T S R f (.ap .normal k ρ) h
 |f+1,.ap (.exit i) (.back _ _ _ k) ρ,h=>bm C T S R f (.ap (.exit i) k ρ) h
 |f+1,.ap (.goto i) (.back l σ K k) ρ,h=>bm C T S R f (.bu (i==l) (.fin σ K ρ) (.ap (.goto i) k ρ)) h
 |f+1,.ap .ret (.back _ _ _ k) ρ,h=>bm C T S R f (.ap .ret k ρ) h
 |f+1,.ap .normal (.lst [] _ k) ρ,h=>bm C T S R f (.ap .normal k ρ) h
 |f+1,.ap .normal (.lst (c::cs) [] k) ρ,h=>bm C T S R f (.ex c .n (.lst cs [] k) ρ) h
 |f+1,.ap .normal (.lst (c::cs) (x::xs) k) ρ,h=>bm C T S R f (.ex c x (.lst cs xs k) ρ) h
 |f+1,.ap (.exit i) (.lst _ _ k) ρ,h=>bm C T S R f (.ap (.exit i) k ρ) h
 |f+1,.ap (.goto i) (.lst _ _ k) ρ,h=>bm C T S R f (.ap (.goto i) k ρ) h
 |f+1,.ap .ret (.lst _ _ k) ρ,h=>bm C T S R f (.ap .ret k ρ) h
 |f+1,.ap .normal (.jmp _ _ k) ρ,h=>bm C T S R f (.ap .normal k ρ) h
 |f+1,.ap (.exit i) (.jmp _ _ k) ρ,h=>bm C T S R f (.ap (.exit i) k ρ) h
 |f+1,.ap (.goto l) (.jmp c fwd k) ρ,h=>bm C T S R f (.jp (YO fwd l) (Gn c l) l c fwd k ρ) h
 |f+1,.ap .ret (.jmp _ _ k) ρ,h=>bm C T S R f (.ap .ret k ρ) h
 |f+1,.ap .normal (.hd l σ r as fwd c k) ρ,h=>HZ (λs K h=>bm C T S R f (.ap .normal (.lst r as (.jmp c fwd (.back l σ K k))) (Gq σ s ρ)) h) h (HY σ ρ)
 |f+1,.ap (.exit i) (.hd _ _ _ _ _ _ k) ρ,h=>bm C T S R f (.ap (.exit i) k ρ) h
 |f+1,.ap (.goto i) (.hd _ _ _ _ _ _ k) ρ,h=>bm C T S R f (.ap (.goto i) k ρ) h
 |f+1,.ap .ret (.hd _ _ _ _ _ _ k) ρ,h=>bm C T S R f (.ap .ret k ρ) h
 |f+1,.so none all k ρ,h=>bm C T S R f (.rg all ⟨all,true,.n⟩ [] k ρ) h
 |f+1,.so (some s) all k ρ,h=>bm C T S R f (.st s all true [] k ρ) h
 |f+1,.st (.l ns) all dr L k ρ,h=>bm C T S R f (.rg (Gs all ns) ⟨all,dr,.n⟩ L k ρ) h
 |f+1,.st (.y ns a b) all dr L k ρ,h=>bm C T S R f (.rg (Gs all ns) ⟨all,dr,.y a b⟩ L k ρ) h
 |f+1,.rg [] ⟨_,_,.n⟩ _ k ρ,h=>bm C T S R f (.ap .normal k ρ) h
 |f+1,.rg [] ⟨all,dr,.y a b⟩ L k ρ,h=>bm C T S R f (.st a all dr L k ρ) h/\bm C T S R f (.st b all dr L k ρ) h
 |f+1,.rg ((n,⟨d,o,t,p,e,none⟩)::os) r L k ρ,h=>bm C T S R f (.on n ⟨d,o,t,p,e,none⟩ os r L k ρ) h
 |f+1,.rg ((n,⟨d,o,t,p,e,some (j,w)⟩)::os) r L k ρ,h=>bm C T S R f (.gd (aaP ρ (WJ (mN (0,⟨none,.ready 0,0, "",#[],none⟩) r.all j))) w (WJ (mN (0,⟨none,.ready 0,0, "",#[],none⟩) r.all j)) n ⟨d,o,t,p,e,some (j,w)⟩ os r L k ρ) h
 |f+1,.gd (.k 0) true _ n o os r L k ρ,h=>bm C T S R f (.sk n o os r L k ρ) h
 |f+1,.gd (.k 0) false _ n o os r L k ρ,h=>bm C T S R f (.on n o os r L k ρ) h
 |f+1,.gd (.k (_+1)) true _ n o os r L k ρ,h=>bm C T S R f (.on n o os r L k ρ) h
 |f+1,.gd (.k (_+1)) false _ n o os r L k ρ,h=>bm C T S R f (.sk n o os r L k ρ) h
 |f+1,.gd (.v (.tuple _)) _ _ n o os r L k ρ,h=>bm C T S R f (.sk n o os r L k ρ) h
 |f+1,.gd (.v (.bool b)) true d n o os r L k ρ,h=>Br b (bm C T S R f (.on n o os r L k (.tf d 1::ρ)) h) (bm C T S R f (.sk n o os r L k (.tf d 0::ρ)) h)
 |f+1,.gd (.v (.bool b)) false d n o os r L k ρ,h=>Br b (bm C T S R f (.sk n o os r L k (.tf d 1::ρ)) h) (bm C T S R f (.on n o os r L k (.tf d 0::ρ)) h)
 |f+1,.on n ⟨d,o,t,_,e,_⟩ os r L k ρ,h=>bm C T S R f (.rs (YL C.P T C.tup t ρ o) n d e.toList os r L k ρ) h
 |f+1,.sk _ ⟨d,o,_,_,e,_⟩ os r L k ρ,h=>Fh e.toList L h (Fg r.dr (QY T o)) (bm C T S R f (.rg os r (YQ e.toList L (Fg r.dr (QY T o))) k (nJ d undef ρ)) h)
 |f+1,.rs (.val v) _ d _ os r L k ρ,h=>bm C T S R f (.rg os r L k (nJ d v ρ)) h
 |f+1,.rs (.cond c v) _ d _ os r L k ρ,h=>c/\bm C T S R f (.rg os r L k (nJ d v ρ)) h
 |f+1,.rs (.ex X c v) _ d _ os r L k ρ,h=>∃x:X,c x/\bm C T S R f (.rg os r L k (nJ d (v x) ρ)) h
 |f+1,.rs (.br b x y) _ d _ os r L k ρ,h=>Br b (bm C T S R f (.rg os r L k (nJ d x ρ)) h) (bm C T S R f (.rg os r L k (nJ d y ρ)) h)
 |f+1,.rs (.ld a (.sc s) _) n d _ os r L k ρ,h=>∃x:s.den,cellOf h a=some (s.enc x)/\bm C T S R f (.rg os r (QW r.dr n (.l [(a,s.enc x)]) L) k (nJ d (s.enc x) ρ)) h
 |f+1,.rs (.ld a (.agg l) _) n d _ os r L k ρ,h=>∃x:uY l,aZ h a 0 (nG l x)/\bm C T S R f (.rg os r (QW r.dr n (.l (WL a 0 (nG l x))) L) k (nJ d (.agg (nG l x).toArray) ρ)) h
 |f+1,.rs (.ld a (.arr s) m) n d _ os r L k ρ,h=>∃x:List s.den,(x.length=m/\aZ h a 0 (x.map s.enc))/\bm C T S R f (.rg os r (QW r.dr n (.a a (x.map s.enc)) L) k (nJ d (.agg (x.map s.enc).toArray) ρ)) h
 |f+1,.rs (.ru _ s) _ d e os r L k ρ,h=>av C.P s h λ_ h'=>Fh e L h' r.dr (bm C T S R f (.rg os r (Ia e L r.dr) k (nJ d undef ρ)) h')
 |f+1,.rs (.ra s) _ d e os r L k ρ,h=>pW C.P s h λa h'=>Fh e L h' r.dr (bm C T S R f (.rg os r (Ia e L r.dr) k (nJ d (.pointer (some a)) ρ)) h')
 |f+1,.rs (.rr s t) _ d e os r L k ρ,h=>bF C.P s t h λx h'=>Fh e L h' r.dr (bm C T S R f (.rg os r (Ia e L r.dr) k (nJ d (t.enc x) ρ)) h')
 |f+1,.rs (.ca g l t) _ d e os r L k ρ,h=>ji C.P g l.toArray t h λx h'=>Fh e L h' r.dr (bm C T S R f (.rg os r (Ia e L r.dr) k (nJ d (t.enc x) ρ)) h')
 |f+1,.rs (.dy g l t) _ d e os r L k ρ,h=>vI C g l t h λx h'=>Fh e L h' r.dr (bm C T S R f (.rg os r (Ia e L r.dr) k (nJ d (t.enc x) ρ)) h')
 |f+1,.re [] [] _,h=>R (.tuple #[]) h
 |f+1,.re [] [v] _,h=>R v h
 |f+1,.re [] (v::w::r) _,h=>R (.tuple (v::w::r).toArray) h
 |f+1,.re (.tmp t::r) acc ρ,h=>bm C T S R f (.re r (pX acc [Ff ρ t]) ρ) h
 |f+1,.re (.cell a t::r) acc ρ,h=>bm C T S R f (.rl (QQ (Ff ρ a) (T t)) r acc ρ) h
 |f+1,.rl (.ld a (.sc s) _) r acc ρ,h=>∃x:s.den,cellOf h a=some (s.enc x)/\bm C T S R f (.re r (pX acc [s.enc x]) ρ) h
 |f+1,.rl (.ld a (.agg l) _) r acc ρ,h=>∃x:uY l,aZ h a 0 (nG l x)/\bm C T S R f (.re r (pX acc [.agg (nG l x).toArray]) ρ) h
 |f+1,.rl (.ld a (.arr s) m) r acc ρ,h=>∃x:List s.den,(x.length=m/\aZ h a 0 (x.map s.enc))/\bm C T S R f (.re r (pX acc [.agg (x.map s.enc).toArray]) ρ) h
 |_+1,_,_=>False
def QZ:Nat->List Value->Ev
 |_,[]=>[]
 |n,v::r=>.val n v::QZ (n+1) r
theorem acL{α:Type}(l:List α):(l.toArray).toList=l:=rfl
theorem acM(a:Addr):a.add 0=a:=rfl
theorem acN(s:Sl):Sl.mk s.ptr s.len s.cap=s:=rfl
theorem abj(A B:Prop):Br true A B=A:=rfl
theorem abk(A B:Prop):Br false A B=B:=rfl
end Rk
abbrev dP:=List (List UInt8)
abbrev aR:=List UInt8
abbrev cO:=List (List Int)
abbrev aC:=List Int
abbrev bJ:=Option Go.Addr
abbrev aS:=List Go.Value
abbrev vQ:=Go.Value->Qw.Heap->Prop
abbrev Ls:=Go.FuncId×Array Go.Value×Array Go.Value
abbrev cg.tn(a:Qw.cg):Qw.cg:=.two .n a
abbrev cg.lp(L:Qw.dC)(S:Qw.dl):Qw.cg:=.two (.two .n (.inn (.loop L S .n))) .n
abbrev cg.jn(L:Qw.dC)(S:Qw.dl)(a:Qw.cg):Qw.cg:=.two (.join L S .n) a
universe u
theorem m6{c:Prop}{h:Decidable c}(hc:c){α:Sort u}{t e:α}:ite c t e=t:=if_pos hc
theorem nq{c:Prop}{h:Decidable c}(hnc:¬c){α:Sort u}{t e:α}:ite c t e=e:=if_neg hnc
theorem n1{p:Prop}[inst:Decidable p]:p->decide p=true:=decide_eq_true
theorem n2{p:Prop}[inst:Decidable p]:¬p->decide p=false:=decide_eq_false
theorem n3{p:Prop}[inst:Decidable p]:decide p=true->p:=of_decide_eq_true
theorem n5{α:Sort u}{a:α}:a=a:=rfl
theorem I6:True:=trivial
theorem I5{α:Sort u}(a:α):∃b,b=a:=⟨_,rfl⟩
theorem n7{p:Prop}(h:p:=by omega):p:=h
theorem n8{p:Prop}(h:p:=by decide):p:=h
theorem n9{p:Prop}(h:p:=by dsimp only;omega):p:=h
theorem oi{p:Prop}(h:p:=by simp;omega):p:=h
theorem oj{p:Prop}(h:p:=by dsimp only;rw[af _];rfl):p:=h
theorem oo{p:Prop}(h:p:=by simp):p:=h
theorem o0{p:Prop}(h:p:=by rw[af _];rfl):p:=h
theorem o1{p:Prop}(h:p:=by cases e):p:=h
theorem o4{p:Prop}(h:p:=by grind):p:=h
theorem o5{p:Prop}(h:p:=by kernel_rfl):p:=h
theorem o6{p:Prop}(h:p:=by decide+kernel):p:=h
theorem o7{p:Prop}(h:p:=by repeat (first|exact trivial|refine⟨by assumption,?_⟩)):p:=h
theorem o8{p:Prop}(h:p:=by rw[addr_add];exact hb.cell n5):p:=h
theorem o9{p:Prop}(h:p:=by rw[af _];omega):p:=h
theorem pa{p:Prop}(h:p:=by rw[e1];decide):p:=h
theorem pb{p:Prop}(h:p:=by simp[Value.cells]):p:=h
theorem pt{p:Prop}(h:p:=by rw[cl (by omega)];omega):p:=h
theorem p6{p:Prop}(h:p:=by rw[qJ];omega):p:=h
theorem p7{p:Prop}(h:p:=by simpa using e):p:=h
theorem p8{p:Prop}(h:p:=by simp[dz]):p:=h
theorem p9{p:Prop}(h:p:=by simp[bL];omega):p:=h
theorem qa{p:Prop}(h:p:=by rfl):p:=h
theorem qb{p:Prop}(h:p:=by unfold dM;simp;omega):p:=h
theorem sz{p:Prop}(h:p:=by simp at d;omega):p:=h
theorem sL{p:Prop}(h:p:=by simp[aN]):p:=h
theorem sR{p:Prop}(h:p:=by simpa using h):p:=h
theorem tg{p:Prop}(h:p:=by have:=((jS m).1 a).1;omega):p:=h
theorem tq{p:Prop}(h:p:=by simp[bL]):p:=h
theorem t6{p:Prop}(h:p:=by rw[qw];omega):p:=h
theorem t7{p:Prop}(h:p:=by cases h):p:=h
theorem t8{p:Prop}(h:p:=by simp[fj]):p:=h
theorem u0{p:Prop}(h:p:=by dsimp only;simp;omega):p:=h
theorem u6{p:Prop}(h:p:=by rw[<-bf (by omega),jd,nq (by omega)]):p:=h
theorem u7{p:Prop}(h:p:=by assumption):p:=h
theorem v6{p:Prop}(h:p:=by simp[bP];omega):p:=h
theorem v7{p:Prop}(h:p:=by rw[n2 b];rfl):p:=h
theorem v8{p:Prop}(h:p:=by simpa using H):p:=h
theorem xa{p:Prop}(h:p:=by rw[fR];omega):p:=h
theorem xx{p:Prop}(h:p:=by simpa using e2):p:=h
theorem x0{p:Prop}(h:p:=by simpa using b):p:=h
theorem x7{p:Prop}(h:p:=by simpa using m):p:=h
theorem A0{p:Prop}(h:p:=by simp[dG];omega):p:=h
theorem A1{p:Prop}(h:p:=by simp[dE];omega):p:=h
theorem A3{p:Prop}(h:p:=by rw[e];rfl):p:=h
theorem A4{p:Prop}(h:p:=by unfold iQ;rw[o.refl];rfl):p:=h
theorem A5{p:Prop}(h:p:=by rw[<-y];exact u.cell0 n5):p:=h
theorem A6{p:Prop}(h:p:=by rw[<-z];exact w.cell0 n5):p:=h
theorem A7{p:Prop}(h:p:=by simp[ie]):p:=h
theorem A8{p:Prop}(h:p:=by simp[bA];omega):p:=h
theorem A9{p:Prop}(h:p:=by rw[rI d];omega):p:=h
theorem Bk{p:Prop}(h:p:=by simp[d]):p:=h
theorem Bm{p:Prop}(h:p:=by rw[qf (qj _)]):p:=h
theorem B0{p:Prop}(h:p:=by have:=(d a).2.2.1;omega):p:=h
theorem B1{p:Prop}(h:p:=by rw[wrap_u64];omega):p:=h
theorem B2{p:Prop}(h:p:=by simp at j):p:=h
theorem B3{p:Prop}(h:p:=by simpa using p):p:=h
theorem B4{p:Prop}(h:p:=by simpa using f):p:=h
theorem B5{p:Prop}(h:p:=by simpa using a):p:=h
theorem B6{p:Prop}(h:p:=by rw[qm];omega):p:=h
theorem B7{p:Prop}(h:p:=by rw[ft];omega):p:=h
theorem B8{p:Prop}(h:p:=by have:=(d a).2.1;omega):p:=h
theorem B9{p:Prop}(h:p:=by simp[c]):p:=h
theorem Cw{p:Prop}(h:p:=by simpa using g):p:=h
theorem C0{p:Prop}(h:p:=by simp[g]):p:=h
theorem C1{p:Prop}(h:p:=by rw[ok.la];omega):p:=h
theorem C2{p:Prop}(h:p:=by unfold rc;rw[e];rfl):p:=h
theorem C3{p:Prop}(h:p:=by rw[l]):p:=h
theorem C4{p:Prop}(h:p:=by simp[powC]):p:=h
theorem C5{p:Prop}(h:p:=by rw[hE];exact qe hn):p:=h
theorem C6{p:Prop}(h:p:=by have:=e a;omega):p:=h
theorem C7{p:Prop}(h:p:=by rw[qw,li];omega):p:=h
theorem C8{p:Prop}(h:p:=by simp[e]):p:=h
theorem C9{p:Prop}(h:p:=by rw[s];rfl):p:=h
theorem D0{p:Prop}(h:p:=by simp[iu];omega):p:=h
theorem D1{p:Prop}(h:p:=by simp[fA];omega):p:=h
theorem D2{p:Prop}(h:p:=by simpa using n):p:=h
theorem D3{p:Prop}(h:p:=by rw[L];exact E):p:=h
theorem D4{p:Prop}(h:p:=by rw[e3];decide):p:=h
theorem D5{p:Prop}(h:p:=by rw[e2];decide):p:=h
theorem D6{p:Prop}(h:p:=by simpa using S):p:=h
theorem D7{p:Prop}(h:p:=by simpa using c):p:=h
theorem D8{p:Prop}(h:p:=by rw[qO];omega):p:=h
theorem D9{p:Prop}(h:p:=by rw[g];decide):p:=h
theorem E0{p:Prop}(h:p:=by rw[D];exact uX):p:=h
theorem E1{p:Prop}(h:p:=by rw[d]):p:=h
theorem E2{p:Prop}(h:p:=by simpa using O):p:=h
theorem E3{p:Prop}(h:p:=by simp[li,lc]):p:=h
theorem E4{p:Prop}(h:p:=by simp[hl]):p:=h
theorem E5{p:Prop}(h:p:=by rw[o];simp):p:=h
theorem E6{p:Prop}(h:p:=by cases a):p:=h
theorem E7{p:Prop}(h:p:=by rw[e2];simp):p:=h
theorem E8{p:Prop}(h:p:=by rw[fy,e];rfl):p:=h
theorem E9{p:Prop}(h:p:=by simp at h):p:=h
theorem F8{p:Prop}(h:p:=by simp[p]):p:=h
theorem F9{p:Prop}(h:p:=by rw[r]):p:=h
abbrev qj:=@Nat.le_refl
abbrev qC:=@Bool.and_eq_true
abbrev zc:=@Bool.false_eq_true
abbrev zD:=@List.cons_append
abbrev qM:=@List.getElem?_map
abbrev q7:=@List.length_cons
abbrev qN:=@List.mem_cons
abbrev qp:=@List.mem_cons_of_mem
abbrev qB:=@List.mem_singleton
abbrev zn:=@Option.map_some
abbrev z7:=@UInt8.xor_zero
abbrev wo:=@UInt8.zero_xor
abbrev w6:=@Nat.add_assoc
abbrev ym:=@Nat.add_zero
abbrev qV:=@Nat.le_trans
abbrev qS:=@Nat.lt_of_lt_of_le
abbrev q8:=@Nat.lt_succ_iff_lt_or_eq
abbrev vk:=@Nat.mod_lt
abbrev zr:=@Nat.mul_le_mul
abbrev zi:=@Nat.mul_le_mul_right
abbrev zd:=@Nat.sub_self
abbrev zU:=@Nat.succ_mul
abbrev w8:=@Nat.zero_add
abbrev qP:=@List.all_eq_true
abbrev wg:=@List.any_eq_false
abbrev ql:=@List.append_assoc
abbrev vq:=@List.countP_cons
abbrev wm:=@List.drop_drop
abbrev zj:=@List.drop_of_length_le
abbrev qQ:=@List.eq_nil_of_length_eq_zero
abbrev zX:=@List.ext_getElem
abbrev zp:=@List.ext_getElem?
abbrev zg:=@List.filter_append
abbrev yZ:=@List.filter_eq_nil_iff
abbrev za:=@List.flatMap_append
abbrev zm:=@List.flatMap_cons
abbrev wz:=@List.foldl_append
abbrev zN:=@List.foldl_cons
abbrev qg:=@List.getD_eq_getElem?_getD
abbrev qu:=@List.getElem?_append_left
abbrev qk:=@List.getElem?_append_right
abbrev qU:=@List.getElem?_cons_succ
abbrev wB:=@List.getElem?_cons_zero
abbrev wJ:=@List.getElem?_drop
abbrev qd:=@List.getElem?_eq_getElem
abbrev zf:=@List.getElem?_eq_none
abbrev qn:=@List.getElem?_eq_some_iff
abbrev qW:=@List.getElem?_set
abbrev w4:=@List.getElem?_set_ne
abbrev zJ:=@List.getElem?_set_self
abbrev zT:=@List.getElem?_toArray
abbrev wQ:=@List.getElem?_zipWith
abbrev zM:=@List.getElem_drop
abbrev qe:=@List.getElem_mem
abbrev qE:=@List.getElem_of_mem
abbrev qo:=@List.length_append
abbrev qJ:=@List.length_drop
abbrev qm:=@List.length_map
abbrev wP:=@List.length_mergeSort
abbrev zL:=@List.length_range
abbrev qO:=@List.length_set
abbrev qw:=@List.length_take
abbrev qx:=@List.mem_append
abbrev qR:=@List.mem_cons_self
abbrev qK:=@List.mem_filter
abbrev wZ:=@List.mem_flatMap
abbrev qI:=@List.mem_map
abbrev zK:=@List.mem_of_mem_take
abbrev qY:=@List.mem_range
abbrev zV:=@List.mem_take_iff_getElem
abbrev wc:=@List.mergeSort_perm
abbrev zA:=@List.pairwise_append
abbrev zt:=@List.pairwise_cons
abbrev zb:=@List.pairwise_iff_getElem
abbrev wC:=@List.pairwise_mergeSort
abbrev yH:=@List.range_eq_range'
abbrev zC:=@List.range_succ
abbrev yY:=@List.set_set
abbrev qz:=@List.take_append_drop
abbrev qf:=@List.take_of_length_le
abbrev zy:=@List.take_succ_eq_append_getElem
abbrev wH:=@BitVec.ofInt_natCast
abbrev yX:=@Int.tmod_lt_of_pos
abbrev qi:=@Int.toNat_natCast
abbrev yf:=@Array.getElem?_modify
abbrev w7:=@Bool.not_eq_true'
abbrev wG:=@Bool.not_false
abbrev zQ:=@List.any_eq_true
abbrev qL:=@List.append_nil
abbrev zx:=@List.filter_cons
abbrev yQ:=@List.filter_eq_self
abbrev y0:=@List.map_map
abbrev yj:=@List.mem_replicate
abbrev wN:=@UInt8.ofNat_toNat
abbrev zP:=@UInt8.toNat_lt
abbrev vO:=@UInt8.xor_comm
abbrev vt:=@Option.getD_some
abbrev yP:=@Option.isSome_iff_exists
abbrev vK:=@Option.toList_none
abbrev we:=@Int.mul_le_mul
abbrev vR:=@Int.mul_nonneg
abbrev zR:=@Int.natCast_mul
abbrev yO:=@Int.ofNat_inj
abbrev xy:=@Int.ofNat_lt
abbrev yB:=@Int.tdiv_eq_ediv_of_nonneg
abbrev zS:=@Int.tmod_eq_emod_of_nonneg
abbrev yw:=@UInt8.toNat_inj
abbrev wq:=@List.all_append
abbrev z6:=@List.all_eq_false
abbrev yb:=@List.any_append
abbrev qT:=@List.drop_eq_getElem_cons
abbrev wL:=@List.filter_nil
abbrev zW:=@List.flatMap_nil
abbrev zq:=@List.getElem?_range
abbrev wD:=@List.getElem?_replicate
abbrev zF:=@List.getElem_take
abbrev yk:=@List.getElem_zip
abbrev qH:=@List.length_filter_le
abbrev wK:=@List.length_nil
abbrev qF:=@List.map_append
abbrev vJ:=@List.map_mergeSort
abbrev wh:=@List.mem_of_getElem?
abbrev qZ:=@List.set_append_right
abbrev wY:=@List.set_cons_succ
abbrev zu:=@List.set_cons_zero
abbrev qt:=@List.take_length
abbrev wE:=@Nat.add_sub_cancel_left
abbrev zG:=@Nat.mul_one
abbrev qX:=@Nat.zero_le
abbrev yn:=@Bool.false_or
abbrev z8:=@Bool.true_and
abbrev yU:=@Prod.ext
abbrev vA:=@List.any_cons
abbrev vT:=@List.any_nil
abbrev yS:=@List.drop_length
abbrev vV:=@List.find?_append
abbrev yh:=@List.find?_eq_none
abbrev zk:=@List.getElem_map
abbrev wU:=@List.length_replicate
abbrev wu:=@List.map_cons
abbrev y5:=@List.map_nil
abbrev zO:=@List.mem_of_find?_eq_some
abbrev yL:=@List.replicate_succ'
abbrev vd:=@Bool.and_self
abbrev wj:=@Int.emod_lt_of_pos
abbrev yx:=@Int.emod_nonneg
abbrev ze:=@Int.natCast_nonneg
abbrev wA:=@Int.ofNat_le
abbrev xm:=@Bool.and_true
abbrev yE:=@Bool.eq_iff_iff
abbrev yz:=@List.all_cons
abbrev vu:=@List.all_nil
abbrev xj:=@List.getElem_set
abbrev vy:=@List.getElem_set_ne
abbrev wT:=@List.getElem_set_self
abbrev xl:=@List.map_drop
abbrev xC:=@List.map_take
abbrev yM:=@List.mem_of_mem_drop
abbrev xh:=@Int.not_lt
abbrev wx:=@List.length_singleton
end Go.Qw
