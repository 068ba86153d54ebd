/- Part of the proofs that the laws of this seat answer true whatever the input reads, and leave it as it was; no condition. -/
import Derived.Calls
import Derived.Orders
import Derived.Scope
import Derived.KernelRfl
import Derived.Laws.Sem
import Derived.OrdersHeld
set_option linter.unusedVariables false
set_option linter.unusedSimpArgs false
namespace Go.Vc
open Go
abbrev Heap:=Array Obj
def cellOf (h:Heap) (a:Addr):Option Value:=
 match h[a.block]? with
 |some (.cells c _ _)=>if a.spot.isSome then none else c[a.off]?
 |_=>none
def tM (h:Heap) (a:Addr):Bool:=
 match h[a.block]? with
 |some (.cells _ _ (lo,hi))=>lo≤a.off&&a.off<hi
 |_=>false
def tN (h:Heap) (a:Addr) (v:Value):Heap:=
 h.modify a.block fun
  | .cells c elem frozen=>.cells (if a.spot.isSome then c else c.setIfInBounds a.off v) elem frozen
  |o=>o
def shapeOf (h:Heap) (r:Nat):Option (TypeId×Nat):=match h[r]? with|some (.cells c elem _)=>some (elem,c.size)|_=>none
theorem wb (w:World) (r:Nat):w.shape? r=shapeOf w.heap r:=rfl
theorem mI (w:World) (a:Addr):w.cell? a=cellOf w.heap a:=rfl
theorem xq (w:World) (a:Addr):w.frozen? a=tM w.heap a:=rfl
theorem xr (w:World) (a:Addr) (v:Value):(w.setCell a v).heap=tN w.heap a v:=rfl
structure aL (w w':World):Prop where
 os:w'.os=w.os
 tape:w'.tape=w.tape
 output:w'.output=w.output
 drawn:w.drawn≤w'.drawn
theorem aL.refl (w:World):aL w w:=⟨rfl,rfl,rfl,Nat.le_refl _⟩
theorem aL.trans {a b c:World} (h:aL a b) (k:aL b c):aL a c:=⟨k.os.trans h.os,k.tape.trans h.tape,k.output.trans h.output,Nat.le_trans h.drawn k.drawn⟩
def ae (P:Program) (f:FuncId) (args:Array Value) (h:Heap) (R:Value→Heap→Prop):Prop:=
 ∀w,w.heap=h→Calls P f args w fun e w'=>∃v,e=.returned v∧aL w w'∧R v w'.heap
theorem ae.mono {P:Program} {f:FuncId} {args:Array Value} {h:Heap} {R R':Value→Heap→Prop} (hs:ae P f args h R)
  (hr:∀v h',R v h'→R' v h'):ae P f args h R':=fun w hw=>
 (hs w hw).mono fun _ _ ⟨v,he,hl,r⟩=>⟨v,he,hl,hr _ _ r⟩
def aa {α:Type} (P:Program) (s:Sem α) (h:Heap) (K:α→Heap→Prop):Prop:=
 ∀w,w.heap=h→∃v w',s.run P w=.ok v w'∧aL w w'∧K v w'.heap
section
variable {α β:Type} {P:Program} {h:Heap}
theorem aa.pure' {K:α→Heap→Prop} {a:α} (hk:K a h):aa P (Pure.pure a) h K:=fun w hw=>⟨a,w,rfl,aL.refl w,by rw[hw];exact hk⟩
theorem aa.bind {s:Sem α} {f:α→Sem β} {K:β→Heap→Prop} (hs:aa P s h fun v h'=>aa P (f v) h' K):aa P (s>>=f) h K:=by
 intro w hw
 obtain⟨v,w',hr,hl,hk⟩:=hs w hw
 obtain⟨v',w'',hr',hl',hk'⟩:=hk w' rfl
 exact⟨v',w'',by rw[Sem.run_bind,hr];exact hr',hl.trans hl',hk'⟩
theorem aa.mono {s:Sem α} {K K':α→Heap→Prop} (hs:aa P s h K) (hk:∀v h',K v h'→K' v h'):aa P s h K':=fun w hw=>
 let⟨v,w',a,b,c⟩:=hs w hw;⟨v,w',a,b,hk _ _ c⟩
theorem aa.wc {K:Program→Heap→Prop} (hk:K P h):aa P program h K:=fun w hw=>⟨P,w,rfl,aL.refl w,by rw[hw];exact hk⟩
theorem aa.ya {a:Addr} {v v0:Value} {m:Mode} {K:Unit→Heap→Prop} (hv:v.oneCell'=true) (hc:cellOf h a=some v0) (hf:tM h a=false) (hk:K () (tN h a v)):
  aa P (store a v m) h K:=fun w hw=>
 ⟨(),w.setCell a v,by rw[run_store _ _ _ _ _ hv,mI,hw,hc];simp[xq,hw,hf],⟨rfl,rfl,rfl,Nat.le_refl _⟩,by rw[xr,hw];exact hk⟩
theorem aa.ft {o:Obj} {K:Nat→Heap→Prop} (hk:K h.size (h.push o)):aa P (newObj o) h K:=fun w hw=>
 ⟨w.heap.size,_,run_newObj P w o,⟨rfl,rfl,rfl,Nat.le_refl _⟩,by simp only[hw];exact hk⟩
theorem aa.nw {n:Nat} {K:Unit→Heap→Prop} (hk:K () h):aa P (askRoom n) h K:=fun w hw=>⟨(),w,run_askRoom P w n,aL.refl w,by rw[hw];exact hk⟩
theorem aa.oZ {q:Question} {K:Nat→Heap→Prop} (hk:(q.forced=true→K 0 h)∧(q.forced=false→∀n,K (q.cut n) h)):aa P (choose q) h K:=by
 intro w hw
 cases hq:q.forced with
 |true=>exact⟨0,w,by rw[run_choose,hq];rfl,aL.refl w,by rw[hw];exact hk.1 hq⟩
 |false=>exact⟨q.cut (w.tape w.drawn q),{w with drawn:=w.drawn+1},by rw[run_choose,hq];rfl,⟨rfl,rfl,rfl,Nat.le_succ _⟩,by show K _ w.heap;rw[hw];exact hk.2 hq _⟩
theorem aa.tm {r:Nat} {o:Obj} {K:Obj→Heap→Prop} (ho:h[r]?=some o) (hn:∀c e f,o≠.cells c e f) (hk:K o h):aa P (getObj r) h K:=fun w hw=>by
 refine⟨o,w,?_,aL.refl w,by rw[hw];exact hk⟩
 simp only[getObj,Sem.run,hw,ho]
theorem aa.tp {r:Nat} {o o':Obj} {K:Unit→Heap→Prop} (ho:h[r]?=some o) (hn:∀c e f,o≠.cells c e f) (hk:K () (h.setIfInBounds r o')):aa P (setObj r o') h K:=fun w hw=>by
 refine⟨(),{w with heap:=w.heap.setIfInBounds r o'},?_,⟨rfl,rfl,rfl,Nat.le_refl _⟩,by show K () (w.heap.setIfInBounds r o');rw[hw];exact hk⟩
 simp only[setObj,Sem.run,hw,ho]
theorem aa.yb {r:Nat} {K:Option (TypeId×Nat)→Heap→Prop} (hk:K (shapeOf h r) h):aa P (shape r) h K:=fun w hw=>
 ⟨_,w,run_shape P w r,aL.refl w,by rw[hw,wb,hw];exact hk⟩
end
def kf (P:Program) (s:Sem Next) (h:Heap) (K:Value→Heap→Prop):Prop:=
 aa P s h fun nx h'=>match nx with
  | .value v=>K v h'
  | .skip=>K undef h'
  | .enter f args=>ae P f args h' K
  |_=>False
theorem yL {P:Program} {o:Oper} {a:Act} {w:World} {K:Value→Heap→Prop} {Q:Exit→Act→World→Prop}
  (hr:kf P (execOp a.eval o) w.heap K) {next:Act→World→Prop}
  (hn:∀v w',aL w w'→K v w'.heap→next (a.put o.dst v) w'):o.wp P a w next Q:=by
 obtain⟨nx,w',he,hl,hk⟩:=hr w rfl
 unfold Oper.wp
 rw[he]
 cases nx<;>simp only at hk<;>simp only[Oper.upon]
 case value v=>exact hn _ _ hl hk
 case skip=>exact hn _ _ hl hk
 case enter f args=>
  refine(hk w' rfl).mono ?_
  rintro e w'' ⟨v,rfl,hl',r⟩
  exact hn _ _ (hl.trans hl') r
end Go.Vc
namespace Go.Vc
open Go
structure Sl where
 ptr:Option Addr
 len:Nat
 cap:Nat
 deriving Inhabited
inductive Sc where
 |int (k:IntKind)|bool|str|ptr|slc|flt (k:FloatKind)|cpx (k:FloatKind)|mp|fn|any|adr
@[reducible] def Sc.den:Sc→Type
 | .int _=>Int
 | .bool=>Bool
 | .str=>ByteArray
 | .ptr=>Option Addr
 | .slc=>Sl
 | .flt _=>Nat
 | .cpx _=>Nat×Nat
 | .mp=>Option Nat
 | .fn=>FuncId×Array Value×Array Value
 | .any=>Value
 | .adr=>Addr
@[reducible] def Sc.enc:(s:Sc)→s.den→Value
 | .int k,n=>.int k n
 | .bool,x=>.bool x
 | .str,x=>.string x
 | .ptr,a=>.pointer a
 | .slc,x=>.slice x.ptr x.len x.cap
 | .flt k,n=>.float k n
 | .cpx k,x=>.complex k x.1 x.2
 | .mp,r=>.map r
 | .fn,x=>.func (.func x.1) x.2.1 x.2.2
 | .any,v=>v
 | .adr,a=>.pointer (some a)
def kg:IntKind→IntKind→Bool
 | .i8,.i8| .i16,.i16| .i32,.i32| .i64,.i64| .u8,.u8| .u16,.u16| .u32,.u32| .u64,.u64=>true
 |_,_=>false
theorem na:∀{a b:IntKind},kg a b=true→a=b:=by
 intro a b;cases a<;>cases b<;>simp[kg]
def lN:FloatKind→FloatKind→Bool
 | .f32,.f32| .f64,.f64=>true
 |_,_=>false
theorem lO:∀{a b:FloatKind},lN a b=true→a=b:=by
 intro a b;cases a<;>cases b<;>simp[lN]
def Sc.dec:(s:Sc)→Value→Option s.den
 | .int k,.int k' n=>bif kg k k' then some n else none
 | .bool,.bool x=>some x
 | .str,.string x=>some x
 | .ptr,.pointer a=>some a
 | .slc,.slice a l c=>some ⟨a,l,c⟩
 | .flt k,.float k' n=>bif lN k k' then some n else none
 | .cpx k,.complex k' a b=>bif lN k k' then some (a,b)else none
 | .mp,.map r=>some r
 | .fn,.func (.func g) f c=>some (g,f,c)
 | .any,v=>some v
 | .adr,.pointer (some a)=>some a
 |_,_=>none
theorem Sc.gj {s:Sc} {v:Value} {x:s.den} (h:s.dec v=some x):v=s.enc x:=by
 cases s<;>cases v<;>simp only[Sc.dec]at h<;>try(first|(cases h;done)|(cases h;rfl))
 case int.int k k' n=>
  cases hk:kg k k'<;>simp[hk]at h
  have:=na hk;subst this;subst h;rfl
 case flt.float k k' n=>
  cases hk:lN k k'<;>simp[hk]at h
  have:=lO hk;subst this;subst h;rfl
 case cpx.complex k k' a b=>
  cases hk:lN k k'<;>simp[hk]at h
  have:=lO hk;subst this;subst h;rfl
 case fn.func g f c=>
  cases g<;>first|(cases h;done)|skip
  obtain⟨l⟩:=f
  cases l<;>first|(cases h;done)|(cases h;rfl)
 case adr.pointer a=>
  cases a<;>first|(cases h;done)|(cases h;rfl)
@[reducible] def pa:List Sc→Type
 |[]=>Unit
 |[s]=>s.den
 |s::t::r=>s.den×pa (t::r)
@[reducible] def jP:(l:List Sc)→pa l→List Value
 |[],_=>[]
 |[s],x=>[s.enc x]
 |s::t::r,x=>s.enc x.1::jP (t::r) x.2
def tO:(l:List Sc)→List Value→Option (pa l)
 |[],[]=>some ()
 |[s],[v]=>s.dec v
 |s::t::r,v::vs=>match s.dec v with
  |some x=>match tO (t::r) vs with
   |some y=>some (x,y)
   |none=>none
  |none=>none
 |_,_=>none
theorem uR:∀{l:List Sc} {vs:List Value} {x:pa l},tO l vs=some x→vs=jP l x:=by
 intro l vs
 fun_induction tO l vs with
 |case1=>intro x _;rfl
 |case2 s v=>intro x h;simp only[jP];rw[Sc.gj h]
 |case3 s t r v vs x hx y hy ih=>intro z h;cases h;simp only[jP];rw[Sc.gj hx,ih hy]
 |case4=>intro x h;cases h
 |case5=>intro x h;cases h
 |case6=>intro x h;cases h
inductive Ty where
 |sc (s:Sc)
 |agg (l:List Sc)
 |arr (s:Sc)
@[reducible] def Ty.den:Ty→Type
 | .sc s=>s.den
 | .agg l=>pa l
 | .arr s=>List s.den
@[reducible] def Ty.enc:(t:Ty)→t.den→Value
 | .sc s,x=>s.enc x
 | .agg l,x=>.agg (jP l x).toArray
 | .arr s,x=>.agg (x.map s.enc).toArray
def Ty.dec:(t:Ty)→Value→Option t.den
 | .sc s,v=>s.dec v
 | .agg l,.agg ⟨cs⟩=>tO l cs
 |_,_=>none
theorem Ty.gj {t:Ty} {v:Value} {x:t.den} (h:t.dec v=some x):v=t.enc x:=by
 unfold Ty.dec at h
 split at h
 ·exact Sc.gj h
 ·have:=uR h;subst this;rfl
 ·cases h
@[reducible] def tQ:List Ty→Type
 |[]=>Unit
 |[s]=>s.den
 |s::t::r=>s.den×tQ (t::r)
@[reducible] def wS:(l:List Ty)→tQ l→List Value
 |[],_=>[]
 |[s],x=>[s.enc x]
 |s::t::r,x=>s.enc x.1::wS (t::r) x.2
inductive Rt where
 |one (t:Ty)
 |many (l:List Ty)
@[reducible] def Rt.den:Rt→Type
 | .one t=>t.den
 | .many l=>tQ l
@[reducible] def Rt.enc:(r:Rt)→r.den→Value
 | .one t,x=>t.enc x
 | .many l,x=>.tuple (wS l x).toArray
inductive dN where
 |val (t:Nat) (x:Value)
 |kil (lo hi:Nat)
abbrev Env:=List dN
def dN.bi:dN→Nat→Bool
 | .val s _,t=>Nat.beq s t
 | .kil lo hi,t=>Nat.ble lo t&&Nat.blt t hi
def Env.get:Env→Nat→Option Value
 |[],_=>none
 | .val s x::r,t=>bif Nat.beq s t then some x else Env.get r t
 | .kil lo hi::r,t=>bif Nat.ble lo t&&Nat.blt t hi then none else Env.get r t
def Env.bi:Env→Nat→Bool
 |[],_=>false
 |e::r,t=>e.bi t||Env.bi r t
theorem Env.wd (e:dN) (r:Env) (t:Nat) (h:e.bi t=false):Env.get (e::r) t=Env.get r t:=by
 cases e<;>simp only[dN.bi]at h<;>simp[Env.get,h]
theorem Env.get_append {δ ρ:Env} {t:Nat} (h:δ.bi t=false):Env.get (δ++ρ) t=Env.get ρ t:=by
 induction δ with
 |nil=>rfl
 |cons e r ih=>
  simp only[Env.bi,Bool.or_eq_false_iff]at h
  rw[List.cons_append,Env.wd _ _ _ h.1,ih h.2]
theorem Env.jQ {δ ρ:Env} {t:Nat}:Env.bi (δ++ρ) t=(δ.bi t||ρ.bi t):=by
 induction δ with
 |nil=>simp[Env.bi]
 |cons e r ih=>simp[Env.bi,ih,Bool.or_assoc]
structure Fits (n:Nat) (a:Act) (ρ:Env):Prop where
 size:a.tmps.size=n
 defers:a.defers=[]
 get:∀t x,ρ.get t=some x→a.tmps[t]?=some x
def Ext (ρ ρ':Env) (a a':Act):Prop:=∃δ:Env,ρ'=δ++ρ∧∀t,δ.bi t=false→a'.tmps[t]?=a.tmps[t]?
theorem Ext.refl (ρ:Env) (a:Act):Ext ρ ρ a a:=⟨[],rfl,fun _ _=>rfl⟩
theorem Ext.trans {ρ ρ' ρ'':Env} {a a' a'':Act} (h:Ext ρ ρ' a a') (k:Ext ρ' ρ'' a' a''):Ext ρ ρ'' a a'':=by
 obtain⟨δ,rfl,h⟩:=h
 obtain⟨δ',rfl,k⟩:=k
 refine⟨δ'++δ,by simp,fun t ht=>?_⟩
 rw[Env.jQ,Bool.or_eq_false_iff]at ht
 rw[k t ht.1,h t ht.2]
def Env.eval (ρ:Env):Operand→Option Value
 | .tmp t=>ρ.get t
 | .const v=>some v
 | .global g=>some (.pointer (some ⟨g,0,none⟩))
 | .func f=>some (.func (.func f) #[] #[])
theorem Fits.eval {n:Nat} {a:Act} {ρ:Env} (h:Fits n a ρ) {x:Operand} {v:Value} (hv:ρ.eval x=some v):a.eval x=v:=by
 cases x<;>simp only[Env.eval]at hv<;>simp only[Act.eval]
 case tmp t=>have:=h.get t v hv;simp[Array.getD_eq_getD_getElem?,this]
 all_goals (injection hv)
theorem Fits.put {n:Nat} {a:Act} {ρ:Env} (h:Fits n a ρ) {d:Nat} (hd:Nat.blt d n=true) (v:Value):Fits n (a.put (some d) v) (.val d v::ρ):=by
 have hd':d<n:=Nat.le_of_ble_eq_true hd
 refine⟨by simp[Act.put,h.size],h.defers,fun t x ht=>?_⟩
 simp only[Env.get]at ht
 simp only[Act.put,Array.getElem?_setIfInBounds]
 cases hb:Nat.beq d t with
 |true=>
  rw[hb]at ht
  have:d=t:=Nat.eq_of_beq_eq_true hb
  subst this
  simp at ht
  simp[h.size,hd',ht]
 |false=>
  rw[hb]at ht
  have:d≠t:=fun e=>by subst e;simp at hb
  simp only[this,if_false]
  exact h.get t x ht
theorem Ext.put {ρ:Env} {a:Act} {d:Nat} (v u:Value):Ext ρ (.val d u::ρ) a (a.put (some d) v):=by
 refine⟨[.val d u],rfl,fun t ht=>?_⟩
 simp only[Env.bi,dN.bi,Bool.or_false]at ht
 have:d≠t:=fun e=>by subst e;simp at ht
 simp[Act.put,this]
abbrev aZ:=List (Nat×Ty)
@[reducible] def aZ.den:aZ→Type
 |[]=>Unit
 |[s]=>s.2.den
 |s::t::r=>s.2.den×aZ.den (t::r)
def aZ.bl:(σ:aZ)→σ.den→Env→Env
 |[],_,ρ=>ρ
 |[s],x,ρ=>.val s.1 (s.2.enc x)::ρ
 |s::t::r,x,ρ=>.val s.1 (s.2.enc x.1)::aZ.bl (t::r) x.2 ρ
def aZ.read:(σ:aZ)→Env→Option σ.den
 |[],_=>some ()
 |[s],ρ=>match ρ.get s.1 with
  |some v=>s.2.dec v
  |none=>none
 |s::t::r,ρ=>match ρ.get s.1 with
  |some v=>match s.2.dec v with
   |some x=>match aZ.read (t::r) ρ with
    |some y=>some (x,y)
    |none=>none
   |none=>none
  |none=>none
def aZ.has:aZ→Nat→Bool
 |[],_=>false
 |s::r,t=>Nat.beq s.1 t||aZ.has r t
abbrev aR:=List (Nat×Nat)
def aR.over:aR→Env→Env
 |[],ρ=>ρ
 |(lo,hi)::r,ρ=>.kil lo hi::aR.over r ρ
def aR.has:aR→Nat→Nat→Bool
 |[],_,_=>false
 |(lo,hi)::r,a,b=>(Nat.ble lo a&&Nat.ble b hi)||aR.has r a b
def within (σ:aZ) (κ:aR):Env→Nat→Bool
 |_,0=>true
 |[],_+1=>true
 | .val t _::r,n+1=>(aZ.has σ t||aR.has κ t (t+1))&&within σ κ r n
 | .kil lo hi::r,n+1=>aR.has κ lo hi&&within σ κ r n
theorem aR.we {κ:aR} {a b:Nat} (h:κ.has a b=true) {t:Nat} (h1:a≤t) (h2:t<b) (ρ:Env):∃δ:Env,κ.over ρ=δ++ρ∧δ.bi t=true:=by
 induction κ with
 |nil=>simp[aR.has]at h
 |cons p r ih=>
  obtain⟨lo,hi⟩:=p
  simp only[aR.has,Bool.or_eq_true,Bool.and_eq_true]at h
  obtain⟨δ,hδ⟩:∃δ:Env,aR.over r ρ=δ++ρ:=by
   clear ih h
   induction r with
   |nil=>exact⟨[],rfl⟩
   |cons q r ih=>obtain⟨δ,h⟩:=ih;exact⟨.kil q.1 q.2::δ,by show dN.kil q.1 q.2::aR.over r ρ=_;rw[h];rfl⟩
  rcases h with h|h
  ·have e1:=Nat.le_of_ble_eq_true h.1
   have e2:=Nat.le_of_ble_eq_true h.2
   refine⟨.kil lo hi::δ,by simp[aR.over,hδ],?_⟩
   have x1:Nat.ble lo t=true:=Nat.ble_eq_true_of_le (by omega)
   have x2:Nat.blt t hi=true:=by unfold Nat.blt;exact Nat.ble_eq_true_of_le (by omega)
   simp[Env.bi,dN.bi,x1,x2]
  ·obtain⟨δ',h1,h2⟩:=ih h
   exact⟨.kil lo hi::δ',by simp[aR.over,h1],by simp[Env.bi,h2]⟩
theorem aR.qL (κ:aR) (ρ:Env):κ.over ρ=κ.over []++ρ:=by
 induction κ with
 |nil=>rfl
 |cons p r ih=>obtain⟨lo,hi⟩:=p;simp[aR.over,ih]
theorem aZ.ny:∀(σ:aZ) (x:σ.den) (ρ:Env),σ.bl x ρ=σ.bl x []++ρ
 |[],_,ρ=>rfl
 |[s],x,ρ=>rfl
 |s::t::r,x,ρ=>by simp only[aZ.bl];rw[aZ.ny (t::r) x.2 ρ];rfl
theorem aZ.ju:∀(σ:aZ) (x:σ.den) (t:Nat),(σ.bl x []).bi t=σ.has t
 |[],_,_=>rfl
 |[s],x,t=>by simp[aZ.bl,Env.bi,dN.bi,aZ.has]
 |s::u::r,x,t=>by
  have:=aZ.ju (u::r) x.2 t
  simp only[aZ.bl,Env.bi,dN.bi,this]
  rfl
theorem aZ.qM:∀(σ:aZ) (x:σ.den) (e:Env) (t:Nat),σ.has t=true→((σ.bl x [])++e).get t=(σ.bl x []).get t
 |[],_,_,_,h=>by cases h
 |[s],x,e,t,h=>by
  simp only[aZ.has,Bool.or_false]at h
  simp[aZ.bl,Env.get,h]
 |s::u::r,x,e,t,h=>by
  simp only[aZ.bl,List.cons_append,Env.get]
  cases hb:Nat.beq s.1 t with
  |true=>rfl
  |false=>
   have h':aZ.has (u::r) t=true:=by
    have h2:(Nat.beq s.1 t||aZ.has (u::r) t)=true:=h
    rw[hb]at h2;exact h2
   simpa using aZ.qM (u::r) x.2 e t h'
theorem aR.pJ {κ:aR} {a b t:Nat} (h:κ.has a b=true) (h1:a≤t) (h2:t<b):(κ.over []).bi t=true:=by
 obtain⟨δ,hδ,hh⟩:=aR.we h h1 h2 []
 rw[hδ];simpa using hh
theorem eT {σ:aZ} {κ:aR}:∀{δ ρ:Env},within σ κ (δ++ρ) δ.length=true→∀t,σ.has t=false→(κ.over []).bi t=false→δ.bi t=false
 |[],_,_,_,_,_=>rfl
 | .val s x::r,ρ,h,t,h1,h2=>by
  simp only[List.cons_append,List.length_cons,within,Bool.and_eq_true,Bool.or_eq_true]at h
  simp only[Env.bi,dN.bi,Bool.or_eq_false_iff]
  refine⟨?_,eT h.2 t h1 h2⟩
  cases hb:Nat.beq s t with
  |false=>rfl
  |true=>
   have:s=t:=Nat.eq_of_beq_eq_true hb
   subst this
   rcases h.1 with h|h
   ·rw[h]at h1;cases h1
   ·rw[aR.pJ h (Nat.le_refl _) (Nat.lt_succ_self _)]at h2;cases h2
 | .kil lo hi::r,ρ,h,t,h1,h2=>by
  simp only[List.cons_append,List.length_cons,within,Bool.and_eq_true]at h
  simp only[Env.bi,dN.bi,Bool.or_eq_false_iff]
  refine⟨?_,eT h.2 t h1 h2⟩
  cases hb:(Nat.ble lo t&&Nat.blt t hi)with
  |false=>rfl
  |true=>
   simp only[Bool.and_eq_true]at hb
   have e1:=Nat.le_of_ble_eq_true hb.1
   have e2:t<hi:=Nat.le_of_ble_eq_true hb.2
   rw[aR.pJ h.1 e1 e2]at h2;cases h2
theorem aZ.qN:∀{σ:aZ} {ρ:Env} {x:σ.den} {t:Nat} {v:Value},σ.read ρ=some x→(σ.bl x []).get t=some v→ρ.get t=some v∨False
 |[],_,_,_,_,_,h=>by simp[aZ.bl,Env.get]at h
 |[s],ρ,x,t,v,h,hv=>by
  simp only[aZ.read]at h
  split at h
  ·rename_i u hu
   simp only[aZ.bl,Env.get]at hv
   cases hb:Nat.beq s.1 t with
   |true=>
    rw[hb]at hv
    have:=Nat.eq_of_beq_eq_true hb
    simp at hv;subst hv
    rw[←Ty.gj h,←this];exact .inl hu
   |false=>rw[hb]at hv;simp at hv
  ·cases h
 |s::u::r,ρ,x,t,v,h,hv=>by
  simp only[aZ.read]at h
  split at h
  ·rename_i z hz
   split at h
   ·rename_i y hy
    split at h
    ·rename_i w hw
     cases h
     simp only[aZ.bl,Env.get]at hv
     cases hb:Nat.beq s.1 t with
     |true=>
      rw[hb]at hv
      have:=Nat.eq_of_beq_eq_true hb
      simp at hv;subst hv
      rw[←Ty.gj hy,←this];exact .inl hz
     |false=>
      rw[hb]at hv
      exact aZ.qN (σ:=u::r) hw hv
    ·cases h
   ·cases h
  ·cases h
theorem Fits.gk {n:Nat} {a a':Act} {σ:aZ} {κ:aR} {ρ ρ':Env} {x:σ.den} (h0:Fits n a ρ) (h:Fits n a' ρ')
  (hsame:∀t,σ.has t=false→(κ.over []).bi t=false→a'.tmps[t]?=a.tmps[t]?) (hr:σ.read ρ'=some x):
  Fits n a' (σ.bl x (κ.over ρ))∧Ext ρ (σ.bl x (κ.over ρ)) a a':=by
 rw[aZ.ny,aR.qL]
 refine⟨⟨h.size,h.defers,fun t v hv=>?_⟩,⟨σ.bl x []++κ.over [],by simp,fun t ht=>?_⟩⟩
 ·cases h1:σ.has t with
  |true=>
   have:∀(e:Env),((σ.bl x [])++e).get t=(σ.bl x []).get t:=fun e=>aZ.qM σ x e t h1
   rw[this]at hv
   rcases aZ.qN hr hv with h2|h2
   ·exact h.get t v h2
   ·exact h2.elim
  |false=>
   rw[Env.get_append (by rw[aZ.ju];exact h1)]at hv
   cases h2:(κ.over []).bi t with
   |true=>
    have:∀(e:Env),((κ.over [])++e).get t=none:=by
     intro e
     clear hsame hv
     induction κ with
     |nil=>simp[aR.over,Env.bi]at h2
     |cons p r ih=>
      obtain⟨lo,hi⟩:=p
      simp only[aR.over,Env.bi,dN.bi]at h2
      simp only[aR.over,List.cons_append,Env.get]
      cases hb:(Nat.ble lo t&&Nat.blt t hi)with
      |true=>rfl
      |false=>rw[hb]at h2;simp at h2;simpa using ih h2
    rw[this]at hv;cases hv
   |false=>
    rw[Env.get_append h2]at hv
    rw[hsame t h1 h2]
    exact h0.get t v hv
 ·rw[Env.jQ,Bool.or_eq_false_iff,aZ.ju]at ht
  exact hsame t ht.1 ht.2
theorem Ext.within {a a':Act} {σ:aZ} {κ:aR} {ρ ρ':Env} (he:Ext ρ ρ' a a') (hw:within σ κ ρ' (ρ'.length-ρ.length)=true):
  ∀t,σ.has t=false→(κ.over []).bi t=false→a'.tmps[t]?=a.tmps[t]?:=by
 obtain⟨δ,rfl,hk⟩:=he
 have hlen:(δ++ρ).length-ρ.length=δ.length:=by simp
 rw[hlen]at hw
 exact fun t h1 h2=>hk t (eT hw t h1 h2)
theorem Ext.gk {a a':Act} {σ:aZ} {κ:aR} {ρ:Env} {x:σ.den} (he:Ext ρ (σ.bl x (κ.over ρ)) a a'):
  ∀t,σ.has t=false→(κ.over []).bi t=false→a'.tmps[t]?=a.tmps[t]?:=by
 obtain⟨δ,hδ,hk⟩:=he
 rw[aZ.ny,aR.qL,←List.append_assoc]at hδ
 have:=List.append_cancel_right hδ
 subst this
 exact fun t h1 h2=>hk t (by rw[Env.jQ,aZ.ju,h1,h2];rfl)
end Go.Vc
namespace Go.Vc
open Go
inductive lp where
 |int (k:IntKind)|bool|str|flt|cpx|mp|fn|other
 |slice (e:TypeId)|array (n:Nat) (e:TypeId)|struct (fs:List (Nat×TypeId))|ptr (e:TypeId)
def cq:Option TypeDesc→lp
 |some (.int k)=>.int k
 |some .bool=>.bool
 |some .string=>.str
 |some (.float _)=>.flt
 |some (.complex _)=>.cpx
 |some (.map ..)=>.mp
 |some (.func ..)=>.fn
 |some (.slice e)=>.slice e
 |some (.array n e)=>.array n e
 |some (.struct fs)=>.struct (fs.toList.map fun f=>(f.offset,f.type))
 |some (.pointer e)=>.ptr e
 |_=>.other
structure TI where
 aQ:lp
 ty:Ty
 size:Nat
 bytes:Nat
 zero:List Value
abbrev cR:=List TI
def cR.seen (P:Program) (t:TypeId):lp×Option (Nat×Nat×Option (List Value)):=
 (cq (P.underlying t),(P.info? t).map fun i=>(i.size,i.bytes,i.zero.map (·.cells.toList)))
def cR.told (i:TI):lp×Option (Nat×Nat×Option (List Value)):=(i.aQ,some (i.size,i.bytes,some i.zero))
def cR.get:cR→Nat→Option TI
 |[],_=>none
 |i::_,0=>some i
 |_::r,t+1=>cR.get r t
structure kh where
 P:Program
 T:cR
structure kh.Ok (C:kh):Prop where
 xk:(List.range C.T.length).map (cR.seen C.P)=C.T.map cR.told
 mixed:C.P.follows .mixedOrders=true
theorem cR.get_eq:∀(T:cR) (t:Nat),T.get t=T[t]?
 |[],_=>rfl
 |_::_,0=>rfl
 |_::r,t+1=>by simp[cR.get,cR.get_eq r t]
theorem kh.Ok.at {C:kh} (h:C.Ok) {t:Nat} {i:TI} (hi:C.T.get t=some i):cR.seen C.P t=cR.told i:=by
 rw[cR.get_eq]at hi
 have hlt:t<C.T.length:=(List.getElem?_eq_some_iff.1 hi).1
 have:=congrArg (·[t]?) h.xk
 simp[hlt]at this
 rw[this,(List.getElem?_eq_some_iff.1 hi).2]
def Br (b:Bool) (A B:Prop):Prop:=match b with
 |true=>A
 |false=>B
inductive PV:Type 1 where
 |no
 |val (v:Value)
 |cond (c:Prop) (v:Value)
 |ex (X:Type) (c:X→Prop) (v:X→Value)
 |br (b:Bool) (x y:Value)
def PV.holds (p:PV) (K:Value→Prop):Prop:=match p with
 | .no=>False
 | .val v=>K v
 | .cond c v=>c∧K v
 | .ex _ c v=>∃x,c x∧K (v x)
 | .br b x y=>Br b (K x) (K y)
def gK (P:Program) (s:Sem Next) (v:Value):Prop:=∀w,s.run P w=.ok (.value v) w
def ao {α:Type} (P:Program) (s:Sem α) (v:α):Prop:=∀w,s.run P w=.ok v w
def fF (P:Program) (op:BinOp) (t:TypeId) (x y:Operand) (a b r:Value):Prop:=ao P (do eqGuard op t x y a b;binOp op t a b) r
def wT:Operand→Bool
 | .tmp _=>true
 |_=>false
def wg (P:Program) (t:TypeId) (x y:Operand) (d:Option lp) (op:BinOp):Value→Value→PV
 | .int k a,.int k' b=>
  match op with
  | .shl=>.cond (0≤b) (.int k (k.wrap (a*2^min b.toNat k.bits)))
  | .shr=>.cond (0≤b) (.int k (a.fdiv (2^min b.toNat k.bits)))
  |_=>bif kg k k' then
   match op with
   | .add=>.val (.int k (k.wrap (a+b)))
   | .sub=>.val (.int k (k.wrap (a-b)))
   | .mul=>.val (.int k (k.wrap (a*b)))
   | .quo=>.cond (b≠0) (.int k (k.wrap (a.tdiv b)))
   | .rem=>.cond (b≠0) (.int k (a.tmod b))
   | .and=>.val (.int k (k.wrap (BitVec.ofInt k.bits a&&&BitVec.ofInt k.bits b).toNat))
   | .or=>.val (.int k (k.wrap (BitVec.ofInt k.bits a|||BitVec.ofInt k.bits b).toNat))
   | .xor=>.val (.int k (k.wrap (BitVec.ofInt k.bits a^^^BitVec.ofInt k.bits b).toNat))
   | .andNot=>.val (.int k (k.wrap (BitVec.ofInt k.bits a&&&~~~BitVec.ofInt k.bits b).toNat))
   | .eql=>.val (.bool (a==b))
   | .neq=>.val (.bool (a !=b))
   | .lss=>.val (.bool (decide (a<b)))
   | .leq=>.val (.bool (decide (a≤b)))
   | .gtr=>.val (.bool (decide (a>b)))
   | .geq=>.val (.bool (decide (a≥b)))
   |_=>.no
  else .no
 | .float k a,.float k' b=>bif lN k k' then
   match op with
   | .add=>.ex Nat (fun r=>k.format.add a b=some r) (fun r=>.float k r)
   | .sub=>.ex Nat (fun r=>k.format.sub a b=some r) (fun r=>.float k r)
   | .mul=>.ex Nat (fun r=>k.format.mul a b=some r) (fun r=>.float k r)
   | .quo=>.ex Nat (fun r=>k.format.div a b=some r) (fun r=>.float k r)
   | .eql=>.val (.bool (k.format.order a b==some .eq))
   | .neq=>.val (.bool (k.format.order a b !=some .eq))
   | .lss=>.val (.bool (k.format.order a b==some .lt))
   | .gtr=>.val (.bool (k.format.order a b==some .gt))
   |_=>.no
  else .no
 | .string a,.string b=>
  match op with
  | .eql=>.val (.bool (a.toList==b.toList))
  | .neq=>.val (.bool (!(a.toList==b.toList)))
  | .lss=>.val (.bool (Op.bytesLess a.toList b.toList))
  | .leq=>.val (.bool (Op.bytesLess a.toList b.toList||a.toList==b.toList))
  | .gtr=>.val (.bool (!(Op.bytesLess a.toList b.toList||a.toList==b.toList)))
  | .geq=>.val (.bool (!(Op.bytesLess a.toList b.toList)))
  | .add=>.cond (((a.size+b.size:Nat):Int)≤IntKind.i64.max) (.string (a++b))
  |_=>.no
 | .bool a,.bool b=>
  match d with
  |some .bool=>match op with
   | .eql=>.val (.bool (a==b))
   | .neq=>.val (.bool (!(a==b)))
   |_=>.no
  |_=>.no
 | .pointer a,.pointer b=>bif wT y then .ex Bool (fun r=>fF P op t x y (.pointer a) (.pointer b) (.bool r)) (fun r=>.bool r)else
  match b with
  |none=>match d with
   |some (.ptr _)=>match op with
    | .eql=>.val (.bool a.isNone)
    | .neq=>.val (.bool (!a.isNone))
    |_=>.no
   |_=>.no
  |some _=>.no
 | .slice a _ _,.slice none _ _=>
  match d with
  |some (.slice _)=>match op with
   | .eql=>.val (.bool a.isNone)
   | .neq=>.val (.bool (!a.isNone))
   |_=>.no
  |_=>.no
 | .agg a,.agg b=>.ex Bool (fun r=>fF P op t x y (.agg a) (.agg b) (.bool r)) (fun r=>.bool r)
 | .complex k a b,.complex k' c e=>
  match op with
  | .eql| .neq=>.ex Bool (fun r=>fF P op t x y (.complex k a b) (.complex k' c e) (.bool r)) (fun r=>.bool r)
  |_=>.ex (Nat×Nat) (fun r=>fF P op t x y (.complex k a b) (.complex k' c e) (.complex k r.1 r.2)) (fun r=>.complex k r.1 r.2)
 |_,_=>.no
def wh (P:Program) (t:TypeId) (x y:Operand) (d:Option lp) (op:BinOp) (a:Value):Value→PV
 | .nilIface=>.ex Bool (fun r=>fF P op t x y a .nilIface (.bool r)) (fun r=>.bool r)
 |b=>wg P t x y d op a b
def zA (op:UnOp):Value→PV
 | .bool b=>match op with
  | .not=>.val (.bool !b)
  |_=>.no
 | .int k n=>match op with
  | .neg=>.val (.int k (k.wrap (0-n)))
  | .xor=>.val (.int k (k.wrap (BitVec.ofInt k.bits (if k.signed then-1 else k.max)^^^BitVec.ofInt k.bits n).toNat))
  |_=>.no
 |_=>.no
def gf (ev:Operand→Option Value):List Operand→Option (List Value)
 |[]=>some []
 |x::r=>match ev x with
  |some v=>match gf ev r with
   |some vs=>some (v::vs)
   |none=>none
  |none=>none
def lP (ev:Operand→Option Value):List (Nat×Operand)→Option (List (Nat×Value))
 |[]=>some []
 |(n,x)::r=>match ev x with
  |some v=>match lP ev r with
   |some vs=>some ((n,v)::vs)
   |none=>none
  |none=>none
def placesOf (T:cR):List (Nat×TypeId)→Option (List (Nat×Nat))
 |[]=>some []
 |(off,t)::r=>match T.get t with
  |some j=>match placesOf T r with
   |some ps=>some ((off,j.size)::ps)
   |none=>none
  |none=>none
def oa (ev:Operand→Option Value):Option Operand→Option (Option Int)
 |none=>some none
 |some x=>match ev x with
  |some (.int _ n)=>some (some n)
  |_=>none
def yc (d:Option lp):Value→PV
 | .slice _ n _=>match d with
  |some (.slice _)=>.val (.int .i64 n)
  |_=>.no
 | .string s=>match d with
  |some .str=>.val (.int .i64 s.size)
  |_=>.no
 |_=>.no
def yd (d:Option lp):Value→PV
 | .slice _ _ n=>match d with
  |some (.slice _)=>.val (.int .i64 n)
  |_=>.no
 |_=>.no
def wU (d:Option lp):Value→PV
 | .int _ n=>match d with
  |some (.int k)=>.val (.int k (k.wrap n))
  |_=>.no
 |_=>.no
def ki (P:Program) (T:cR) (op:Op) (ev:Operand→Option Value):PV:=
 match op with
 | .move x| .assign x=>match ev x with
  |some v=>.val v
  |none=>.no
 | .pick c a b=>match ev c,ev a,ev b with
  |some (.bool t),some x,some y=>.br t x y
  |_,_,_=>.no
 | .nilCheck x=>match ev x with
  |some (.pointer p)=>.ex Addr (fun a=>p=some a) (fun a=>.pointer (some a))
  |_=>.no
 | .fieldAddr s x f=>match ev x with
  |some (.pointer (some a))=>match T.get s with
   |some i=>match i.aQ with
    | .struct fs=>match fs[f]? with
     |some (off,t)=>match T.get t with
      |some j=>bif Nat.beq j.size 0 then .no else .val (.pointer (some (a.add off)))
      |none=>.no
     |none=>.no
    |_=>.no
   |none=>.no
  |_=>.no
 | .indexAddr t x ix=>match ev ix with
  |some (.int _ n)=>match ev x with
   |some (.slice p len _)=>match T.get t with
    |some i=>match i.aQ with
     | .slice e=>match T.get e with
      |some j=>.ex Addr (fun a=>p=some a∧0≤n∧n<(len:Int)) (fun a=>.pointer (some (a.add (n.toNat*j.size))))
      |none=>.no
     |_=>.no
    |none=>.no
   |some (.pointer (some a))=>match T.get t with
    |some i=>match i.aQ with
     | .array m e=>match T.get e with
      |some j=>.cond (0≤n∧n<(m:Int)) (.pointer (some (a.add (n.toNat*j.size))))
      |none=>.no
     |_=>.no
    |none=>.no
   |_=>.no
  |_=>.no
 | .index t x ix=>match ev ix with
  |some (.int _ n)=>match ev x with
   |some (.string s)=>match T.get t with
    |some i=>match i.aQ with
     | .str=>.ex UInt8 (fun b=>0≤n∧s.data[n.toNat]?=some b) (fun b=>.int .u8 b.toNat)
     |_=>.no
    |none=>.no
   |some (.agg cs)=>match T.get t with
    |some i=>match i.aQ with
     | .array m e=>match T.get e with
      |some j=>match j.ty with
       | .sc s=>match j.aQ with
        | .struct _=>.no
        | .array _ _=>.no
        | .other=>.no
        |_=>bif Nat.beq j.size 1 then .ex s.den (fun y=>0≤n∧n<(m:Int)∧cs[n.toNat]?=some (s.enc y)) (fun y=>s.enc y)else .no
       |_=>.no
      |none=>.no
     |_=>.no
    |none=>.no
   |_=>.no
  |_=>.no
 | .field s x f=>match ev x with
  |some (.agg ⟨cs⟩)=>match T.get s with
   |some i=>match i.aQ with
    | .struct fs=>match fs[f]? with
     |some (off,t)=>match T.get t with
      |some j=>match j.aQ with
       | .struct _=>.val (.agg ((cs.drop off).take j.size).toArray)
       | .array _ _=>.val (.agg ((cs.drop off).take j.size).toArray)
       | .other=>.no
       |_=>match cs[off]? with
        |some v=>.val v
        |none=>.no
      |none=>.no
     |none=>.no
    |_=>.no
   |none=>.no
  |_=>.no
 | .slice t x lo hi mx=>match mx with
  |some _=>.no
  |none=>match oa ev lo,oa ev hi with
   |some l,some r=>match ev x with
    |some (.slice p len cap)=>match T.get t with
     |some i=>match i.aQ with
      | .slice e=>match T.get e with
       |some j=>match l,r with
        |none,none=>.val (.slice p len cap)
        |none,some r=>.cond (0≤r∧r≤(cap:Int)) (.slice p r.toNat cap)
        |some l,none=>.cond (0≤l∧l≤(len:Int)) (.slice (if cap=l.toNat then p else p.map (·.add (l.toNat*j.size))) (len-l.toNat) (cap-l.toNat))
        |some l,some r=>.cond (0≤l∧l≤r∧r≤(cap:Int)) (.slice (if cap=l.toNat then p else p.map (·.add (l.toNat*j.size))) (r.toNat-l.toNat) (cap-l.toNat))
       |none=>.no
      |_=>.no
     |none=>.no
    |some (.string s)=>match T.get t with
     |some i=>match i.aQ with
      | .str=>match l,r with
       |none,none=>.val (.string (s.extract 0 s.size))
       |none,some r=>.cond (0≤r∧r≤(s.size:Int)) (.string (s.extract 0 r.toNat))
       |some l,none=>.cond (0≤l∧l≤(s.size:Int)) (.string (s.extract l.toNat s.size))
       |some l,some r=>.cond (0≤l∧l≤r∧r≤(s.size:Int)) (.string (s.extract l.toNat r.toNat))
      |_=>.no
     |none=>.no
    |some (.pointer (some a))=>match T.get t with
     |some i=>match i.aQ with
      | .array n e=>match T.get e with
       |some j=>match l,r with
        |none,none=>.val (.slice (some a) n n)
        |none,some r=>.cond (0≤r∧r≤(n:Int)) (.slice (some a) r.toNat n)
        |some l,none=>.cond (0≤l∧l≤(n:Int)) (.slice (some (if n=l.toNat then a else a.add (l.toNat*j.size))) (n-l.toNat) (n-l.toNat))
        |some l,some r=>.cond (0≤l∧l≤r∧r≤(n:Int)) (.slice (some (if n=l.toNat then a else a.add (l.toNat*j.size))) (r.toNat-l.toNat) (n-l.toNat))
       |none=>.no
      |_=>.no
     |none=>.no
    |_=>.no
   |_,_=>.no
 | .extract x n=>match ev x with
  |some (.tuple ⟨vs⟩)=>match vs[n]? with
   |some v=>.val v
   |none=>.no
  |_=>.no
 | .binOp op t x y _=>match ev x,ev y with
  |some a,some b=>wh P t x y ((T.get t).map (·.aQ)) op a b
  |_,_=>.no
 | .unOp op _ x=>match ev x with
  |some v=>zA op v
  |none=>.no
 | .convert src dst x=>match ev x,(T.get src).map TI.aQ with
  |some v,some (lp.int _)=>wU ((T.get dst).map (·.aQ)) v
  |_,_=>.no
 | .build t parts=>match lP ev parts.toList with
  |some vs=>match T.get t with
   |some i=>bif Nat.blt 24 i.size then .ex Value (fun v=>ao P (Instr.build t vs.toArray) v) (fun v=>v)else match i.aQ with
    | .struct fs=>match placesOf T fs with
     |some ps=>match Instr.fill (fun n=>ps[n]?) i.zero.toArray vs with
      |some cells=>.val (.agg cells)
      |none=>.no
     |none=>.no
    | .array _ e=>match T.get e with
     |some j=>match Instr.fill (fun n=>some (n*j.size,j.size)) i.zero.toArray vs with
      |some cells=>.val (.agg cells)
      |none=>.no
     |none=>.no
    |_=>.no
   |none=>.no
  |none=>.no
 | .makeFunc fn first captured=>match gf ev first.toList,gf ev captured.toList with
  |some a,some b=>.val (.func fn a.toArray b.toArray)
  |_,_=>.no
 | .call c=>match c.callee with
  | .builtin b=>match b with
   | .len=>match c.argTypes.toList,c.args.toList with
    |t::_,[x]=>match ev x with
     |some v=>yc ((T.get t).map (·.aQ)) v
     |none=>.no
    |_,_=>.no
   | .cap=>match c.argTypes.toList,c.args.toList with
    |t::_,[x]=>match ev x with
     |some v=>yd ((T.get t).map (·.aQ)) v
     |none=>.no
    |_,_=>.no
   | .min=>match gf ev c.args.toList with
    |some [.int k a,.int _ b]=>.val (.int k (if b<a then b else a))
    |_=>.no
   | .max=>match gf ev c.args.toList with
    |some [.int k a,.int _ b]=>.val (.int k (if b>a then b else a))
    |_=>.no
   | .real=>match gf ev c.args.toList with
    |some [.complex k a _]=>.val (.float k a)
    |_=>.no
   | .imag=>match gf ev c.args.toList with
    |some [.complex k _ b]=>.val (.float k b)
    |_=>.no
   |_=>.no
  |_=>.no
 |_=>.no
theorem ao.next {P:Program} {s:Sem Value} {v:Value} (h:ao P s v):gK P (do pure (.value (←s))) v:=fun w=>by
 rw[Sem.run_bind,h w];rfl
theorem ao.pure {α:Type} {P:Program} {v:α}:ao P (pure v) v:=fun _=>rfl
theorem ao.bind {α β:Type} {P:Program} {s:Sem α} {f:α→Sem β} {v:α} {u:β} (h:ao P s v) (k:ao P (f v) u):ao P (s>>=f) u:=fun w=>by
 rw[Sem.run_bind,h w];exact k w
theorem mJ {d:Option TypeDesc} {k:IntKind} (h:cq d=.int k):d=some (.int k):=by
 unfold cq at h;split at h<;>cases h;rfl
theorem wi {d:Option TypeDesc} (h:cq d=.bool):d=some .bool:=by
 unfold cq at h;split at h<;>cases h;rfl
theorem iC {d:Option TypeDesc} (h:cq d=.str):d=some .string:=by
 unfold cq at h;split at h<;>cases h;rfl
theorem cS {d:Option TypeDesc} {e:TypeId} (h:cq d=.slice e):d=some (.slice e):=by
 unfold cq at h;split at h<;>cases h;rfl
theorem gL {d:Option TypeDesc} {n:Nat} {e:TypeId} (h:cq d=.array n e):d=some (.array n e):=by
 unfold cq at h;split at h<;>cases h;rfl
theorem xt {d:Option TypeDesc} {e:TypeId} (h:cq d=.ptr e):d=some (.pointer e):=by
 unfold cq at h;split at h<;>cases h;rfl
theorem fG {d:Option TypeDesc} {fs:List (Nat×TypeId)} (h:cq d=.struct fs):∃gs,d=some (.struct gs)∧fs=gs.toList.map fun f=>(f.offset,f.type):=by
 unfold cq at h;split at h<;>cases h;exact⟨_,rfl,rfl⟩
section
variable {C:kh} {t:TypeId} {i:TI}
theorem kh.Ok.aQ (h:C.Ok) (hi:C.T.get t=some i):cq (C.P.underlying t)=i.aQ:=congrArg Prod.fst (h.at hi)
theorem kh.Ok.info (h:C.Ok) (hi:C.T.get t=some i):∃f,C.P.info? t=some f∧f.size=i.size∧f.bytes=i.bytes∧∃z,f.zero=some z∧z.cells.toList=i.zero:=by
 have:=congrArg Prod.snd (h.at hi)
 simp only[cR.seen,cR.told]at this
 cases hf:C.P.info? t with
 |none=>rw[hf]at this;cases this
 |some f=>
  rw[hf]at this
  simp only[Option.map_some,Option.some.injEq,Prod.mk.injEq]at this
  obtain⟨a,b,c⟩:=this
  cases hz:f.zero with
  |none=>rw[hz]at c;cases c
  |some z=>rw[hz]at c;simp at c;exact⟨f,rfl,a,b,z,hz,by simpa using c⟩
theorem ak {P:Program} {t:TypeId} {d:TypeDesc} (h:P.underlying t=some d):ao P (underlying t) d:=fun w=>by
 simp[underlying,h]
theorem aU {P:Program} {t:TypeId} {d:TypeInfo} (h:P.info? t=some d):ao P (typeInfo t) d:=fun w=>by
 simp[typeInfo,h]
theorem bh (h:C.Ok) (hi:C.T.get t=some i):ao C.P (sizeOf t) i.size:=by
 obtain⟨f,hf,hs,_⟩:=h.info hi
 rw[←hs]
 exact(aU hf).bind .pure
theorem jR (h:C.Ok) (hi:C.T.get t=some i):∃z,ao C.P (zeroValue t) z∧z.cells.toList=i.zero:=by
 obtain⟨f,hf,_,_,z,hz,hc⟩:=h.info hi
 refine⟨z,(aU hf).bind ?_,hc⟩
 rw[hz]
 exact .pure
theorem dp (h:C.Ok) (hi:C.T.get t=some i):(∀fs,i.aQ=.struct fs→ao C.P (isAgg t) true)∧(∀n e,i.aQ=.array n e→ao C.P (isAgg t) true)∧
  ((∀fs,i.aQ≠.struct fs)→(∀n e,i.aQ≠.array n e)→i.aQ≠.other→ao C.P (isAgg t) false):=by
 have hd:=h.aQ hi
 refine⟨fun fs hf=>?_,fun n e hf=>?_,fun h1 h2 h3=>?_⟩
 ·rw[hf]at hd
  obtain⟨gs,hg,_⟩:=fG hd
  exact(ak hg).bind .pure
 ·rw[hf]at hd
  exact(ak (gL hd)).bind .pure
 ·cases hu:C.P.underlying t with
  |none=>rw[hu]at hd;exact absurd hd.symm h3
  |some d=>
   refine(ak hu).bind ?_
   rw[hu]at hd
   cases d<;>first|exact .pure|(exfalso;simp only[cq]at hd;first|exact h1 _ hd.symm|exact h2 _ _ hd.symm)
end
theorem kF {ev:Operand→Option Value} {e:Operand→Value} (he:∀x v,ev x=some v→e x=v):∀{l:List Operand} {vs:List Value},gf ev l=some vs→l.map e=vs:=by
 intro l
 induction l with
 |nil=>intro vs h;cases h;rfl
 |cons x r ih=>
  intro vs h
  simp only[gf]at h
  split at h
  ·rename_i v hv
   split at h
   ·rename_i us hus
    cases h
    simp[he _ _ hv,ih hus]
   ·cases h
  ·cases h
theorem nb {ev:Operand→Option Value} {e:Operand→Value} (he:∀x v,ev x=some v→e x=v):∀{l:List (Nat×Operand)} {vs:List (Nat×Value)},lP ev l=some vs→l.map (fun p=>(p.1,e p.2))=vs:=by
 intro l
 induction l with
 |nil=>intro vs h;cases h;rfl
 |cons x r ih=>
  intro vs h
  obtain⟨n,x⟩:=x
  simp only[lP]at h
  split at h
  ·rename_i v hv
   split at h
   ·rename_i us hus
    cases h
    simp[he _ _ hv,ih hus]
   ·cases h
  ·cases h
end Go.Vc
namespace Go.Vc
open Go
section
variable {P:Program}
theorem kG (t:TypeId) (x y:Value):Op.equal t x y=Op.equalIn (9999+1) t x y:=rfl
theorem xu {t:TypeId} (hu:P.underlying t=some .bool) (d:Nat) (a b:Bool):ao P (Op.equalIn (d+1) t (.bool a) (.bool b)) (a==b):=fun w=>by
 simp[Op.equalIn,underlying,hu]
theorem ye {t e:TypeId} (hu:P.underlying t=some (.pointer e)) (d:Nat) (a:Option Addr):ao P (Op.equalIn (d+1) t (.pointer a) (.pointer none)) a.isNone:=fun w=>by
 cases a<;>simp[Op.equalIn,underlying,hu]
theorem wj {t e:TypeId} (hu:P.underlying t=some (.slice e)) (d:Nat) (a:Option Addr) (l c l' c':Nat):ao P (Op.equalIn (d+1) t (.slice a l c) (.slice none l' c')) a.isNone:=fun w=>by
 cases a<;>simp[Op.equalIn,underlying,hu]
theorem tR {t:TypeId} {d:Option lp} {op:BinOp} {a b:Value} {x y:Operand} {K:Value→Prop} (hd:∀q,d=some q→cq (P.underlying t)=q)
  (h:(wg P t x y d op a b).holds K):∃v,ao P (do eqGuard op t x y a b;binOp op t a b) v∧K v:=by
 have hg:∀{a b:Value},¬(a=.nilIface∧b=.nilIface)→(∀u v,¬(a=.agg u∧b=.agg v))→ao P (eqGuard op t x y a b) ():=by
  intro a b h1 h2 w
  simp only[eqGuard]
  cases op<;>simp only[Bool.not_true,Bool.not_false,Bool.false_eq_true,if_true,if_false]<;>
   first
    |rfl
    |(split<;>first|exact absurd ⟨rfl,rfl⟩ h1|exact absurd ⟨rfl,rfl⟩ (h2 _ _)|rfl)
 unfold wg at h
 split at h
 ·rename_i k a k' b
  have g:=hg (a:=.int k a) (b:=.int k' b) (by simp) (by simp)
  cases op<;>simp only at h
  case shl=>exact⟨_,g.bind fun w=>by simp only[binOp,Op.shift];rw[if_neg (by have:=h.1;omega)];rfl,h.2⟩
  case shr=>exact⟨_,g.bind fun w=>by simp only[binOp,Op.shift];rw[if_neg (by have:=h.1;omega)];rfl,h.2⟩
  all_goals
   cases hk:kg k k' with
   |false=>rw[hk]at h;simp[PV.holds]at h
   |true=>
    rw[hk]at h
    simp only[cond_true,PV.holds]at h
    have e:=na hk
    subst e
    first
     |exact⟨_,g.bind fun w=>by simp[binOp,Op.intArith,Op.intBits,Op.intCmp],h⟩
     |exact⟨_,g.bind fun w=>by simp[binOp,Op.intDiv,h.1],h.2⟩
     |exact h.elim
 ·rename_i k a k' b
  have g:=hg (a:=.float k a) (b:=.float k' b) (by simp) (by simp)
  cases hk:lN k k' with
  |false=>rw[hk]at h;simp[PV.holds]at h
  |true=>
   rw[hk]at h
   have e:=lO hk
   subst e
   cases op<;>simp only[cond_true,PV.holds]at h<;>
    first
     |(obtain⟨r,h1,h2⟩:=h;exact⟨_,g.bind fun w=>by simp[binOp,Op.floatArith,h1],h2⟩)
     |exact⟨_,g.bind fun w=>by simp[binOp,Op.floatCmp],h⟩
     |exact h.elim
 ·rename_i a b
  have g:=hg (a:=.string a) (b:=.string b) (by simp) (by simp)
  cases op<;>simp only[PV.holds]at h<;>
   first
    |exact⟨_,g.bind fun w=>by simp[binOp,Op.stringOp],h⟩
    |exact⟨_,g.bind fun w=>by simp only[binOp,Op.stringOp];rw[if_neg (by have:=h.1;omega)];rfl,h.2⟩
    |exact h.elim
 ·rename_i a b
  have g:=hg (a:=.bool a) (b:=.bool b) (by simp) (by simp)
  split at h
  ·have hu:=wi (hd _ rfl)
   cases op<;>simp only[PV.holds]at h<;>
    first
     |exact⟨_,g.bind (by simp only[binOp,kG];exact(xu hu _ a b).bind .pure),h⟩
     |exact h.elim
  ·exact h.elim
 ·rename_i a b
  cases hy:wT y with
  |true=>
   rw[hy]at h
   obtain⟨r,h1,h2⟩:=h
   exact⟨_,h1,h2⟩
  |false=>
   rw[hy]at h
   cases b with
   |some _=>exact h.elim
   |none=>
    have g:=hg (a:=.pointer a) (b:=.pointer none) (by simp) (by simp)
    simp only[cond_false]at h
    split at h
    ·rename_i e
     have hu:=xt (hd _ rfl)
     cases op<;>simp only[PV.holds]at h<;>
      first
       |exact⟨_,g.bind (by simp only[binOp,kG];exact(ye hu _ a).bind .pure),h⟩
       |exact h.elim
    ·exact h.elim
 ·rename_i a l c l' c'
  have g:=hg (a:=.slice a l c) (b:=.slice none l' c') (by simp) (by simp)
  split at h
  ·rename_i e
   have hu:=cS (hd _ rfl)
   cases op<;>simp only[PV.holds]at h<;>
    first
     |exact⟨_,g.bind (by simp only[binOp,kG];exact(wj hu _ a l c l' c').bind .pure),h⟩
     |exact h.elim
  ·exact h.elim
 ·obtain⟨r,h1,h2⟩:=h
  exact⟨_,h1,h2⟩
 ·split at h
  ·obtain⟨r,h1,h2⟩:=h
   exact⟨_,h1,h2⟩
  ·obtain⟨r,h1,h2⟩:=h
   exact⟨_,h1,h2⟩
  ·obtain⟨r,h1,h2⟩:=h
   exact⟨_,h1,h2⟩
 ·exact h.elim
theorem tT {t:TypeId} {d:Option lp} {op:BinOp} {a b:Value} {x y:Operand} {K:Value→Prop} (hd:∀q,d=some q→cq (P.underlying t)=q)
  (h:(wh P t x y d op a b).holds K):∃v,ao P (do eqGuard op t x y a b;binOp op t a b) v∧K v:=by
 unfold wh at h
 split at h
 ·obtain⟨r,h1,h2⟩:=h
  exact⟨_,h1,h2⟩
 ·exact tR hd h
end
end Go.Vc
namespace Go.Vc
open Go
theorem qO (cs:List Value) (off n:Nat):((cs.drop off).take n).toArray=(cs.toArray).extract off (off+n):=by
 apply Array.ext'
 simp[List.extract_eq_take_drop]
section
variable {C:kh} {ev:Operand→Option Value} {e:Operand→Value}
theorem eU (hC:C.Ok):∀{fs:List Field} {ps:List (Nat×Nat)},placesOf C.T (fs.map fun f=>(f.offset,f.type))=some ps→
  ao C.P (fs.mapM fun f=>(do pure (f.offset,←sizeOf f.type):Sem (Nat×Nat))) ps
 |[],ps,h=>by cases h;exact .pure
 |f::r,ps,h=>by
  simp only[List.map_cons,placesOf]at h
  split at h
  ·rename_i j hj
   split at h
   ·rename_i qs hq
    cases h
    rw[List.mapM_cons]
    exact ao.bind ((bh hC hj).bind .pure) ((eU hC hq).bind .pure)
   ·cases h
  ·cases h
theorem nc (hC:C.Ok) {t:TypeId} {j:TI} (hj:C.T.get t=some j) (h1:∀fs,j.aQ≠.struct fs) (h2:∀n e,j.aQ≠.array n e) (h3:j.aQ≠.other)
  {cs:Array Value} {off:Nat} {v:Value} (hv:cs[off]?=some v):ao C.P (part t cs off) v:=by
 refine((dp hC hj).2.2 h1 h2 h3).bind ?_
 rw[hv]
 exact .pure
theorem qP (hC:C.Ok) {t:TypeId} {j:TI} (hj:C.T.get t=some j) (h:(∃fs,j.aQ=.struct fs)∨∃n e,j.aQ=.array n e)
  {cs:Array Value} {off:Nat}:ao C.P (part t cs off) (.agg (cs.extract off (off+j.size))):=by
 have ha:ao C.P (isAgg t) true:=by
  rcases h with⟨fs,h⟩|⟨n,e,h⟩
  ·exact(dp hC hj).1 fs h
  ·exact(dp hC hj).2.1 n e h
 exact ha.bind ((bh hC hj).bind .pure)
theorem oc (hC:C.Ok) (he:∀x v,ev x=some v→e x=v) {o:Oper} {K:Value→Prop} (h:(ki C.P C.T o.op ev).holds K):
  ∃v,gK C.P (execOp e o) v∧K v:=by
 have hdsc:∀t q,(C.T.get t).map (·.aQ)=some q→cq (C.P.underlying t)=q:=fun t q h=>by
  cases hi:C.T.get t with
  |none=>rw[hi]at h;cases h
  |some i=>rw[hi]at h;cases h;exact hC.aQ hi
 cases hop:o.op<;>rw[hop]at h<;>simp only[ki]at h<;>simp only[execOp,hop]
 case move x=>
  split at h
  ·rename_i v hv;rw[he _ _ hv];exact⟨v,fun _=>rfl,h⟩
  ·exact h.elim
 case assign x=>
  split at h
  ·rename_i v hv;rw[he _ _ hv];exact⟨v,fun _=>rfl,h⟩
  ·exact h.elim
 case pick c a b=>
  split at h
  ·rename_i t x y h1 h2 h3
   rw[he _ _ h1,he _ _ h2,he _ _ h3]
   cases t
   ·exact⟨y,fun _=>rfl,h⟩
   ·exact⟨x,fun _=>rfl,h⟩
  ·exact h.elim
 case nilCheck x=>
  split at h
  ·rename_i p hp
   obtain⟨a,rfl,hk⟩:=h
   rw[he _ _ hp]
   exact⟨_,fun _=>rfl,hk⟩
  ·exact h.elim
 case fieldAddr s x f=>
  split at h
  ·rename_i a ha
   rw[he _ _ ha]
   split at h
   ·rename_i i hi
    split at h
    ·rename_i fs hfs
     split at h
     ·rename_i off t hft
      split at h
      ·rename_i j hj
       cases hz:Nat.beq j.size 0 with
       |true=>rw[hz]at h;exact h.elim
       |false=>
        rw[hz]at h
        have hd:=hC.aQ hi
        rw[hfs]at hd
        obtain⟨gs,hg,rfl⟩:=fG hd
        simp only[List.getElem?_map,Option.map_eq_some_iff]at hft
        obtain⟨g,hgf,hgp⟩:=hft
        cases hgp
        refine⟨_,ao.next ((ak hg).bind ?_),h⟩
        have hgf':gs[f]?=some g:=by simpa using hgf
        simp only[hgf']
        refine ao.bind (v:=a) .pure (ao.bind (v:=a.add g.offset) ?_ .pure)
        unfold fieldPlace
        refine(bh hC hj).bind ?_
        have:j.size≠0:=fun e=>by rw[e]at hz;cases hz
        rw[if_neg this]
        exact .pure
      ·exact h.elim
     ·exact h.elim
    ·exact h.elim
   ·exact h.elim
  ·exact h.elim
 case indexAddr t x ix=>
  split at h
  ·rename_i k n hn
   rw[he _ _ hn]
   split at h
   ·rename_i p len cap hx
    rw[he _ _ hx]
    split at h
    ·rename_i i hi
     split at h
     ·rename_i el hel
      split at h
      ·rename_i j hj
       obtain⟨a,⟨rfl,h0,h1⟩,hk⟩:=h
       have hd:=hC.aQ hi
       rw[hel]at hd
       have hu:=cS hd
       refine⟨_,ao.next ?_,hk⟩
       unfold Instr.indexAt
       refine ao.bind (v:=(k,n)) .pure ?_
       refine(ak hu).bind ?_
       refine ao.bind (v:=(some a,len,el)) .pure ?_
       intro w
       have:=bh hC hj w
       simp only[Sem.run_bind,ak hu w,Result.andThen_ok]
       cases hl:decide (len≤1)<;>simp[h0,h1,this]
      ·exact h.elim
     ·exact h.elim
    ·exact h.elim
   ·rename_i a hx
    rw[he _ _ hx]
    split at h
    ·rename_i i hi
     split at h
     ·rename_i m el hel
      split at h
      ·rename_i j hj
       obtain⟨⟨h0,h1⟩,hk⟩:=h
       have hd:=hC.aQ hi
       rw[hel]at hd
       have hu:=gL hd
       refine⟨_,ao.next ?_,hk⟩
       unfold Instr.indexAt
       refine ao.bind (v:=(k,n)) .pure ?_
       refine(ak hu).bind ?_
       refine ao.bind (v:=(some a,m,el)) .pure ?_
       intro w
       have:=bh hC hj w
       simp only[Sem.run_bind,ak hu w,Result.andThen_ok]
       cases hl:decide (m≤1)<;>simp[h0,h1,this]
      ·exact h.elim
     ·exact h.elim
    ·exact h.elim
   ·exact h.elim
  ·exact h.elim
 case index t x ix=>
  split at h
  ·rename_i k n hn
   rw[he _ _ hn]
   split at h
   ·rename_i s hx
    rw[he _ _ hx]
    split at h
    ·rename_i i hi
     split at h
     ·rename_i hel
      obtain⟨b,⟨h0,h1⟩,hk⟩:=h
      have hd:=hC.aQ hi
      rw[hel]at hd
      have hu:=iC hd
      refine⟨_,ao.next ?_,hk⟩
      unfold Instr.index
      refine ao.bind (v:=(k,n)) .pure ?_
      refine(ak hu).bind ?_
      have hb:s[n.toNat]?=some b:=by
       rw[Array.getElem?_eq_some_iff]at h1
       obtain⟨hlt,hg⟩:=h1
       have hlt':n.toNat<s.size:=hlt
       rw[getElem?_pos s n.toNat hlt']
       exact congrArg some hg
      simp only[h0,if_true,hb]
      exact .pure
     ·exact h.elim
    ·exact h.elim
   ·rename_i cs hx
    rw[he _ _ hx]
    split at h
    ·rename_i i hi
     split at h
     ·rename_i m el hel
      split at h
      ·rename_i j hj
       split at h
       ·rename_i s hs
        have hd:=hC.aQ hi
        rw[hel]at hd
        have hu:=gL hd
        have key:(∃y,(0≤n∧n<(m:Int)∧cs[n.toNat]?=some (s.enc y))∧K (s.enc y))→(∀fs,j.aQ≠.struct fs)→(∀n e,j.aQ≠.array n e)→j.aQ≠.other→j.size=1→
          ∃v,gK C.P (do pure (.value (←Instr.index t (.agg cs) (.int k n)))) v∧K v:=by
         rintro⟨y,⟨h0,h1,h2⟩,hk⟩ d1 d2 d3 hsz
         refine⟨_,ao.next ?_,hk⟩
         unfold Instr.index
         refine ao.bind (v:=(k,n)) .pure ?_
         refine(ak hu).bind ?_
         simp only[h0,h1,and_self,if_true]
         refine(bh hC hj).bind ?_
         rw[hsz,Nat.mul_one]
         exact nc hC hj d1 d2 d3 h2
        split at h
        ·exact h.elim
        ·exact h.elim
        ·exact h.elim
        ·rename_i d1 d2 d3
         cases hz:Nat.beq j.size 1 with
         |false=>rw[hz]at h;exact h.elim
         |true=>
          rw[hz]at h
          exact key h d1 d2 d3 (Nat.eq_of_beq_eq_true hz)
       ·exact h.elim
      ·exact h.elim
     ·exact h.elim
    ·exact h.elim
   ·exact h.elim
  ·exact h.elim
 case field s x f=>
  split at h
  ·rename_i cs hx
   rw[he _ _ hx]
   split at h
   ·rename_i i hi
    split at h
    ·rename_i fs hfs
     split at h
     ·rename_i off t hft
      split at h
      ·rename_i j hj
       have hd:=hC.aQ hi
       rw[hfs]at hd
       obtain⟨gs,hg,rfl⟩:=fG hd
       simp only[List.getElem?_map,Option.map_eq_some_iff]at hft
       obtain⟨g,hgf,hgp⟩:=hft
       cases hgp
       have hgf':gs[f]?=some g:=by simpa using hgf
       have key:∀v,ao C.P (part g.type ⟨cs⟩ g.offset) v→K v→∃v,gK C.P (do pure (.value (←Instr.field s (.agg ⟨cs⟩) f))) v∧K v:=by
        intro v hv hk
        refine⟨v,ao.next ((ak hg).bind ?_),hk⟩
        simp only[hgf']
        exact ao.bind (v:=(⟨cs⟩:Array Value)) .pure hv
       split at h
       ·rename_i fs' hd'
        refine key _ (qP hC hj (.inl ⟨_,hd'⟩)) ?_
        rw[←qO];exact h
       ·rename_i n' e' hd'
        refine key _ (qP hC hj (.inr ⟨_,_,hd'⟩)) ?_
        rw[←qO];exact h
       ·exact h.elim
       ·rename_i d1 d2 d3
        split at h
        ·rename_i v hv
         exact key v (nc hC hj d1 d2 d3 (by simpa using hv)) h
        ·exact h.elim
      ·exact h.elim
     ·exact h.elim
    ·exact h.elim
   ·exact h.elim
  ·exact h.elim
 case slice t x lo hi0 mx=>
  split at h
  ·exact h.elim
  ·split at h
   ·rename_i l r hl hr
    have hlo:(lo=none∧l=none)∨∃y k m,lo=some y∧e y=.int k m∧l=some m:=by
     cases lo with
     |none=>cases hl;exact .inl ⟨rfl,rfl⟩
     |some y=>
      simp only[oa]at hl
      split at hl
      ·rename_i k m hm;cases hl;exact .inr ⟨y,k,m,rfl,he _ _ hm,rfl⟩
      ·cases hl
    have hhi:(hi0=none∧r=none)∨∃y k m,hi0=some y∧e y=.int k m∧r=some m:=by
     cases hi0 with
     |none=>cases hr;exact .inl ⟨rfl,rfl⟩
     |some y=>
      simp only[oa]at hr
      split at hr
      ·rename_i k m hm;cases hr;exact .inr ⟨y,k,m,rfl,he _ _ hm,rfl⟩
      ·cases hr
    have bnd:∀(bb:Bool) (len cap:Nat) (lo hi:Option Value) (a b:Nat),(lo=none→a=0)→(∀v,lo=some v→∃k m,v=.int k m∧0≤m∧a=m.toNat∧m≤(b:Int))→
      (hi=none→b=len)→(∀v,hi=some v→∃k m,v=.int k m∧0≤m∧b=m.toNat∧m≤(cap:Int))→
      ao C.P (Instr.sliceBounds bb len cap lo hi none) (a,b,cap):=by
     intro bb len cap lo hi a b h1 h2 h3 h4 w
     cases hi with
     |none=>
      have e1:=h3 rfl
      subst e1
      cases lo with
      |none=>rw[h1 rfl];simp[Instr.sliceBounds]
      |some v=>
       obtain⟨k,m,rfl,x1,rfl,x2⟩:=h2 v rfl
       simp[Instr.sliceBounds,Instr.sliceBound,asIntOf,x1,x2]
     |some u=>
      obtain⟨k',m',rfl,y1,rfl,y2⟩:=h4 u rfl
      cases lo with
      |none=>rw[h1 rfl];simp[Instr.sliceBounds,Instr.sliceBound,asIntOf,y1,y2]
      |some v=>
       obtain⟨k,m,rfl,x1,rfl,x2⟩:=h2 v rfl
       have x3:¬max m' 0<m:=by omega
       simp[Instr.sliceBounds,Instr.sliceBound,asIntOf,x1,y1,y2,x3]
    split at h
    ·rename_i p len cap hx
     rw[he _ _ hx]
     split at h
     ·rename_i i hi
      split at h
      ·rename_i el hel
       split at h
       ·rename_i j hj
        have hd:=hC.aQ hi
        rw[hel]at hd
        have hu:=cS hd
        have fin:∀(a b:Nat) (v:Value),ao C.P (Instr.sliceBounds true len cap (lo.map e) (hi0.map e) none) (a,b,cap)→
          v=.slice (if cap=a then p else p.map (·.add (a*j.size))) (b-a) (cap-a)→K v→
          ∃v,gK C.P (do pure (.value (←Instr.sliceAt t (.slice p len cap) (lo.map e) (hi0.map e) (Option.map e none)))) v∧K v:=by
         intro a b v hb hv hk
         refine⟨v,ao.next ?_,hk⟩
         unfold Instr.sliceAt
         refine(ak hu).bind ?_
         simp only[Instr.slice,Option.map_none]
         refine(ak hu).bind ?_
         refine hb.bind ?_
         subst hv
         exact(bh hC hj).bind .pure
        have hp0:(if cap=0 then p else p.map (·.add (0*j.size)))=p:=by
         cases p<;>simp[Addr.add]
        rcases hlo with⟨rfl,rfl⟩|⟨y,k,m,rfl,hy,rfl⟩<;>rcases hhi with⟨rfl,rfl⟩|⟨y',k',m',rfl,hy',rfl⟩
        ·exact fin 0 len _ (bnd _ _ _ _ _ _ _ (fun _=>rfl) (by simp) (fun _=>rfl) (by simp)) (by rw[hp0];rfl) h
        ·obtain⟨⟨a1,a2⟩,hk⟩:=h
         exact fin 0 m'.toNat _ (bnd _ _ _ _ _ _ _ (fun _=>rfl) (by simp) (by simp) (fun v hv=>by cases hv;exact⟨k',m',hy',a1,rfl,a2⟩)) (by rw[hp0];rfl) hk
        ·obtain⟨⟨a1,a2⟩,hk⟩:=h
         exact fin m.toNat len _ (bnd _ _ _ _ _ _ _ (by simp) (fun v hv=>by cases hv;exact⟨k,m,hy,a1,rfl,a2⟩) (fun _=>rfl) (by simp)) rfl hk
        ·obtain⟨⟨a1,a2,a3⟩,hk⟩:=h
         exact fin m.toNat m'.toNat _ (bnd _ _ _ _ _ _ _ (by simp) (fun v hv=>by cases hv;exact⟨k,m,hy,a1,rfl,by omega⟩) (by simp) (fun v hv=>by cases hv;exact⟨k',m',hy',by omega,rfl,a3⟩)) rfl hk
       ·exact h.elim
      ·exact h.elim
     ·exact h.elim
    ·rename_i s hx
     rw[he _ _ hx]
     split at h
     ·rename_i i hi
      split at h
      ·rename_i hel
       have hd:=hC.aQ hi
       rw[hel]at hd
       have hu:=iC hd
       have fin:∀(a b:Nat) (v:Value),ao C.P (Instr.sliceBounds false s.size s.size (lo.map e) (hi0.map e) none) (a,b,s.size)→
         v=.string (s.extract a b)→K v→
         ∃v,gK C.P (do pure (.value (←Instr.sliceAt t (.string s) (lo.map e) (hi0.map e) (Option.map e none)))) v∧K v:=by
        intro a b v hb hv hk
        refine⟨v,ao.next ?_,hk⟩
        unfold Instr.sliceAt
        refine(ak hu).bind ?_
        simp only[Instr.slice,Option.map_none]
        refine(ak hu).bind ?_
        subst hv
        intro w
        simp[hb w]
       rcases hlo with⟨rfl,rfl⟩|⟨y,k,m,rfl,hy,rfl⟩<;>rcases hhi with⟨rfl,rfl⟩|⟨y',k',m',rfl,hy',rfl⟩
       ·exact fin 0 s.size _ (bnd _ _ _ _ _ _ _ (fun _=>rfl) (by simp) (fun _=>rfl) (by simp)) rfl h
       ·obtain⟨⟨a1,a2⟩,hk⟩:=h
        exact fin 0 m'.toNat _ (bnd _ _ _ _ _ _ _ (fun _=>rfl) (by simp) (by simp) (fun v hv=>by cases hv;exact⟨k',m',hy',a1,rfl,a2⟩)) rfl hk
       ·obtain⟨⟨a1,a2⟩,hk⟩:=h
        exact fin m.toNat s.size _ (bnd _ _ _ _ _ _ _ (by simp) (fun v hv=>by cases hv;exact⟨k,m,hy,a1,rfl,a2⟩) (fun _=>rfl) (by simp)) rfl hk
       ·obtain⟨⟨a1,a2,a3⟩,hk⟩:=h
        exact fin m.toNat m'.toNat _ (bnd _ _ _ _ _ _ _ (by simp) (fun v hv=>by cases hv;exact⟨k,m,hy,a1,rfl,by omega⟩) (by simp) (fun v hv=>by cases hv;exact⟨k',m',hy',by omega,rfl,a3⟩)) rfl hk
      ·exact h.elim
     ·exact h.elim
    ·rename_i a hx
     rw[he _ _ hx]
     split at h
     ·rename_i i hi
      split at h
      ·rename_i n el hel
       split at h
       ·rename_i j hj
        have hd:=hC.aQ hi
        rw[hel]at hd
        have hu:=gL hd
        have fin:∀(a' b:Nat) (v:Value),ao C.P (Instr.sliceBounds false n n (lo.map e) (hi0.map e) none) (a',b,n)→
          v=.slice (some (if n=a' then a else a.add (a'*j.size))) (b-a') (n-a')→K v→
          ∃v,gK C.P (do pure (.value (←Instr.sliceAt t (.pointer (some a)) (lo.map e) (hi0.map e) (Option.map e none)))) v∧K v:=by
         intro a' b v hb hv hk
         refine⟨v,ao.next ?_,hk⟩
         unfold Instr.sliceAt
         refine(ak hu).bind ?_
         simp only[Option.map_none]
         refine ao.bind (v:=a) .pure ?_
         refine hb.bind ?_
         subst hv
         exact(bh hC hj).bind .pure
        have hp0:(if n=0 then a else a.add (0*j.size))=a:=by simp[Addr.add]
        rcases hlo with⟨rfl,rfl⟩|⟨y,k,m,rfl,hy,rfl⟩<;>rcases hhi with⟨rfl,rfl⟩|⟨y',k',m',rfl,hy',rfl⟩
        ·exact fin 0 n _ (bnd _ _ _ _ _ _ _ (fun _=>rfl) (by simp) (fun _=>rfl) (by simp)) (by rw[hp0];rfl) h
        ·obtain⟨⟨a1,a2⟩,hk⟩:=h
         exact fin 0 m'.toNat _ (bnd _ _ _ _ _ _ _ (fun _=>rfl) (by simp) (by simp) (fun v hv=>by cases hv;exact⟨k',m',hy',a1,rfl,a2⟩)) (by rw[hp0];rfl) hk
        ·obtain⟨⟨a1,a2⟩,hk⟩:=h
         exact fin m.toNat n _ (bnd _ _ _ _ _ _ _ (by simp) (fun v hv=>by cases hv;exact⟨k,m,hy,a1,rfl,a2⟩) (fun _=>rfl) (by simp)) rfl hk
        ·obtain⟨⟨a1,a2,a3⟩,hk⟩:=h
         exact fin m.toNat m'.toNat _ (bnd _ _ _ _ _ _ _ (by simp) (fun v hv=>by cases hv;exact⟨k,m,hy,a1,rfl,by omega⟩) (by simp) (fun v hv=>by cases hv;exact⟨k',m',hy',by omega,rfl,a3⟩)) rfl hk
       ·exact h.elim
      ·exact h.elim
     ·exact h.elim
    ·exact h.elim
   ·exact h.elim
 case extract x n=>
  split at h
  ·rename_i vs hx
   rw[he _ _ hx]
   split at h
   ·rename_i v hv
    refine⟨v,ao.next ?_,h⟩
    have:(⟨vs⟩:Array Value)[n]?=some v:=by simpa using hv
    simp only[Instr.extract,this]
    exact .pure
   ·exact h.elim
  ·exact h.elim
 case binOp op t x y u=>
  split at h
  ·rename_i a b ha hb
   rw[he _ _ ha,he _ _ hb]
   obtain⟨v,hv,hk⟩:=tT (P:=C.P) (x:=x) (y:=y) (hdsc t) h
   exact⟨v,hv.next,hk⟩
  ·exact h.elim
 case unOp op t x=>
  split at h
  ·rename_i v hv
   rw[he _ _ hv]
   unfold zA at h
   split at h
   ·split at h
    ·exact⟨_,ao.next .pure,h⟩
    ·exact h.elim
   ·split at h
    ·exact⟨_,ao.next .pure,h⟩
    ·exact⟨_,ao.next .pure,h⟩
    ·exact h.elim
   ·exact h.elim
  ·exact h.elim
 case convert s d x=>
  split at h
  ·rename_i v ks hv hks
   rw[he _ _ hv]
   have hs:=mJ (hdsc _ _ hks)
   unfold wU at h
   split at h
   ·split at h
    ·rename_i n _ k hk
     have hu:=mJ (hdsc _ _ hk)
     refine⟨_,ao.next ?_,h⟩
     unfold convert
     refine(ak hs).bind ((ak hu).bind ?_)
     exact .pure
    ·exact h.elim
   ·exact h.elim
  ·exact h.elim
 case build t parts=>
  split at h
  ·rename_i vs hvs
   have hp:(parts.map fun(i,x)=>(i,e x)).toList=vs:=by
    have:=nb he hvs
    simpa using this
   split at h
   ·rename_i i hi
    obtain⟨z,hz,hzc⟩:=jR hC hi
    have hzc':i.zero.toArray=z.cells:=by rw[←hzc]
    cases hbig:Nat.blt 24 i.size with
    |true=>
     rw[hbig]at h
     obtain⟨v,hv,hk⟩:=h
     have hpa:(parts.map fun(i,x)=>(i,e x))=vs.toArray:=by rw[←hp]
     refine⟨v,ao.next ?_,hk⟩
     show ao C.P (Instr.build t (parts.map fun(i,x)=>(i,e x))) v
     rw[hpa];exact hv
    |false=>
    rw[hbig]at h
    simp only[cond_false]at h
    split at h
    ·rename_i fs hfs
     have hd:=hC.aQ hi
     rw[hfs]at hd
     obtain⟨gs,hg,rfl⟩:=fG hd
     split at h
     ·rename_i ps hps
      split at h
      ·rename_i cells hcells
       refine⟨_,ao.next (hz.bind ((ak hg).bind ?_)),h⟩
       have hpl:ao C.P (gs.mapM fun f=>(do pure (f.offset,←sizeOf f.type):Sem (Nat×Nat))) ps.toArray:=by
        rw[Array.mapM_eq_mapM_toList]
        intro w
        have:=eU hC hps w
        rw[map_eq_pure_bind,Sem.run_bind,this]
        rfl
       refine hpl.bind ?_
       have hcc:Instr.fill (fun n=>ps.toArray[n]?) z.cells (parts.map fun(i,x)=>(i,e x)).toList=some cells:=by
        rw[hp,←hzc'];simpa using hcells
       rw[hcc]
       exact .pure
      ·exact h.elim
     ·exact h.elim
    ·rename_i n el hfs
     have hd:=hC.aQ hi
     rw[hfs]at hd
     have hu:=gL hd
     split at h
     ·rename_i j hj
      split at h
      ·rename_i cells hcells
       refine⟨_,ao.next (hz.bind ((ak hu).bind ((bh hC hj).bind ?_))),h⟩
       have hcc:Instr.fill (fun i=>some (i*j.size,j.size)) z.cells (parts.map fun(i,x)=>(i,e x)).toList=some cells:=by
        rw[hp,←hzc'];exact hcells
       rw[hcc]
       exact .pure
      ·exact h.elim
     ·exact h.elim
    ·exact h.elim
   ·exact h.elim
  ·exact h.elim
 case makeFunc fn first captured=>
  split at h
  ·rename_i a b ha hb
   have h1:first.map e=a.toArray:=by apply Array.ext';simpa using kF he ha
   have h2:captured.map e=b.toArray:=by apply Array.ext';simpa using kF he hb
   refine⟨_,ao.next ?_,h⟩
   rw[h1,h2]
   exact .pure
  ·exact h.elim
 case call c=>
  split at h
  ·rename_i b hb
   have hres:∀{v:Value},ao C.P (builtin b c.argTypes o.type (c.args.map fun| .const _=>true|_=>false) (c.args.map e)) (.value v)→
     gK C.P (do let d←resolve e c o.type;invoke d.target d.args) v:=by
    intro v hv w
    have:=hv w
    unfold resolve
    rw[hb]
    exact this
   have hargs:∀{vs:List Value},gf ev c.args.toList=some vs→c.args.map e=vs.toArray:=fun hv=>by
    apply Array.ext';simpa using kF he hv
   have hnx:∀{s:Sem Value} {v:Value},ao C.P s v→ao C.P (do pure (Next.value (←s))) (.value v):=fun hs=>hs.bind .pure
   split at h
   case h_1=>
    split at h
    ·rename_i t ts x h1 h2
     split at h
     ·rename_i v hv
      have ha:c.args.map e=#[v]:=by
       apply Array.ext'
       rw[Array.toList_map,h2];simp[he _ _ hv]
      have ht:c.argTypes[0]?=some t:=by
       rw[←Array.getElem?_toList,h1];rfl
      unfold yc at h
      split at h
      ·rename_i p n cap
       split at h
       ·rename_i el hel
        have hu:=cS (hdsc _ _ hel)
        refine⟨_,hres ?_,h⟩
        rw[ha]
        refine hnx ?_
        intro w
        simp[Builtin.len_,ht,underlying,hu,goInt]
       ·exact h.elim
      ·rename_i s
       split at h
       ·rename_i hel
        have hu:=iC (hdsc _ _ hel)
        refine⟨_,hres ?_,h⟩
        rw[ha]
        refine hnx ?_
        intro w
        simp[Builtin.len_,ht,underlying,hu,goInt]
       ·exact h.elim
      ·exact h.elim
     ·exact h.elim
    ·exact h.elim
   case h_2=>
    split at h
    ·rename_i t ts x h1 h2
     split at h
     ·rename_i v hv
      have ha:c.args.map e=#[v]:=by
       apply Array.ext'
       rw[Array.toList_map,h2];simp[he _ _ hv]
      have ht:c.argTypes[0]?=some t:=by
       rw[←Array.getElem?_toList,h1];rfl
      unfold yd at h
      split at h
      ·rename_i p n cap
       split at h
       ·rename_i el hel
        have hu:=cS (hdsc _ _ hel)
        refine⟨_,hres ?_,h⟩
        rw[ha]
        refine hnx ?_
        intro w
        simp[Builtin.cap_,ht,underlying,hu,goInt]
       ·exact h.elim
      ·exact h.elim
     ·exact h.elim
    ·exact h.elim
   case h_3=>
    split at h
    ·rename_i k a k' b hv
     refine⟨_,hres ?_,h⟩
     rw[hargs hv]
     refine hnx ?_
     intro w
     simp[Builtin.min_,Builtin.min2]
    ·exact h.elim
   case h_4=>
    split at h
    ·rename_i k a k' b hv
     refine⟨_,hres ?_,h⟩
     rw[hargs hv]
     refine hnx ?_
     intro w
     simp[Builtin.max_,Builtin.max2]
    ·exact h.elim
   case h_5=>
    split at h
    ·rename_i k a b hv
     refine⟨_,hres ?_,h⟩
     rw[hargs hv]
     exact hnx .pure
    ·exact h.elim
   case h_6=>
    split at h
    ·rename_i k a b hv
     refine⟨_,hres ?_,h⟩
     rw[hargs hv]
     exact hnx .pure
    ·exact h.elim
   all_goals exact h.elim
  ·exact h.elim
 all_goals exact h.elim
end
end Go.Vc
namespace Go.Vc
open Go
def ai (h:Heap) (a:Addr):Nat→List Value→Prop
 |_,[]=>True
 |n,v::r=>cellOf h (a.add n)=some v∧ai h a (n+1) r
structure jv where
 a:Addr
 ty:Ty
 n:Nat
def jv.holds (r:jv) (h:Heap) (y:r.ty.den):Prop:=
 match r.ty,y with
 | .sc s,y=>cellOf h r.a=some (s.enc y)
 | .agg l,y=>ai h r.a 0 (jP l y)
 | .arr s,y=>y.length=r.n∧ai h r.a 0 (y.map s.enc)
def iI (T:cR) (op:Op) (ev:Operand→Option Value):Option jv:=
 match op with
 | .load t x=>match ev x with
  |some (.pointer (some a))=>match T.get t with
   |some i=>match i.aQ with
    | .struct _=>match i.ty with
     | .agg l=>bif Nat.beq l.length i.size then some ⟨a,i.ty,i.size⟩else none
     |_=>none
    | .array _ _=>match i.ty with
     | .arr _=>some ⟨a,i.ty,i.size⟩
     |_=>none
    | .other=>none
    |_=>match i.ty with
     | .sc _=>some ⟨a,i.ty,1⟩
     |_=>none
   |none=>none
  |_=>none
 |_=>none
theorem nf:∀(l:List Sc) (x:pa l),(jP l x).length=l.length
 |[],_=>rfl
 |[_],_=>rfl
 |_::t::r,x=>by simp only[jP,List.length_cons];rw[nf (t::r) x.2];rfl
theorem run_loadCells {P:Program} {w:World} {a:Addr}:∀(vs:List Value) (i:Nat) (acc:Array Value),ai w.heap a i vs→
  (loadCellsFrom a i vs.length acc).run P w=.ok (acc++vs.toArray) w
 |[],i,acc,_=>by simp[loadCellsFrom]
 |v::r,i,acc,h=>by
  simp only[List.length_cons,loadCellsFrom,Sem.run_bind,run_load,mI,h.1,Result.andThen_ok]
  rw[run_loadCells r (i+1) (acc.push v) h.2]
  simp
theorem kH {C:kh} (hC:C.Ok) {ev:Operand→Option Value} {e:Operand→Value} (he:∀x v,ev x=some v→e x=v) {o:Oper} {r:jv}
  (hr:iI C.T o.op ev=some r) {y:r.ty.den} {w:World} (hy:r.holds w.heap y):(execOp e o).run C.P w=.ok (.value (r.ty.enc y)) w:=by
 unfold iI at hr
 split at hr
 ·rename_i t x hop
  simp only[execOp,hop]
  split at hr
  ·rename_i a ha
   rw[he _ _ ha]
   split at hr
   ·rename_i i hi
    have key:(∀v,(loadVar t a).run C.P w=.ok v w→(do let s←Instr.loadAt t (.pointer (some a));pure (Next.value s):Sem Next).run C.P w=.ok (.value v) w):=by
     intro v hv
     have:Instr.loadAt t (.pointer (some a))=loadVar t a:=rfl
     rw[this,Sem.run_bind,hv]
     rfl
    split at hr
    ·rename_i fs hfs
     split at hr
     ·rename_i l hl
      cases hb:Nat.beq l.length i.size with
      |false=>rw[hb]at hr;cases hr
      |true=>
       rw[hb]at hr
       simp only[cond_true,Option.some.injEq]at hr
       subst hr
       have hlen:=Nat.eq_of_beq_eq_true hb
       have hy':∀(ty:Ty) (y:ty.den),ty=.agg l→jv.holds ⟨a,ty,i.size⟩ w.heap y→(loadVar t a).run C.P w=.ok (ty.enc y) w:=by
        rintro ty y rfl hy
        unfold loadVar
        rw[Sem.run_bind,(dp hC hi).1 fs hfs w]
        simp only[Result.andThen_ok,if_true,Sem.run_bind,bh hC hi w]
        have h1:=run_loadCells (P:=C.P) (w:=w) (a:=a) (jP l y) 0 #[] hy
        rw[nf,hlen]at h1
        unfold loadCells
        rw[h1]
        simp
       exact key _ (hy' i.ty y hl hy)
     ·cases hr
    ·rename_i n el hfs
     split at hr
     ·rename_i s hl
      cases hr
      have hy':∀(ty:Ty) (y:ty.den),ty=.arr s→jv.holds ⟨a,ty,i.size⟩ w.heap y→(loadVar t a).run C.P w=.ok (ty.enc y) w:=by
       rintro ty y rfl ⟨hl,hy⟩
       unfold loadVar
       rw[Sem.run_bind,(dp hC hi).2.1 n el hfs w]
       simp only[Result.andThen_ok,if_true,Sem.run_bind,bh hC hi w]
       have h1:=run_loadCells (P:=C.P) (w:=w) (a:=a) (y.map s.enc) 0 #[] hy
       rw[List.length_map,hl]at h1
       unfold loadCells
       rw[h1]
       simp
      exact key _ (hy' i.ty y hl hy)
     ·cases hr
    ·cases hr
    ·rename_i d1 d2 d3
     split at hr
     ·rename_i s hl
      cases hr
      have hy':∀(ty:Ty) (y:ty.den),ty=.sc s→jv.holds ⟨a,ty,1⟩ w.heap y→(loadVar t a).run C.P w=.ok (ty.enc y) w:=by
       rintro ty y rfl hy
       have hy1:cellOf w.heap a=some (s.enc y):=hy
       unfold loadVar
       rw[Sem.run_bind,(dp hC hi).2.2 d1 d2 d3 w]
       simp[mI,hy1]
      exact key _ (hy' i.ty y hl hy)
     ·cases hr
   ·cases hr
  ·cases hr
 ·cases hr
end Go.Vc
namespace Go.Vc
open Go
def Typed (t:Ty) (K:Value→Heap→Prop) (v:Value) (h:Heap):Prop:=∃x:t.den,v=t.enc x∧K (t.enc x) h
def od (t:Rt) (K:Value→Heap→Prop) (v:Value) (h:Heap):Prop:=∃x:t.den,v=t.enc x∧K (t.enc x) h
def oe (K:Value→Heap→Prop) (v:Value) (h:Heap):Prop:=∃a:Addr,v=.pointer (some a)∧K (.pointer (some a)) h
def yf (T:cR) (t:TypeId) (tup:List (TypeId×List Ty)):Option Rt:=
 match tup.find? (fun p=>Nat.beq p.1 t)with
 |some p=>some (.many p.2)
 |none=>match T.get t with
  |some i=>some (.one i.ty)
  |none=>none
structure Ctx extends kh where
 tup:List (TypeId×List Ty)
 fns:List Bool
structure Ctx.Ok (C:Ctx):Prop extends kh.Ok C.tokh where
 fns:(C.P.funcs.toList.map fun f=>!(f.name== "runtime.NumGoroutine")&&f.body.isSome)=C.fns
def tU (C:Ctx) (g:FuncId) (args:List Value) (t:TypeId) (K:Value→Heap→Prop) (h:Heap):Prop:=
 match C.fns[g]? with
 |some true=>match yf C.T t C.tup with
  |some r=>ae C.P g args.toArray h (od r K)
  |none=>False
 |_=>False
def of (C:Ctx) (o:Oper) (ev:Operand→Option Value) (K:Value→Heap→Prop) (h:Heap):Prop:=
 match o.op with
 | .store t a x=>match ev a,ev x with
  |some p,some v=>aa C.P (Instr.storeAt t p v) h fun _ h'=>K undef h'
  |_,_=>False
 | .alloc t=>aa C.P (Instr.alloc t true (.tuple #[])) h (oe K)
 | .box t x=>match ev x with
  |some v=>aa C.P (Instr.box t v) h (oe K)
  |none=>False
 | .makeSlice t l c=>match ev l,ev c with
  |some l,some c=>aa C.P (Instr.makeSlice t l c) h (Typed (.sc .slc) K)
  |_,_=>False
 | .buildSlice t n parts=>match lP ev parts.toList with
  |some ps=>aa C.P (Instr.buildSlice t n ps.toArray) h (Typed (.sc .slc) K)
  |none=>False
 | .makeMap t none=>aa C.P (Instr.makeMap t none) h (Typed (.sc .mp) K)
 | .lookup t x ix ok=>match ev x,ev ix,yf C.T o.type C.tup with
  |some m,some k,some r=>aa C.P (Instr.lookup t m k ok) h (od r K)
  |_,_,_=>False
 | .mapUpdate t m k x=>match ev m,ev k,ev x with
  |some m,some k,some v=>aa C.P (Instr.mapUpdate t m k v) h fun _ h'=>K undef h'
  |_,_,_=>False
 | .insert t m k x=>match ev m,ev k,ev x with
  |some m,some k,some v=>aa C.P (Instr.mapUpdate t m k v) h fun _ h'=>K undef h'
  |_,_,_=>False
 | .convert s d x=>match ev x,C.T.get o.type with
  |some v,some i=>aa C.P (convert s d v) h (Typed i.ty K)
  |_,_=>False
 | .binOp op t x y _=>match ev x,ev y,C.T.get o.type with
  |some a,some b,some i=>aa C.P (do eqGuard op t x y a b;binOp op t a b) h (Typed i.ty K)
  |some a,some b,none=>aa C.P (do eqGuard op t x y a b;binOp op t a b) h (Typed (.sc .bool) K)
  |_,_,_=>False
 | .slice t x lo hi mx=>match optVal ev lo,optVal ev hi,optVal ev mx,ev x with
  |some l,some r,some m,some v=>aa C.P (Instr.sliceAt t v l r m) h (Typed (.sc .slc) K)
  |_,_,_,_=>False
 | .call c=>match c.callee with
  | .builtin .append=>match gf ev c.args.toList with
   |some vs=>aa C.P (Builtin.append_ c.argTypes o.type vs.toArray) h (Typed (.sc .slc) K)
   |none=>False
  | .builtin .copy=>match gf ev c.args.toList with
   |some vs=>aa C.P (Builtin.copy_ c.argTypes o.type vs.toArray) h (Typed (.sc (.int .i64)) K)
   |none=>False
  | .builtin .clear=>match gf ev c.args.toList with
   |some vs=>aa C.P (Builtin.clear_ c.argTypes o.type vs.toArray) h K
   |none=>False
  | .builtin .len=>match gf ev c.args.toList with
   |some vs=>aa C.P (Builtin.len_ c.argTypes o.type vs.toArray) h (Typed (.sc (.int .i64)) K)
   |none=>False
  | .builtin .unsafeString=>match gf ev c.args.toList with
   |some vs=>aa C.P (Builtin.unsafeString_ c.argTypes o.type vs.toArray) h (Typed (.sc .str) K)
   |none=>False
  | .builtin .delete=>match gf ev c.args.toList with
   |some vs=>aa C.P (Builtin.delete_ c.argTypes o.type vs.toArray) h K
   |none=>False
  | .value f=>match ev f,gf ev c.args.toList with
   |some (.func (.func g) ⟨first⟩ ⟨caps⟩),some vs=>tU C g (first++vs++caps) o.type K h
   |_,_=>False
  |_=>False
 |_=>False
where
 optVal (ev:Operand→Option Value):Option Operand→Option (Option Value)
  |none=>some none
  |some x=>match ev x with
   |some v=>some (some v)
   |none=>none
section
variable {P:Program} {h:Heap} {K:Value→Heap→Prop}
theorem bz {s:Sem Value} (hs:aa P s h K):kf P (do pure (.value (←s))) h K:=
 aa.bind (hs.mono fun _ _ hk=>aa.pure' hk)
theorem nz {s:Sem Unit} (hs:aa P s h fun _ h'=>K undef h'):kf P (do s;pure .skip) h K:=
 aa.bind (hs.mono fun _ _ hk=>aa.pure' hk)
theorem Typed.out {t:Ty} {v:Value} {h:Heap} (x:Typed t K v h):K v h:=by obtain⟨y,rfl,hk⟩:=x;exact hk
theorem od.out {t:Rt} {v:Value} {h:Heap} (x:od t K v h):K v h:=by obtain⟨y,rfl,hk⟩:=x;exact hk
theorem oe.out {v:Value} {h:Heap} (x:oe K v h):K v h:=by obtain⟨y,rfl,hk⟩:=x;exact hk
end
theorem sw {C:Ctx} (hC:C.Ok) {g:FuncId} {args:List Value} {t:TypeId} {K:Value→Heap→Prop} {h:Heap} (hk:tU C g args t K h):
  kf C.P (callFunc g args.toArray) h K:=by
 unfold tU at hk
 split at hk
 ·rename_i hg
  split at hk
  ·rename_i r hr
   have h2:=congrArg (·[g]?) hC.fns
   simp only[List.getElem?_map,hg]at h2
   cases hf:C.P.funcs.toList[g]? with
   |none=>rw[hf]at h2;cases h2
   |some fn=>
    rw[hf]at h2
    simp only[Option.map_some,Option.some.injEq,Bool.and_eq_true,Bool.not_eq_true']at h2
    have hf':C.P.funcs[g]?=some fn:=by simpa using hf
    have hb:fn.body.isNone=false:=by cases hbb:fn.body<;>simp[hbb]at h2⊢
    unfold callFunc
    refine aa.bind (aa.wc ?_)
    simp only[hf',h2.1,hb]
    exact aa.pure' (hk.mono fun v h' x=>x.out)
  ·exact hk.elim
 ·exact hk.elim
theorem tV {C:Ctx} (hC:C.Ok) {ev:Operand→Option Value} {e:Operand→Value} (he:∀x v,ev x=some v→e x=v) {o:Oper}
  {K:Value→Heap→Prop} {h:Heap} (hk:of C o ev K h):kf C.P (execOp e o) h K:=by
 have hov:∀{x:Option Operand} {r:Option Value},of.optVal ev x=some r→x.map e=r:=by
  intro x r hx
  cases x with
  |none=>cases hx;rfl
  |some y=>
   simp only[of.optVal]at hx
   split at hx
   ·rename_i v hv;cases hx;rw[Option.map_some,he _ _ hv]
   ·cases hx
 unfold of at hk
 split at hk
 ·rename_i t a x hop
  simp only[execOp,hop]
  split at hk
  ·rename_i p v hp hv
   rw[he _ _ hp,he _ _ hv]
   exact nz hk
  ·exact hk.elim
 ·rename_i t hop
  simp only[execOp,hop]
  exact bz (hk.mono fun _ _ x=>x.out)
 ·rename_i t x hop
  simp only[execOp,hop]
  split at hk
  ·rename_i v hv
   rw[he _ _ hv]
   exact bz (hk.mono fun _ _ x=>x.out)
  ·exact hk.elim
 ·rename_i t l c hop
  simp only[execOp,hop]
  split at hk
  ·rename_i v u hv hu
   rw[he _ _ hv,he _ _ hu]
   exact bz (hk.mono fun _ _ x=>x.out)
  ·exact hk.elim
 ·rename_i t n parts hop
  simp only[execOp,hop]
  split at hk
  ·rename_i ps hps
   have:(parts.map fun(i,x)=>(i,e x))=ps.toArray:=by
    apply Array.ext'
    have:=nb he hps
    simpa using this
   rw[this]
   exact bz (hk.mono fun _ _ x=>x.out)
  ·exact hk.elim
 ·rename_i t hop
  simp only[execOp,hop]
  exact bz (hk.mono fun _ _ x=>x.out)
 ·rename_i t x ix ok hop
  simp only[execOp,hop]
  split at hk
  ·rename_i m k r hm hkk hr
   rw[he _ _ hm,he _ _ hkk]
   exact bz (hk.mono fun _ _ x=>x.out)
  ·exact hk.elim
 ·rename_i t m k x hop
  simp only[execOp,hop]
  split at hk
  ·rename_i m' k' v hm hkk hv
   rw[he _ _ hm,he _ _ hkk,he _ _ hv]
   exact nz hk
  ·exact hk.elim
 ·rename_i t m k x hop
  simp only[execOp,hop]
  split at hk
  ·rename_i m' k' v hm hkk hv
   rw[he _ _ hm,he _ _ hkk,he _ _ hv]
   exact nz hk
  ·exact hk.elim
 ·rename_i s d x hop
  simp only[execOp,hop]
  split at hk
  ·rename_i v i hv hi
   rw[he _ _ hv]
   exact bz (hk.mono fun _ _ x=>x.out)
  ·exact hk.elim
 ·rename_i op t x y u hop
  simp only[execOp,hop]
  split at hk
  ·rename_i a b i ha hb hi
   rw[he _ _ ha,he _ _ hb]
   exact bz (hk.mono fun _ _ x=>x.out)
  ·rename_i a b ha hb hi
   rw[he _ _ ha,he _ _ hb]
   exact bz (hk.mono fun _ _ x=>x.out)
  ·exact hk.elim
 ·rename_i t x lo hi mx hop
  simp only[execOp,hop]
  split at hk
  ·rename_i l r m v hl hr hm hv
   rw[hov hl,hov hr,hov hm,he _ _ hv]
   exact bz (hk.mono fun _ _ x=>x.out)
  ·exact hk.elim
 ·rename_i c hop
  simp only[execOp,hop]
  have hargs:∀{vs:List Value},gf ev c.args.toList=some vs→c.args.map e=vs.toArray:=fun hv=>by
   apply Array.ext';simpa using kF he hv
  split at hk
  ·rename_i hc
   split at hk
   ·rename_i vs hvs
    unfold resolve
    rw[hc,hargs hvs]
    exact bz (hk.mono fun _ _ x=>x.out)
   ·exact hk.elim
  ·rename_i hc
   split at hk
   ·rename_i vs hvs
    unfold resolve
    rw[hc,hargs hvs]
    exact bz (hk.mono fun _ _ x=>x.out)
   ·exact hk.elim
  ·rename_i hc
   split at hk
   ·rename_i vs hvs
    unfold resolve
    rw[hc,hargs hvs]
    exact bz hk
   ·exact hk.elim
  ·rename_i hc
   split at hk
   ·rename_i vs hvs
    unfold resolve
    rw[hc,hargs hvs]
    exact bz (hk.mono fun _ _ x=>x.out)
   ·exact hk.elim
  ·rename_i hc
   split at hk
   ·rename_i vs hvs
    unfold resolve
    rw[hc,hargs hvs]
    exact bz (hk.mono fun _ _ x=>x.out)
   ·exact hk.elim
  ·rename_i hc
   split at hk
   ·rename_i vs hvs
    unfold resolve
    rw[hc,hargs hvs]
    exact bz hk
   ·exact hk.elim
  ·rename_i f hc
   split at hk
   ·rename_i g first caps vs hf hvs
    unfold resolve
    rw[hc,hargs hvs]
    simp only[he _ _ hf]
    have:=sw hC hk
    have happ:(⟨first⟩:Array Value)++vs.toArray++(⟨caps⟩:Array Value)=(first++vs++caps).toArray:=by simp
    have hcl:kf C.P (callFunc g ((⟨first⟩:Array Value)++vs.toArray++(⟨caps⟩:Array Value))) h K:=by rw[happ];exact this
    simp only[Deferred.ofValue]
    exact hcl
   ·exact hk.elim
  ·exact hk.elim
 ·exact hk.elim
def put (n:Nat) (dst:Option Tmp) (K:Env→Heap→Prop) (ρ:Env) (v:Value) (h:Heap):Prop:=
 match dst with
 |some d=>bif Nat.blt d n then K (.val d v::ρ) h else False
 |none=>K ρ h
theorem iJ {n:Nat} {dst:Option Tmp} {K:Env→Heap→Prop} {ρ:Env} {v:Value} {h:Heap} (hp:put n dst K ρ v h) {a:Act} (hf:Fits n a ρ):
  ∃ρ',Fits n (a.put dst v) ρ'∧Ext ρ ρ' a (a.put dst v)∧K ρ' h:=by
 unfold put at hp
 cases dst with
 |none=>exact⟨ρ,hf,Ext.refl _ _,hp⟩
 |some d=>
  simp only at hp
  cases hb:Nat.blt d n with
  |false=>rw[hb]at hp;exact hp.elim
  |true=>rw[hb]at hp;exact⟨_,hf.put hb v,Ext.put v v,hp⟩
def wl (C:Ctx) (n:Nat) (o:Oper) (K:Env→Heap→Prop) (ρ:Env) (h:Heap):Prop:=
 match ki C.P C.T o.op ρ.eval with
 | .no=>match iI C.T o.op ρ.eval with
  |some r=>∃y:r.ty.den,r.holds h y∧put n o.dst K ρ (r.ty.enc y) h
  |none=>of C o ρ.eval (put n o.dst K ρ) h
 |p=>p.holds fun v=>put n o.dst K ρ v h
def og (ops:Array Oper) (o:Oper) (ρ:Env) (run skip:Env→Prop):Prop:=
 match o.guard with
 |none=>run ρ
 |some (j,want)=>match(ops[j]?).bind (·.dst)with
  |some d=>match ρ.get d with
   |some (.bool b)=>Br b (bif want then run (.val d (.bool true)::ρ)else skip (.val d (.bool true)::ρ)) (bif want then skip (.val d (.bool false)::ρ)else run (.val d (.bool false)::ρ))
   |some (.tuple _)=>skip ρ
   |_=>False
  |none=>False
theorem Fits.known {n:Nat} {a:Act} {ρ:Env} (hf:Fits n a ρ) {d:Nat} {v:Value} (hv:ρ.get d=some v):Fits n a (.val d v::ρ)∧Ext ρ (.val d v::ρ) a a:=by
 refine⟨⟨hf.size,hf.defers,fun t x ht=>?_⟩,⟨[.val d v],rfl,fun _ _=>rfl⟩⟩
 simp only[Env.get]at ht
 cases hb:Nat.beq d t with
 |false=>rw[hb]at ht;exact hf.get t x ht
 |true=>
  rw[hb]at ht
  have:=Nat.eq_of_beq_eq_true hb
  subst this
  rw[cond_true]at ht
  exact hf.get _ x (hv.trans ht)
theorem ng {ops:Array Oper} {o:Oper} {ρ:Env} {run skip:Env→Prop} {n:Nat} {a:Act} (hf:Fits n a ρ) (hg:og ops o ρ run skip):
  ∃ρ',Fits n a ρ'∧Ext ρ ρ' a a∧((Region.wanted o (yielded ops a.tmps)=true∧run ρ')∨(Region.wanted o (yielded ops a.tmps)=false∧skip ρ')):=by
 unfold og at hg
 unfold Region.wanted
 split at hg
 ·rename_i hn
  rw[hn]
  exact⟨ρ,hf,Ext.refl _ _,.inl ⟨rfl,hg⟩⟩
 ·rename_i j want hn
  rw[hn]
  split at hg
  ·rename_i d hd
   split at hg
   ·rename_i b hb
    have hy:yielded ops a.tmps j=some b:=by
     unfold yielded
     rw[hd]
     simp[hf.get _ _ hb]
    simp only[hy]
    obtain⟨h1,h2⟩:=hf.known hb
    cases b<;>cases want<;>simp only[Br,cond_true,cond_false]at hg
    ·exact⟨_,h1,h2,.inl ⟨rfl,hg⟩⟩
    ·exact⟨_,h1,h2,.inr ⟨rfl,hg⟩⟩
    ·exact⟨_,h1,h2,.inr ⟨rfl,hg⟩⟩
    ·exact⟨_,h1,h2,.inl ⟨rfl,hg⟩⟩
   ·rename_i vs hb
    have hy:yielded ops a.tmps j=none:=by
     unfold yielded
     rw[hd]
     simp[hf.get _ _ hb]
    simp only[hy]
    exact⟨ρ,hf,Ext.refl _ _,.inr ⟨by simp,hg⟩⟩
   ·exact hg.elim
  ·exact hg.elim
theorem uS {C:Ctx} (hC:C.Ok) {n:Nat} {o:Oper} {K:Env→Heap→Prop} {ρ:Env} {a:Act} {w:World} (hf:Fits n a ρ) (hr:wl C n o K ρ w.heap)
  {Q:Exit→Act→World→Prop} {next:Act→World→Prop}
  (hn:∀a' w' ρ',Fits n a' ρ'→Ext ρ ρ' a a'→aL w w'→K ρ' w'.heap→next a' w'):o.wp C.P a w next Q:=by
 have he:∀x v,ρ.eval x=some v→a.eval x=v:=fun x v h=>hf.eval h
 have hfin:∀v w',aL w w'→put n o.dst K ρ v w'.heap→next (a.put o.dst v) w':=fun v w' hl hp=>by
  obtain⟨ρ',h1,h2,h3⟩:=iJ hp hf
  exact hn _ _ _ h1 h2 hl h3
 have hpure:(ki C.P C.T o.op ρ.eval).holds (fun v=>put n o.dst K ρ v w.heap)→o.wp C.P a w next Q:=fun h=>by
  obtain⟨v,hv,hk⟩:=oc hC.toOk he h
  unfold Oper.wp
  rw[hv w]
  exact hfin v w (aL.refl w) hk
 unfold wl at hr
 split at hr
 ·split at hr
  ·rename_i r hreq
   obtain⟨y,hy,hk⟩:=hr
   unfold Oper.wp
   rw[kH hC.toOk he hreq hy]
   exact hfin _ w (aL.refl w) hk
  ·exact yL (tV hC he hr) hfin
 ·exact hpure hr
def mK (C:Ctx) (n:Nat) (ops:Array Oper) (o:Oper) (K:Env→Heap→Prop) (ρ:Env) (h:Heap):Prop:=
 og ops o ρ (fun ρ=>wl C n o K ρ h) (fun ρ=>put n o.dst K ρ undef h)
theorem oh {C:Ctx} (hC:C.Ok) {n:Nat} {ops:Array Oper} {o:Oper} {i:Nat} (hi:ops[i]?=some o) {K:Env→Heap→Prop} {ρ:Env} {a:Act} {w:World}
  (hf:Fits n a ρ) (hs:mK C n ops o K ρ w.heap) {Q:Exit→Act→World→Prop} {next:Act→World→Prop}
  (hn:∀a' w' ρ',Fits n a' ρ'→Ext ρ ρ' a a'→aL w w'→K ρ' w'.heap→next a' w'):wpOp C.P ops Q i next a w:=by
 obtain⟨ρ',h1,h2,h3⟩:=ng hf hs
 unfold wpOp
 simp only[hi]
 rcases h3 with⟨hw,hr⟩|⟨hw,hr⟩
 ·simp only[hw,if_true]
  exact .inl (uS hC h1 hr fun a' w' ρ'' x1 x2 x3 x4=>hn _ _ _ x1 (h2.trans x2) x3 x4)
 ·simp only[hw,Bool.false_eq_true,if_false]
  obtain⟨ρ'',y1,y2,y3⟩:=iJ hr h1
  exact hn _ _ _ y1 (h2.trans y2) (aL.refl w) y3
def wm (C:Ctx) (n:Nat) (ops:Array Oper) (K:Env→Heap→Prop):List Oper→Env→Heap→Prop
 |[],ρ,h=>K ρ h
 |o::r,ρ,h=>mK C n ops o (wm C n ops K r) ρ h
def Out (n:Nat) (Q:Exit→Env→Heap→Prop) (ρ:Env) (a:Act) (w:World):Exit→Act→World→Prop:=fun e a' w'=>
 ∃ρ',Fits n a' ρ'∧Ext ρ ρ' a a'∧aL w w'∧Q e ρ' w'.heap
theorem lQ {C:Ctx} (hC:C.Ok) {n:Nat} {ops:Array Oper} {K:Env→Heap→Prop} {Q:Exit→Act→World→Prop} {ρ0:Env} {a0:Act} {w0:World}
  (hQ:∀a w ρ,Fits n a ρ→Ext ρ0 ρ a0 a→aL w0 w→K ρ w.heap→Q .normal a w):
  ∀(r:List Oper) (i:Nat),(∀j,r[j]?=ops[i+j]?)→∀(ρ:Env) (a:Act) (w:World),Fits n a ρ→Ext ρ0 ρ a0 a→aL w0 w→wm C n ops K r ρ w.heap→
   wpOps C.P ops Q (List.range' i r.length) a w
 |[],i,_,ρ,a,w,hf,hx,hl,hs=>hQ a w ρ hf hx hl hs
 |o::r,i,hr,ρ,a,w,hf,hx,hl,hs=>by
  have h0:ops[i]?=some o:=by simpa using(hr 0).symm
  rw[List.length_cons,List.range'_succ,wpOps_cons]
  refine oh hC h0 hf hs fun a' w' ρ' h1 h2 h3 h4=>?_
  exact lQ hC hQ r (i+1) (fun j=>by have:=hr (j+1);simpa[Nat.add_assoc,Nat.add_comm 1 j]using this) ρ' a' w' h1 (hx.trans h2) (hl.trans h3) h4
end Go.Vc
namespace Go.Vc
open Go
abbrev ar:=List (Addr×Value)
def ar.ok:ar→Heap→Prop
 |[],_=>True
 |p::r,h=>cellOf h p.1=some p.2∧ar.ok r h
def gl (a:Addr):Nat→List Value→ar→ar
 |_,[],L=>L
 |n,v::r,L=>(a.add n,v)::gl a (n+1) r L
theorem jS {a:Addr} {h:Heap}:∀{vs:List Value} {n:Nat} {L:ar},(gl a n vs L).ok h↔ai h a n vs∧L.ok h
 |[],_,L=>by simp[gl,ai]
 |v::r,n,L=>by simp only[gl,ar.ok,ai,jS (vs:=r),and_assoc]
def jv.held (r:jv) (y:r.ty.den) (L:ar):ar:=
 match r.ty,y with
 | .sc s,y=>(r.a,s.enc y)::L
 | .agg l,y=>gl r.a 0 (jP l y) L
 | .arr s,y=>gl r.a 0 (y.map s.enc) L
theorem jv.xv {r:jv} {y:r.ty.den} {L:ar} {m0:Heap} (h0:r.holds m0 y) {m:Heap}:(r.held y L).ok m↔r.holds m y∧L.ok m:=by
 obtain⟨a,ty,n⟩:=r
 cases ty with
 |sc s=>exact Iff.rfl
 |agg l=>exact jS
 |arr s=>exact jS.trans ⟨fun x=>⟨⟨h0.1,x.1⟩,x.2⟩,fun x=>⟨x.1.2,x.2⟩⟩
structure bC where
 op:Nat
 r:jv
 y:r.ty.den
def flat:List bC→ar
 |[]=>[]
 |p::r=>p.r.held p.y (flat r)
def bC.ok (p:bC) (w:World):Prop:=p.r.holds w.heap p.y
def waits (ops:Array Oper) (j i:Nat):Bool:=match ops[j]? with
 |some o=>o.after.any fun e=>Region.binds .any e&&Nat.beq e.on i
 |none=>false
def keep (ops:Array Oper) (j:Nat):List bC→List bC
 |[]=>[]
 |p::r=>bif waits ops j p.op then keep ops j r else p::keep ops j r
theorem gm {ops:Array Oper} {j:Nat}:∀{L:List bC},∀p∈keep ops j L,p∈L
 |[],p,h=>by cases h
 |q::r,p,h=>by
  unfold keep at h
  cases hw:waits ops j q.op with
  |true=>rw[hw]at h;exact List.mem_cons_of_mem _ (gm p h)
  |false=>
   rw[hw]at h
   rcases List.mem_cons.1 h with rfl|h
   ·exact List.mem_cons_self
   ·exact List.mem_cons_of_mem _ (gm p h)
theorem kI {ops:Array Oper} {j:Nat}:∀{L:List bC} {p:bC},p∈L→waits ops j p.op=false→p∈keep ops j L
 |q::r,p,h,hw=>by
  unfold keep
  rcases List.mem_cons.1 h with rfl|h
  ·rw[hw];exact List.mem_cons_self
  ·cases hq:waits ops j q.op with
   |true=>exact kI h hw
   |false=>exact List.mem_cons_of_mem _ (kI h hw)
theorem nA {ops:Array Oper} {j:Nat} {p:bC}:∀{M:List bC},p∈keep ops j M→waits ops j p.op=false
 |[],h=>by cases h
 |q::r,h=>by
  unfold keep at h
  cases hq:waits ops j q.op with
  |true=>rw[hq]at h;exact nA h
  |false=>
   rw[hq]at h
   rcases List.mem_cons.1 h with rfl|h
   ·exact hq
   ·exact nA h
theorem lR {ops:Array Oper} {j:Nat} {L L':List bC} (hs:∀p∈L',p∈L):∀p∈keep ops j L',p∈keep ops j L:=
 fun p hp=>kI (hs p (gm p hp)) (nA hp)
def dO (P:Program) (ops:Array Oper) (Q:Exit→Act→World→Prop):Nat→List bC→Array Bool→Act→World→Prop
 |0,_,listed,a,w=>Region.ready .any ops listed=[]∧Q .normal a w
 |fuel+1,L,listed,a,w=>
  (Region.ready .any ops listed=[]→Q .normal a w)∧
  ∀i∈Region.ready .any ops listed,wpOp P ops Q i (fun a' w'=>(∀p∈keep ops i L,p.ok w')∧dO P ops Q fuel (keep ops i L) (listed.setIfInBounds i true) a' w') a w
theorem kJ {P:Program} {ops:Array Oper} {Q:Exit→Act→World→Prop}:∀(fuel:Nat) (L:List bC) (listed:Array Bool) (a:Act) (w:World),dO P ops Q fuel L listed a w→wpAny P .any ops Q fuel listed a w
 |0,_,_,_,_,h=>h
 |fuel+1,_,_,_,_,h=>⟨h.1,fun i hi=>wpOp_mono (fun a' w' h'=>kJ fuel _ _ a' w' h'.2) (h.2 i hi)⟩
theorem kK {P:Program} {ops:Array Oper} {Q:Exit→Act→World→Prop}:∀(fuel:Nat) {L L':List bC} (listed:Array Bool) (a:Act) (w:World),(∀p∈L',p∈L)→dO P ops Q fuel L listed a w→dO P ops Q fuel L' listed a w
 |0,_,_,_,_,_,_,h=>h
 |fuel+1,_,_,_,_,_,hs,h=>⟨h.1,fun i hi=>wpOp_mono (fun a' w' h'=>⟨fun p hp=>h'.1 p (lR hs p hp),kK fuel _ a' w' (lR hs) h'.2⟩) (h.2 i hi)⟩
theorem qQ {P:Program} {ops:Array Oper} {Q:Exit→Act→World→Prop} {i:Nat} {oi:Oper} {v:Value} {T:World→Prop} {N:List bC} (hi:ops[i]?=some oi) (hsel:∀(j:Nat) (o:Oper) cs b,ops[j]?=some o→o.op≠.select cs b)
  (hQ:∀c a w,Q (.panic c) (a.put oi.dst v) w→Q (.panic c) a w) (hN:∀p∈N,p.op=i) (hT:∀w,(∀p∈N,p.ok w)→T w):
  ∀(fuel:Nat) (L:List bC) (listed:Array Bool) (a:Act) (w:World),
   (∀j oj,ops[j]?=some oj→j≠i→listed.getD j true=false→(∀e∈oj.after,Region.binds .any e=true→e.on≠i)→oi.apart ops oj=true)→
   i∈Region.ready .any ops listed→YieldsIf P ops T oi v a→(∀p∈N,p.ok w)→(∀p∈L,p.ok w)→
   dO P ops Q fuel (N++L) (listed.setIfInBounds i true) (a.put oi.dst v) w→dO P ops Q (fuel+1) L listed a w:=by
 intro fuel
 have self:∀(fuel:Nat) (L:List bC) (listed:Array Bool) (a:Act) (w:World),YieldsIf P ops T oi v a→(∀p∈N,p.ok w)→(∀p∈L,p.ok w)→
   dO P ops Q fuel (N++L) (listed.setIfInBounds i true) (a.put oi.dst v) w→
   wpOp P ops Q i (fun a' w'=>(∀p∈keep ops i L,p.ok w')∧dO P ops Q fuel (keep ops i L) (listed.setIfInBounds i true) a' w') a w:=fun fuel L listed a w hy hNw hL H=>
  hy.wpOp hi (hT w hNw) ⟨fun p hp=>hL p (gm p hp),kK fuel _ _ _ (fun p hp=>List.mem_append_right _ (gm p hp)) H⟩
 induction fuel with
 |zero=>
  intro L listed a w _ hr hy hNw hL H
  refine⟨fun h=>(by rw[h]at hr;cases hr),fun j hj=>?_⟩
  by_cases hji:j=i
  ·subst hji;exact self 0 L listed a w hy hNw hL H
  ·have:=ready_mono hj hji
   rw[H.1]at this
   cases this
 |succ fuel ih=>
  intro L listed a w hfree hr hy hNw hL H
  refine⟨fun h=>(by rw[h]at hr;cases hr),fun j hj=>?_⟩
  by_cases hji:j=i
  ·subst hji;exact self (fuel+1) L listed a w hy hNw hL H
  ·have h1:=H.2 j (ready_mono hj hji)
   obtain⟨hjun,oj,hoj,hall⟩:=mem_ready.1 hj
   have hnot:∀e∈oj.after,Region.binds .any e=true→e.on≠i:=fun e he hb heq=>by
    have h1:=hall e he hb
    have h0:=(mem_ready.1 hr).1
    rw[heq]at h1
    rcases Nat.lt_or_ge i listed.size with h'|h'
    ·simp[h']at h0 h1;rw[h0]at h1;cases h1
    ·simp[Array.getElem?_eq_none h']at h1
   have hany:(oj.after.any fun e=>Region.binds .any e&&Nat.beq e.on i)=false:=by
    cases hc:oj.after.any fun e=>Region.binds .any e&&Nat.beq e.on i with
    |false=>rfl
    |true=>
     obtain⟨k,hk,hb⟩:=Array.any_eq_true.1 hc
     simp only[Bool.and_eq_true]at hb
     exact absurd (Nat.eq_of_beq_eq_true hb.2) (hnot _ (Array.getElem_mem hk) hb.1)
   have hwait:waits ops j i=false:=by
    unfold waits;rw[hoj];exact hany
   have hmem:∀p,p∈N→p∈keep ops j (N++L):=fun p hp=>kI (List.mem_append_left _ hp) (by rw[hN p hp];exact hwait)
   have hmemL:∀p,p∈keep ops j L→p∈keep ops j (N++L):=lR fun p hp=>List.mem_append_right _ hp
   have h2:=wpOp_putIf hoj (hfree j oj hoj hji hjun hnot) (fun cs b=>hsel i oi cs b hi) (fun cs b=>hsel j oj cs b hoj) hQ hy h1
   have hfree':∀k ok,ops[k]?=some ok→k≠i→(listed.setIfInBounds j true).getD k true=false→
     (∀e∈ok.after,Region.binds .any e=true→e.on≠i)→oi.apart ops ok=true:=fun k ok hk hki hun hno=>by
    refine hfree k ok hk hki ?_ hno
    by_cases hjk:j=k
    ·subst hjk;exact hjun
    ·rw[getD_set_ne true hjk]at hun;exact hun
   refine wpOp_mono (fun a' w' h3=>⟨fun p hp=>h3.2.1 p (hmemL p hp),ih (keep ops j L) (listed.setIfInBounds j true) a' w' hfree' (ready_mono hr (Ne.symm hji)) h3.1 (fun p hp=>h3.2.1 p (hmem p hp)) (fun p hp=>h3.2.1 p (hmemL p hp)) ?_⟩) h2
   rw[Array.setIfInBounds_comm _ _ hji]
   refine kK _ _ _ _ (fun p hp=>?_) h3.2.2
   rcases List.mem_append.1 hp with hp|hp
   ·exact hmem p hp
   ·exact hmemL p hp
theorem jT {P:Program} {ops:Array Oper} {Q:Exit→Act→World→Prop} {i:Nat} {oi:Oper} {v:Value} {T:World→Prop} {N:List bC} {fuel:Nat} {L:List bC} {listed:Array Bool} {a:Act} {w:World} (hi:ops[i]?=some oi)
  (hs:Region.noSelect ops=true) (hf:Region.free .any ops listed i=true) (hr:(Region.ready .any ops listed).contains i=true)
  (hQ:∀c a w,Q (.panic c) (a.put oi.dst v) w→Q (.panic c) a w) (hN:∀p∈N,p.op=i) (hT:∀w,(∀p∈N,p.ok w)→T w) (hy:YieldsIf P ops T oi v a) (hNw:∀p∈N,p.ok w) (hL:∀p∈L,p.ok w)
  (h:dO P ops Q fuel (N++L) (listed.setIfInBounds i true) (a.put oi.dst v) w):dO P ops Q (fuel+1) L listed a w:=
 qQ hi (Region.noSelect_spec hs) hQ hN hT fuel L listed a w (Region.free_spec hi hf) (by simpa using hr) hy hNw hL h
theorem pb:∀{L:List bC} {w0:World},(∀p∈L,p.ok w0)→∀{m:Heap},(flat L).ok m→∀p∈L,p.r.holds m p.y
 |[],_,_,_,_,p,hp=>by cases hp
 |q::r,w0,h0,m,h,p,hp=>by
  have h:=(jv.xv (h0 q List.mem_cons_self)).1 h
  rcases List.mem_cons.1 hp with rfl|hp
  ·exact h.1
  ·exact pb (fun p hp=>h0 p (List.mem_cons_of_mem _ hp)) h.2 p hp
def wV (T:cR) (t:TypeId):Bool:=match T.get t with
 |some i=>match i.ty with
  | .sc .slc=>true
  |_=>false
 |none=>false
def wW (T:cR):Op→Bool
 | .convert s d _=>!(wV T s||wV T d)
 | .move _| .assign _| .pick .. | .nilCheck _| .fieldAddr .. | .indexAddr .. | .index .. | .field .. | .extract .. | .binOp .. | .unOp .. | .build .. | .makeFunc .. | .load .. =>true
 | .slice _ _ _ _ none=>true
 | .call c=>match c.callee with
  | .builtin .len| .builtin .cap| .builtin .min| .builtin .max| .builtin .real| .builtin .imag=>true
  |_=>false
 |_=>false
def fl (T:cR) (ops:Array Oper) (listed:Array Bool):List Nat→Option Nat
 |[]=>none
 |i::r=>match ops[i]? with
  |some o=>bif wW T o.op&&Region.free .any ops listed i then some i else fl T ops listed r
  |none=>fl T ops listed r
def tW (C:Ctx) (n:Nat) (ops:Array Oper) (i:Nat) (o:Oper) (L:List bC) (K:List bC→Env→Heap→Prop) (ρ:Env) (h:Heap):Prop:=
 og ops o ρ (fun ρ=>match ki C.P C.T o.op ρ.eval with
  | .no=>match iI C.T o.op ρ.eval with
   |some r=>∃y:r.ty.den,r.holds h y∧put n o.dst (K (⟨i,r,y⟩::L)) ρ (r.ty.enc y) h
   |none=>False
  |p=>p.holds fun v=>put n o.dst (K L) ρ v h) (fun ρ=>put n o.dst (K L) ρ undef h)
def qR (C:Ctx) (n:Nat) (ops:Array Oper) (K:Nat→Env→Heap→Prop) (ρ:Env) (h:Heap):List Nat→Prop
 |[]=>True
 |[i]=>match ops[i]? with
  |some o=>mK C n ops o (K i) ρ h
  |none=>False
 |i::j::r=>(match ops[i]? with
  |some o=>mK C n ops o (K i) ρ h
  |none=>False)∧qR C n ops K ρ h (j::r)
def gY (C:Ctx) (n:Nat) (ops:Array Oper) (K:Env→Heap→Prop):Nat→Array Bool→List bC→Env→Heap→Prop
 |0,listed,_,ρ,h=>bif (Region.ready .any ops listed).isEmpty then K ρ h else False
 |k+1,listed,L,ρ,h=>match fl C.T ops listed (Region.ready .any ops listed)with
  |some i=>match ops[i]? with
   |some o=>tW C n ops i o L (gY C n ops K k (listed.setIfInBounds i true)) ρ h
   |none=>False
  |none=>match Region.ready .any ops listed with
   |[]=>K ρ h
   |i::r=>qR C n ops (fun i ρ h=>(flat (keep ops i L)).ok h∧gY C n ops K k (listed.setIfInBounds i true) (keep ops i L) ρ h) ρ h (i::r)
theorem gZ {T:cR} {ops:Array Oper} {listed:Array Bool}:∀{rs:List Nat} {i:Nat},fl T ops listed rs=some i→i∈rs∧Region.free .any ops listed i=true
 |[],_,h=>by cases h
 |j::r,i,h=>by
  simp only[fl]at h
  split at h
  ·rename_i o ho
   cases hb:(wW T o.op&&Region.free .any ops listed j)with
   |true=>
    rw[hb]at h
    cases h
    simp only[Bool.and_eq_true]at hb
    exact⟨List.mem_cons_self,hb.2⟩
   |false=>
    rw[hb]at h
    have:=gZ h
    exact⟨List.mem_cons_of_mem _ this.1,this.2⟩
  ·have:=gZ h
   exact⟨List.mem_cons_of_mem _ this.1,this.2⟩
theorem pK {C:Ctx} {n:Nat} {ops:Array Oper} {K:Nat→Env→Heap→Prop} {ρ:Env} {h:Heap}:∀{l:List Nat},qR C n ops K ρ h l→∀i∈l,∃o,ops[i]?=some o∧mK C n ops o (K i) ρ h
 |[],_,i,hi=>by cases hi
 |[j],ha,i,hi=>by
  simp only[List.mem_singleton]at hi
  subst hi
  simp only[qR]at ha
  split at ha
  ·rename_i o ho;exact⟨o,ho,ha⟩
  ·exact ha.elim
 |j::k::r,ha,i,hi=>by
  obtain⟨h1,h2⟩:=ha
  rcases List.mem_cons.1 hi with rfl|hi
  ·split at h1
   ·rename_i o ho;exact⟨o,ho,h1⟩
   ·exact h1.elim
  ·exact pK h2 i hi
section
variable {C:Ctx} {n:Nat} {ops:Array Oper} {K:Env→Heap→Prop} {Q:Exit→Act→World→Prop} {ρ0:Env} {a0:Act} {w0:World}
theorem lS (hC:C.Ok) (hs:Region.noSelect ops=true)
  (hQ:∀a w ρ,Fits n a ρ→Ext ρ0 ρ a0 a→aL w0 w→K ρ w.heap→Q .normal a w) (hQp:∀c a w,¬Q (.panic c) a w):
  ∀(k:Nat) (listed:Array Bool) (L:List bC) (ρ:Env) (a:Act) (w:World),Fits n a ρ→Ext ρ0 ρ a0 a→aL w0 w→(∀p∈L,p.ok w)→
   gY C n ops K k listed L ρ w.heap→dO C.P ops Q k L listed a w
 |0,listed,L,ρ,a,w,hf,hx,hl,hL,h=>by
  simp only[gY]at h
  cases hb:(Region.ready .any ops listed).isEmpty with
  |false=>rw[hb]at h;exact h.elim
  |true=>rw[hb]at h;exact⟨by simpa using hb,hQ _ _ _ hf hx hl h⟩
 |k+1,listed,L,ρ,a,w,hf,hx,hl,hL,h=>by
  have ih:=lS hC hs hQ hQp k
  simp only[gY]at h
  split at h
  ·rename_i i hi
   obtain⟨hmem,hfree⟩:=gZ hi
   have hready:(Region.ready .any ops listed).contains i=true:=by simpa using hmem
   split at h
   ·rename_i o ho
    unfold tW at h
    obtain⟨ρ',h1,h2,h3⟩:=ng hf h
    have hQ':∀c a w (v:Value),Q (.panic c) (Act.put a o.dst v) w→Q (.panic c) a w:=fun c a w v hq=>absurd hq (hQp c _ w)
    have he:∀x v,Env.eval ρ' x=some v→a.eval x=v:=fun x v h=>h1.eval h
    rcases h3 with⟨hw,hr⟩|⟨hw,hr⟩
    ·have hpure:(ki C.P C.T o.op (Env.eval ρ')).holds (fun v=>put n o.dst (gY C n ops K k (listed.setIfInBounds i true) L) ρ' v w.heap)→
       dO C.P ops Q (k+1) L listed a w:=fun hp=>by
      obtain⟨v,hv,hk⟩:=oc hC.toOk he hp
      obtain⟨ρ'',y1,y2,y3⟩:=iJ hk h1
      exact jT (N:=[]) (T:=fun _=>True) ho hs hfree hready (fun c a w=>hQ' c a w v) (fun p hp=>by cases hp) (fun _ _=>trivial) (.inl ⟨hw,fun w _=>hv w⟩) (fun p hp=>by cases hp) hL
       (ih _ L ρ'' _ w y1 (hx.trans (h2.trans y2)) hl hL y3)
     split at hr
     ·split at hr
      ·rename_i r hreq
       obtain⟨y,hy,hk⟩:=hr
       obtain⟨ρ'',y1,y2,y3⟩:=iJ hk h1
       have hNw:∀p∈[(⟨i,r,y⟩:bC)],p.ok w:=fun p hp=>by rw[List.mem_singleton]at hp;subst hp;exact hy
       refine jT (N:=[⟨i,r,y⟩]) (T:=fun w=>r.holds w.heap y) ho hs hfree hready (fun c a w=>hQ' c a w _) (fun p hp=>by rw[List.mem_singleton]at hp;subst hp;rfl)
        (fun w h=>h ⟨i,r,y⟩ (List.mem_singleton.2 rfl)) (.inl ⟨hw,fun w hw=>kH hC.toOk he hreq hw⟩) hNw hL ?_
       refine ih _ (⟨i,r,y⟩::L) ρ'' _ w y1 (hx.trans (h2.trans y2)) hl (fun p hp=>?_) y3
       rcases List.mem_cons.1 hp with rfl|hp
       ·exact hy
       ·exact hL p hp
      ·exact hr.elim
     ·exact hpure hr
    ·obtain⟨ρ'',y1,y2,y3⟩:=iJ hr h1
     exact jT (N:=[]) (T:=fun _=>True) ho hs hfree hready (fun c a w=>hQ' c a w undef) (fun p hp=>by cases hp) (fun _ _=>trivial) (.inr ⟨hw,rfl⟩) (fun p hp=>by cases hp) hL
      (ih _ L ρ'' _ w y1 (hx.trans (h2.trans y2)) hl hL y3)
   ·exact h.elim
  ·split at h
   ·rename_i hr
    exact⟨fun _=>hQ _ _ _ hf hx hl h,fun i hi=>by rw[hr]at hi;cases hi⟩
   ·rename_i i r hr
    refine⟨fun h0=>absurd (hr▸h0) (by simp),fun j hj=>?_⟩
    rw[hr]at hj
    obtain⟨o,ho,hst⟩:=pK h j hj
    have hkeep:∀p∈keep ops j L,p.ok w:=fun p hp=>hL p (gm p hp)
    exact oh hC ho hf hst fun a' w' ρ' x1 x2 x3 x4=>⟨pb hkeep x4.1,ih _ (keep ops j L) ρ' a' w' x1 (hx.trans x2) (hl.trans x3) (pb hkeep x4.1) x4.2⟩
end
def sched (T:cR) (ops:Array Oper):Nat→Array Bool→Option (List (Nat×Bool))
 |0,listed=>bif (Region.ready .any ops listed).isEmpty then some []else none
 |k+1,listed=>match fl T ops listed (Region.ready .any ops listed)with
  |some i=>(sched T ops k (listed.setIfInBounds i true)).map ((i,true)::·)
  |none=>match Region.ready .any ops listed with
   |[]=>some []
   |[i]=>(sched T ops k (listed.setIfInBounds i true)).map ((i,false)::·)
   |_::_::_=>none
def gM (C:Ctx) (n:Nat) (ops:Array Oper) (K:Env→Heap→Prop):List (Nat×Bool)→List bC→Env→Heap→Prop
 |[],_,ρ,h=>K ρ h
 |(i,true)::r,L,ρ,h=>match ops[i]? with
  |some o=>tW C n ops i o L (gM C n ops K r) ρ h
  |none=>False
 |(i,false)::r,L,ρ,h=>match ops[i]? with
  |some o=>mK C n ops o (fun ρ h=>(flat (keep ops i L)).ok h∧gM C n ops K r (keep ops i L) ρ h) ρ h
  |none=>False
theorem lT {C:Ctx} {n:Nat} {ops:Array Oper} {K:Env→Heap→Prop}:∀(k:Nat) (listed:Array Bool) (l:List (Nat×Bool)),sched C.T ops k listed=some l→
  gY C n ops K k listed=gM C n ops K l
 |0,listed,l,hs=>by
  simp only[sched]at hs
  cases hb:(Region.ready .any ops listed).isEmpty with
  |false=>rw[hb]at hs;cases hs
  |true=>
   rw[hb]at hs;cases hs
   funext L ρ h;simp only[gY,hb,gM,cond_true]
 |k+1,listed,l,hs=>by
  have ih:=fun i=>lT (C:=C) (n:=n) (ops:=ops) (K:=K) k (listed.setIfInBounds i true)
  funext L ρ h
  unfold sched at hs
  unfold gY
  cases hi:fl C.T ops listed (Region.ready .any ops listed)with
  |some i=>
   rw[hi]at hs
   obtain⟨l',h1,rfl⟩:=Option.map_eq_some_iff.1 hs
   simp only[gM,ih i l' h1]
  |none=>
   rw[hi]at hs
   generalize hr:Region.ready .any ops listed=rd at hs
   match rd,hs with
   |[],hs=>cases hs;simp only[gM]
   |[i],hs=>
    obtain⟨l',h1,rfl⟩:=Option.map_eq_some_iff.1 hs
    simp only[qR,gM,ih i l' h1]
def iD (C:Ctx) (n:Nat) (ops:Array Oper) (draw:Bool) (K:Env→Heap→Prop) (ρ:Env) (h:Heap):Prop:=
 match draw with
 |false=>wm C n ops K ops.toList ρ h
 |true=>bif Region.noSelect ops then(match sched C.T ops ops.size (Array.replicate ops.size false)with
  |some l=>gM C n ops K l [] ρ h
  |none=>gY C n ops K ops.size (Array.replicate ops.size false) [] ρ h)else False
theorem qS {C:Ctx} (hC:C.Ok) {n:Nat} {id:Nat} {ops:Array Oper} {draw:Bool} {Q:Exit→Env→Heap→Prop} {ρ:Env} {a:Act} {w:World} (hf:Fits n a ρ)
  (h:iD C n ops draw (Q .normal) ρ w.heap):(Code.region id ops draw).wp C.P (fun e a' w'=>(∀c,e≠.panic c)∧Out n Q ρ a w e a' w') a w:=by
 cases draw with
 |false=>
  refine wp_region ?_
  have:=lQ hC (Q:=fun e a' w'=>(∀c,e≠.panic c)∧Out n Q ρ a w e a' w') (K:=Q .normal) (ρ0:=ρ) (a0:=a) (w0:=w) (fun a' w' ρ' x1 x2 x3 x4=>⟨fun c e=>(by cases e),ρ',x1,x2,x3,x4⟩)
   ops.toList 0 (fun j=>by simp) ρ a w hf (Ext.refl _ _) (aL.refl _) h
  rw[List.range_eq_range']
  simpa using this
 |true=>
  simp only[iD]at h
  cases hb:Region.noSelect ops with
  |false=>rw[hb]at h;exact h.elim
  |true=>
   rw[hb]at h
   have h:gY C n ops (Q .normal) ops.size (Array.replicate ops.size false) [] ρ w.heap:=by
    simp only[cond_true]at h
    split at h
    ·rename_i l hl;rw[lT _ _ _ hl];exact h
    ·exact h
   refine wp_region_any hC.mixed (kJ _ [] _ _ _ ?_)
   exact lS hC hb (Q:=fun e a' w'=>(∀c,e≠.panic c)∧Out n Q ρ a w e a' w') (ρ0:=ρ) (a0:=a) (w0:=w) (fun a' w' ρ' x1 x2 x3 x4=>⟨fun c e=>(by cases e),ρ',x1,x2,x3,x4⟩)
    (fun c a w hq=>hq.1 c rfl) _ _ [] ρ a {w with drawn:=w.drawn+1} hf (Ext.refl _ _) ⟨rfl,rfl,rfl,Nat.le_succ _⟩ (fun p hp=>by cases hp) h
end Go.Vc
namespace Go.Vc
open Go
def aD {σ:Type} (rest:σ→Heap→Prop) (B:(σ→Heap→Prop)→Prop):Prop:=∃R:σ→Heap→Prop,(∀s h,R s h→rest s h)∧B R
def aS {σ:Type} (B:σ→(σ→Heap→Prop)→Heap→Prop) (s:σ) (h:Heap):Prop:=
 ∃(τ:Type) (V:τ→σ) (I:τ→Heap→Prop) (μ:τ→Nat) (t0:τ),s=V t0∧I t0 h∧∀t h,I t h→B (V t) (fun s' h'=>∃t',s'=V t'∧I t' h'∧μ t'<μ t) h
theorem uT {P:Program} {c:Code} {Q:Exit→Act→World→Prop} {a:Act} {w:World} {σ:Type} (R:σ→Act→World→Prop) (μ:σ→World→Nat) (s0:σ) (h0:R s0 a w)
  (round:∀s a w,R s a w→c.wp P (Exit.then (fun a' w'=>∃s',R s' a' w'∧μ s' w'<μ s w) Q) a w):(Code.loop c).wp P Q a w:=by
 intro b k cs
 have key:∀n s a w,μ s w=n→R s a w→
   ∃e a' w',Q e a' w'∧Arrives P (lone (b.at a (.code c::.inLoop c::k)) cs w) b k cs e a' w':=by
  intro n
  induction n using Nat.strongRecOn with
  |_ n ih=>
   intro s a w hn hI
   obtain⟨e,a₁,w₁,hq,harr⟩:=round s a w hI b (.inLoop c::k) cs
   cases e with
   |normal=>
    obtain⟨s',hI₁,hlt⟩:=hq
    obtain⟨e₂,a₂,w₂,hq₂,harr₂⟩:=ih (μ s' w₁) (hn▸hlt) s' a₁ w₁ rfl hI₁
    exact⟨e₂,a₂,w₂,hq₂,.of_steps (Steps.trans harr (.one step_inLoop)) harr₂⟩
   |exit id=>exact⟨_,a₁,w₁,hq,.pass (x:=.inLoop c) rfl (fun _ _=>.inl (by simp)) harr⟩
   |goto l=>exact⟨_,a₁,w₁,hq,.pass (x:=.inLoop c) rfl (fun _ _=>.inl (by simp)) harr⟩
   |ret=>exact⟨_,a₁,w₁,hq,.pass (x:=.inLoop c) rfl (fun _ _=>.inl (by simp)) harr⟩
   |panic ch=>exact⟨_,a₁,w₁,hq,.pass (x:=.inLoop c) rfl (fun _ _=>.inl (by simp)) harr⟩
   |outgrown=>exact⟨_,a₁,w₁,hq,.pass (x:=.inLoop c) rfl (fun _ _=>.inl (by simp)) harr⟩
 obtain⟨e,a',w',hq,harr⟩:=key _ s0 a w rfl h0
 exact⟨e,a',w',hq,.of_steps (.one step_loop) harr⟩
inductive cK where
 |n
 |two (a b:cK)
 |inn (a:cK)
 |loop (σ:aZ) (κ:aR) (a:cK)
 |join (σ:aZ) (κ:aR) (a:cK)
 |scope (l:Nat) (σ:aZ) (κ:aR) (pre rest:List cK) (fwd:List (Nat×List cK))
 |fwd (a:cK) (fwd:List (Nat×List cK))
def cK.fst:cK→cK
 | .two a _=>a
 |_=>.n
def cK.snd:cK→cK
 | .two _ b=>b
 |_=>.n
def cK.sub:cK→cK
 | .inn a=>a
 |_=>.n
abbrev QT:=Exit→Env→Heap→Prop
def ol (σ:aZ) (κ:aR) (ρ:Env) (K:σ.den→Heap→Prop) (Q:QT):QT
 | .normal,ρ',h=>bif within σ κ ρ' (ρ'.length-ρ.length)then(match σ.read ρ' with|some s=>K s h|none=>False)else False
 |e,ρ',h=>Q e ρ' h
def mL (next:Env→Heap→Prop) (Q:QT):QT
 | .normal,ρ,h=>next ρ h
 |e,ρ,h=>Q e ρ h
def uU (id:Nat) (Q:QT):QT
 | .exit i,ρ,h=>bif Nat.beq i id then Q .normal ρ h else Q (.exit i) ρ h
 |e,ρ,h=>Q e ρ h
abbrev Rec:=Code→cK→QT→Env→Heap→Prop
def jw (rec:Rec):List Code→List cK→QT→Env→Heap→Prop
 |[],_,Q,ρ,h=>Q .normal ρ h
 |c::cs,[],Q,ρ,h=>rec c .n (mL (jw rec cs [] Q) Q) ρ h
 |c::cs,x::xs,Q,ρ,h=>rec c x (mL (jw rec cs xs Q) Q) ρ h
def chain:Code→Nat→Option (List Code×List Code)
 | .seq a b,l=>match chain a l with
  |some (p,r)=>some (p,r++[b])
  |none=>match chain b l with
   |some (p,r)=>some (a::p,r)
   |none=>none
 | .label l',l=>bif Nat.beq l' l then some ([],[])else none
 |_,_=>none
def wX (fwd:List (Nat×List cK)) (l:Nat):Option (List cK):=
 match fwd with
 |[]=>none
 |p::r=>bif Nat.beq p.1 l then some p.2 else wX r l
def mM (rec:Rec) (c:Code) (fwd:List (Nat×List cK)) (Q:QT):Nat→QT
 |0=>fun _ _ _=>False
 |g+1=>fun e ρ h=>match e with
  | .goto l=>match wX fwd l with
   |some xs=>match chain c l with
    |some (_,r)=>jw rec r xs (mM rec c fwd Q g) ρ h
    |none=>False
   |none=>Q (.goto l) ρ h
  |e=>Q e ρ h
def tX (l:Nat) (σ:aZ) (κ:aR) (ρ:Env) (K:σ.den→Heap→Prop) (Q:QT):QT
 | .goto l',ρ',h=>bif Nat.beq l' l then(bif within σ κ ρ' (ρ'.length-ρ.length)then(match σ.read ρ' with|some s=>K s h|none=>False)else False)else Q (.goto l') ρ' h
 |e,ρ',h=>Q e ρ' h
def qT (c:Code) (Q:QT):QT
 | .goto l,ρ,h=>match findLabel c l with
  |none=>Q (.goto l) ρ h
  |some _=>False
 |e,ρ,h=>Q e ρ h
def qU (C:Ctx) (n:Nat) (rec:Rec) (c:Code) (ann:cK) (Q:QT) (ρ:Env) (h:Heap):Prop:=
 match ann with
 | .join σ κ a=>aD (fun s h=>Q .normal (σ.bl s (κ.over ρ)) h) (fun K=>rec c a (ol σ κ ρ K Q) ρ h)
 |ann=>match c with
  | .skip=>Q .normal ρ h
  | .label _=>Q .normal ρ h
  | .region _ ops draw=>iD C n ops draw (Q .normal) ρ h
  | .seq a b=>rec a ann.fst (mL (rec b ann.snd Q) Q) ρ h
  | .cond x a b=>match ρ.eval x with
   |some (.bool t)=>Br t (rec a ann.fst Q ρ h) (rec b ann.snd Q ρ h)
   |_=>False
  | .block id c=>rec c ann.sub (uU id Q) ρ h
  | .exit id=>Q (.exit id) ρ h
  | .goto l=>Q (.goto l) ρ h
  | .ret=>Q .ret ρ h
  | .loop c=>match ann with
   | .loop σ κ a=>match σ.read ρ with
    |some s0=>aS (fun s K h=>rec c a (ol σ κ (σ.bl s (κ.over ρ)) K Q) (σ.bl s (κ.over ρ)) h) s0 h
    |none=>False
   |_=>False
  | .scope c=>match ann with
   | .scope l σ κ pre rest fwd=>match chain c l with
    |some (p,r)=>jw rec p pre (mL (fun ρ' h'=>match σ.read ρ' with
     |some s0=>aS (fun s K h=>jw rec r rest (mM rec c fwd (tX l σ κ (σ.bl s (κ.over ρ')) K (qT c Q)) 4) (σ.bl s (κ.over ρ')) h) s0 h'
     |none=>False) (qT c Q)) ρ h
    |none=>False
   | .fwd a fwd=>rec c a (mM rec c fwd (qT c Q) 4) ρ h
   |_=>False
  |_=>False
def vc (C:Ctx) (n:Nat):Nat→Rec
 |0=>fun _ _ _ _ _=>False
 |f+1=>qU C n (vc C n f)
def mN (C:Ctx) (n:Nat) (rec:Rec):Prop:=∀(c:Code) (ann:cK) (Q:QT) (ρ:Env) (a:Act) (w:World),Fits n a ρ→rec c ann Q ρ w.heap→c.wp C.P (Out n Q ρ a w) a w
section
variable {C:Ctx} {n:Nat} {Q:QT} {ρ ρ':Env} {a a':Act} {w w':World}
theorem Out.base {e:Exit} {a'':Act} {w'':World} (hx:Ext ρ ρ' a a') (hl:aL w w') (h:Out n Q ρ' a' w' e a'' w''):Out n Q ρ a w e a'' w'':=by
 obtain⟨ρ'',h1,h2,h3,h4⟩:=h
 exact⟨ρ'',h1,hx.trans h2,hl.trans h3,h4⟩
theorem Out.then {next:Env→Heap→Prop} {N:Act→World→Prop} {Q':Exit→Act→World→Prop} {e:Exit} {a'':Act} {w'':World} (h:Out n (mL next Q) ρ a w e a'' w'')
  (hn:∀ρ',Fits n a'' ρ'→Ext ρ ρ' a a''→aL w w''→next ρ' w''.heap→N a'' w'') (hq:Out n Q ρ a w e a'' w''→e≠.normal→Q' e a'' w''):Exit.then N Q' e a'' w'':=by
 obtain⟨ρ'',h1,h2,h3,h4⟩:=h
 cases e<;>first|exact hn ρ'' h1 h2 h3 h4|exact hq ⟨ρ'',h1,h2,h3,h4⟩ (by simp)
def eV (P:Program):List Code→(Exit→Act→World→Prop)→Act→World→Prop
 |[],Q,a,w=>Q .normal a w
 |c::cs,Q,a,w=>c.wp P (Exit.then (eV P cs Q) Q) a w
theorem cW {P:Program} {Q Q':Exit→Act→World→Prop} (hq:∀e a w,Q e a w→Q' e a w):∀(l:List Code) (a:Act) (w:World),eV P l Q a w→eV P l Q' a w
 |[],_,_,h=>hq _ _ _ h
 |c::cs,a,w,h=>wp_mono h fun e a w h=>by
  cases e<;>first|exact cW hq cs a w h|exact hq _ _ _ h
theorem fH {rec:Rec} (hr:mN C n rec):∀(l:List Code) (xs:List cK) (Q:QT) (ρ:Env) (a:Act) (w:World),Fits n a ρ→jw rec l xs Q ρ w.heap→eV C.P l (Out n Q ρ a w) a w
 |[],_,Q,ρ,a,w,hf,h=>⟨ρ,hf,Ext.refl _ _,aL.refl _,h⟩
 |c::cs,[],Q,ρ,a,w,hf,h=>by
  refine wp_mono (hr c .n _ ρ a w hf h) fun e a' w' ho=>ho.then (fun ρ' x1 x2 x3 x4=>?_) (fun ho _=>ho)
  exact cW (fun e a w h=>h.base x2 x3) cs a' w' (fH hr cs [] Q ρ' a' w' x1 x4)
 |c::cs,x::xs,Q,ρ,a,w,hf,h=>by
  refine wp_mono (hr c x _ ρ a w hf h) fun e a' w' ho=>ho.then (fun ρ' x1 x2 x3 x4=>?_) (fun ho _=>ho)
  exact cW (fun e a w h=>h.base x2 x3) cs a' w' (fH hr cs xs Q ρ' a' w' x1 x4)
end
theorem jU {P:Program} {b:Code} {Q:Exit→Act→World→Prop}:∀(l:List Code) (a:Act) (w:World),eV P (l++[b]) Q a w→eV P l (Exit.then (b.wp P Q) Q) a w
 |[],a,w,h=>by
  refine wp_mono h fun e a w h=>?_
  cases e<;>exact h
 |c::cs,a,w,h=>wp_mono h fun e a w h=>by
  cases e<;>first|exact jU cs a w h|exact h
theorem gE:∀{c:Code} {l:Nat} {p r:List Code},chain c l=some (p,r)→∃k,findLabel c l=some k∧
  (∀{P:Program} {Q:Exit→Act→World→Prop} {a:Act} {w:World},eV P r Q a w→k.wp P Q a w)∧
  (∀{P:Program} {Q:Exit→Act→World→Prop} {a:Act} {w:World},eV P p (Exit.then (eV P r Q) Q) a w→c.wp P Q a w)
 | .seq x y,l,p,r,h=>by
  simp only[chain]at h
  split at h
  ·rename_i p' r' hx
   cases h
   obtain⟨k,h1,h2,h3⟩:=gE hx
   refine⟨.seq k y,by simp[findLabel,h1],fun{P Q a w} h=>wp_seq (h2 (jU r' a w h)),fun{P Q a w} h=>wp_seq (h3 ?_)⟩
   refine cW (fun e a w hh=>?_) p a w h
   cases e<;>first|exact jU r' a w hh|exact hh
  ·rename_i hx
   split at h
   ·rename_i p' r' hy
    cases h
    obtain⟨k,h1,h2,h3⟩:=gE hy
    have hn:findLabel x l=none:=by
     clear h1 h2 h3 hy
     induction x with
     |seq a b iha ihb=>
      simp only[chain]at hx
      split at hx
      ·cases hx
      ·rename_i ha
       split at hx
       ·cases hx
       ·rename_i hb
        simp[findLabel,iha ha,ihb hb]
     |label l'=>
      simp only[chain]at hx
      cases hb:Nat.beq l' l with
      |true=>rw[hb]at hx;cases hx
      |false=>
       have:¬l'=l:=fun e=>by subst e;simp at hb
       simp[findLabel,this]
     |_=>rfl
    refine⟨k,by simp[findLabel,hn,h1],h2,fun{P Q a w} h=>wp_seq (wp_mono h fun e a w hh=>?_)⟩
    cases e<;>first|exact h3 hh|exact hh
   ·cases h
 | .label l',l,p,r,h=>by
  simp only[chain]at h
  cases hb:Nat.beq l' l with
  |false=>rw[hb]at h;cases h
  |true=>
   rw[hb]at h
   cases h
   have:=Nat.eq_of_beq_eq_true hb
   subst this
   exact⟨.skip,by simp[findLabel],fun h=>wp_skip h,fun h=>wp_label h⟩
 | .skip,_,_,_,h=>by cases h
 | .region ..,_,_,_,h=>by cases h
 | .cond ..,_,_,_,h=>by cases h
 | .block ..,_,_,_,h=>by cases h
 | .loop _,_,_,_,h=>by cases h
 | .rangeFunc ..,_,_,_,h=>by cases h
 | .exit _,_,_,_,h=>by cases h
 | .scope _,_,_,_,h=>by cases h
 | .goto _,_,_,_,h=>by cases h
 | .ret,_,_,_,h=>by cases h
 | .refuse _,_,_,_,h=>by cases h
end Go.Vc
namespace Go.Vc
open Go
section
variable {P:Program} {c:Code} {Q:Exit→Act→World→Prop} {b:Frame} {k:List Item} {cs:List Frame}
def Reach (P:Program) (c:Code) (Q:Exit→Act→World→Prop) (b:Frame) (k:List Item) (cs:List Frame) (a:Act) (w:World) (r:Code):Prop:=
 ∃e a' w',Q e a' w'∧Arrives P (lone (b.at a (.code r::.inScope c::k)) cs w) b k cs e a' w'
def Good (P:Program) (c:Code) (Q:Exit→Act→World→Prop) (b:Frame) (k:List Item) (cs:List Frame):Exit→Act→World→Prop
 | .goto l,a,w=>match findLabel c l with
  |some r=>Reach P c Q b k cs a w r
  |none=>Q (.goto l) a w
 |e,a,w=>Q e a w
theorem qV {m:Machine} {e:Exit} {a:Act} {w:World} (hg:Good P c Q b k cs e a w) (harr:Arrives P m b (.inScope c::k) cs e a w):
  ∃e a' w',Q e a' w'∧Arrives P m b k cs e a' w':=by
 cases e with
 |normal=>exact⟨.normal,a,w,hg,Steps.trans harr (.one step_inScope)⟩
 |exit id=>exact⟨.exit id,a,w,hg,fun k' hk=>harr k' (by simp[exitTo,hk])⟩
 |goto l=>
  simp only[Good]at hg
  cases hf:findLabel c l with
  |none=>
   rw[hf]at hg
   exact⟨.goto l,a,w,hg,fun k' hk=>harr k' (by simp[gotoIn,hf,hk])⟩
  |some r=>
   rw[hf]at hg
   obtain⟨e₂,a₂,w₂,hq₂,harr₂⟩:=hg
   exact⟨e₂,a₂,w₂,hq₂,.of_steps (harr _ (by simp[gotoIn,hf])) harr₂⟩
 |ret=>exact⟨_,a,w,hg,harr⟩
 |panic ch=>exact⟨_,a,w,hg,harr⟩
 |outgrown=>exact⟨_,a,w,hg,harr⟩
theorem qW {r:Code} {a:Act} {w:World} (h:r.wp P (Good P c Q b k cs) a w):Reach P c Q b k cs a w r:=by
 obtain⟨e,a',w',hq,harr⟩:=h b (.inScope c::k) cs
 exact qV hq harr
theorem lq {a:Act} {w:World} (h:∀b k cs,c.wp P (Good P c Q b k cs) a w):(Code.scope c).wp P Q a w:=by
 intro b k cs
 obtain⟨e,a₁,w₁,hq,harr⟩:=h b k cs b (.inScope c::k) cs
 obtain⟨e',a',w',h1,h2⟩:=qV hq harr
 exact⟨e',a',w',h1,.of_steps (.one step_scope) h2⟩
end
section
variable {C:Ctx} {n:Nat} {rec:Rec}
theorem kL (hr:mN C n rec) {c:Code} {fwd:List (Nat×List cK)} {Q2:QT} {Qo:Exit→Act→World→Prop} {b:Frame} {k:List Item} {cs:List Frame} {ρ:Env} {a0:Act} {w0:World}
  (hQ:∀e ρ1 a1 w1,Fits n a1 ρ1→Ext ρ ρ1 a0 a1→aL w0 w1→Q2 e ρ1 w1.heap→Good C.P c Qo b k cs e a1 w1):
  ∀(g:Nat) (e:Exit) (ρ1:Env) (a1:Act) (w1:World),Fits n a1 ρ1→Ext ρ ρ1 a0 a1→aL w0 w1→mM rec c fwd Q2 g e ρ1 w1.heap→Good C.P c Qo b k cs e a1 w1
 |0,_,_,_,_,_,_,_,h=>h.elim
 |g+1,e,ρ1,a1,w1,hf,hx,hl,h=>by
  cases e with
  |goto l=>
   simp only[mM]at h
   split at h
   ·split at h
    ·rename_i p r hch
     obtain⟨kk,h1,h2,_⟩:=gE hch
     simp only[Good,h1]
     refine qW (h2 ?_)
     refine cW (fun e a w ho=>?_) _ _ _ (fH hr _ _ _ ρ1 a1 w1 hf h)
     obtain⟨ρ2,y1,y2,y3,y4⟩:=ho
     exact kL hr hQ g e ρ2 a w y1 (hx.trans y2) (hl.trans y3) y4
    ·exact h.elim
   ·exact hQ _ _ _ _ hf hx hl h
  |normal=>exact hQ _ _ _ _ hf hx hl h
  |exit id=>exact hQ _ _ _ _ hf hx hl h
  |ret=>exact hQ _ _ _ _ hf hx hl h
  |panic ch=>exact hQ _ _ _ _ hf hx hl h
  |outgrown=>exact hQ _ _ _ _ hf hx hl h
theorem fv {c:Code} {Q:QT} {b:Frame} {k:List Item} {cs:List Frame} {ρ:Env} {a0:Act} {w0:World} {e:Exit} {ρ1:Env} {a1:Act} {w1:World}
  (hf:Fits n a1 ρ1) (hx:Ext ρ ρ1 a0 a1) (hl:aL w0 w1) (h:qT c Q e ρ1 w1.heap):Good C.P c (Out n Q ρ a0 w0) b k cs e a1 w1:=by
 cases e with
 |goto l=>
  simp only[qT]at h
  simp only[Good]
  split at h
  ·rename_i hn;simp only[hn];exact⟨ρ1,hf,hx,hl,h⟩
  ·exact h.elim
 |normal=>exact⟨ρ1,hf,hx,hl,h⟩
 |exit id=>exact⟨ρ1,hf,hx,hl,h⟩
 |ret=>exact⟨ρ1,hf,hx,hl,h⟩
 |panic ch=>exact⟨ρ1,hf,hx,hl,h⟩
 |outgrown=>exact⟨ρ1,hf,hx,hl,h⟩
theorem pL {a:Act} {σ:aZ} {κ:aR} {ρ:Env} {s:σ.den} (hf:Fits n a ρ) (hr:σ.read ρ=some s):Fits n a (σ.bl s (κ.over ρ))∧Ext ρ (σ.bl s (κ.over ρ)) a a:=
 hf.gk hf (fun _ _ _=>rfl) hr
theorem sx (hr:mN C n rec) {c:Code} {l:Nat} {σ:aZ} {κ:aR} {pre rest:List cK} {fwd:List (Nat×List cK)} {p r:List Code} (hc:chain c l=some (p,r)) {Q:QT} {ρ:Env} {a:Act} {w:World} (hf:Fits n a ρ)
  (h:jw rec p pre (mL (fun ρ' h'=>match σ.read ρ' with
     |some s0=>aS (fun s K h=>jw rec r rest (mM rec c fwd (tX l σ κ (σ.bl s (κ.over ρ')) K (qT c Q)) 4) (σ.bl s (κ.over ρ')) h) s0 h'
     |none=>False) (qT c Q)) ρ w.heap):(Code.scope c).wp C.P (Out n Q ρ a w) a w:=by
 refine lq fun b k cs=>?_
 obtain⟨kk,h1,h2,h3⟩:=gE hc
 refine h3 (cW (fun e a' w' ho=>?_) _ _ _ (fH hr _ _ _ ρ a w hf h))
 refine ho.then (fun ρ' x1 x2 x3 x4=>?_) (fun ho _=>?_)
 ·split at x4
  ·rename_i s0 hs0
   obtain⟨τ,V,I,μ,t0,e0,hI,hround⟩:=x4
   subst e0
   have hhead:=pL (κ:=κ) x1 hs0
   have body:∀(m:Nat) (t:τ) (a1:Act) (w1:World),μ t=m→I t w1.heap→Fits n a1 (σ.bl (V t) (κ.over ρ'))→Ext ρ' (σ.bl (V t) (κ.over ρ')) a' a1→aL w' w1→
     eV C.P r (Good C.P c (Out n Q ρ a w) b k cs) a1 w1:=by
    intro m
    induction m using Nat.strongRecOn with
    |_ m ih=>
     intro t a1 w1 hm hIs hf1 hx1 hl1
     refine cW (fun e a2 w2 ho=>?_) _ _ _ (fH hr _ _ _ _ a1 w1 hf1 (hround t w1.heap hIs))
     obtain⟨ρ2,y1,y2,y3,y4⟩:=ho
     refine kL hr (ρ:=σ.bl (V t) (κ.over ρ')) (a0:=a1) (w0:=w1) (fun e ρ3 a3 w3 z1 z2 z3 z4=>?_) 4 e ρ2 a2 w2 y1 y2 y3 y4
     cases e with
     |goto l'=>
      simp only[tX]at z4
      cases hb:Nat.beq l' l with
      |false=>
       rw[hb]at z4
       exact fv z1 (x2.trans (hx1.trans z2)) (x3.trans (hl1.trans z3)) z4
      |true=>
       rw[hb]at z4
       have:=Nat.eq_of_beq_eq_true hb
       subst this
       simp only[Good,h1]
       cases hw:within σ κ ρ3 (ρ3.length-(σ.bl (V t) (κ.over ρ')).length)with
       |false=>rw[hw]at z4;exact z4.elim
       |true=>
        rw[hw]at z4
        simp only[cond_true]at z4
        split at z4
        ·rename_i s' hs'
         have hsame:∀t,σ.has t=false→(κ.over []).bi t=false→a3.tmps[t]?=a'.tmps[t]?:=fun t q1 q2=>by
          rw[z2.within hw t q1 q2,hx1.gk t q1 q2]
         obtain⟨u1,u2⟩:=x1.gk (κ:=κ) z1 hsame hs'
         obtain⟨t',e1,i1,i2⟩:=z4
         subst e1
         exact qW (h2 (ih _ (by rw[←hm];exact i2) t' a3 w3 rfl i1 u1 u2 (hl1.trans z3)))
        ·exact z4.elim
     |normal=>exact fv z1 (x2.trans (hx1.trans z2)) (x3.trans (hl1.trans z3)) z4
     |exit id=>exact fv z1 (x2.trans (hx1.trans z2)) (x3.trans (hl1.trans z3)) z4
     |ret=>exact fv z1 (x2.trans (hx1.trans z2)) (x3.trans (hl1.trans z3)) z4
     |panic ch=>exact fv z1 (x2.trans (hx1.trans z2)) (x3.trans (hl1.trans z3)) z4
     |outgrown=>exact fv z1 (x2.trans (hx1.trans z2)) (x3.trans (hl1.trans z3)) z4
   exact body _ t0 a' w' rfl hI hhead.1 hhead.2 (aL.refl _)
  ·exact x4.elim
 ·obtain⟨ρ1,y1,y2,y3,y4⟩:=ho
  exact fv y1 y2 y3 y4
theorem xw (hC:C.Ok) (hr:mN C n rec):mN C n (qU C n rec):=by
 intro c ann Q ρ a w hf h
 have joined:∀{σ:aZ} {κ:aR} {K:σ.den→Heap→Prop} {e:Exit} {a':Act} {w':World},Out n (ol σ κ ρ K Q) ρ a w e a' w'→(∀s h,K s h→Q .normal (σ.bl s (κ.over ρ)) h)→Out n Q ρ a w e a' w':=by
  intro σ κ K e a' w' ho hk
  obtain⟨ρ',x1,x2,x3,x4⟩:=ho
  cases e with
  |normal=>
   simp only[ol]at x4
   cases hw:within σ κ ρ' (ρ'.length-ρ.length)with
   |false=>rw[hw]at x4;exact x4.elim
   |true=>
    rw[hw]at x4
    simp only[cond_true]at x4
    split at x4
    ·rename_i s hs
     obtain⟨u1,u2⟩:=hf.gk (κ:=κ) x1 (x2.within hw) hs
     exact⟨_,u1,u2,x3,hk _ _ x4⟩
    ·exact x4.elim
  |exit id=>exact⟨ρ',x1,x2,x3,x4⟩
  |goto l=>exact⟨ρ',x1,x2,x3,x4⟩
  |ret=>exact⟨ρ',x1,x2,x3,x4⟩
  |panic ch=>exact⟨ρ',x1,x2,x3,x4⟩
  |outgrown=>exact⟨ρ',x1,x2,x3,x4⟩
 unfold qU at h
 split at h
 ·rename_i σ κ x
  obtain⟨K,hK,hB⟩:=h
  exact wp_mono (hr c x _ ρ a w hf hB) fun e a' w' ho=>joined ho hK
 ·split at h
  ·exact wp_skip ⟨ρ,hf,Ext.refl _ _,aL.refl _,h⟩
  ·exact wp_label ⟨ρ,hf,Ext.refl _ _,aL.refl _,h⟩
  ·exact wp_mono (qS hC hf h) fun e a' w' ho=>ho.2
  ·rename_i x y
   refine wp_seq (wp_mono (hr x _ _ ρ a w hf h) fun e a' w' ho=>ho.then (fun ρ' x1 x2 x3 x4=>?_) (fun ho _=>ho))
   exact wp_mono (hr y _ _ ρ' a' w' x1 x4) fun e a'' w'' ho=>ho.base x2 x3
  ·rename_i x y z
   split at h
   ·rename_i t ht
    refine wp_cond_split (hf.eval ht) (fun e=>?_) (fun e=>?_)
    ·subst e;exact hr y _ _ ρ a w hf h
    ·subst e;exact hr z _ _ ρ a w hf h
   ·exact h.elim
  ·rename_i id x
   refine wp_block (wp_mono (hr x _ _ ρ a w hf h) fun e a' w' ho=>?_)
   obtain⟨ρ',x1,x2,x3,x4⟩:=ho
   cases e with
   |exit i=>
    simp only[Exit.inBlock]
    simp only[uU]at x4
    cases hb:Nat.beq i id with
    |true=>
     rw[hb]at x4
     rw[if_pos (Nat.eq_of_beq_eq_true hb)]
     exact⟨ρ',x1,x2,x3,x4⟩
    |false=>
     rw[hb]at x4
     rw[if_neg (fun e=>by subst e;simp at hb)]
     exact⟨ρ',x1,x2,x3,x4⟩
   |normal=>exact⟨ρ',x1,x2,x3,x4⟩
   |goto l=>exact⟨ρ',x1,x2,x3,x4⟩
   |ret=>exact⟨ρ',x1,x2,x3,x4⟩
   |panic ch=>exact⟨ρ',x1,x2,x3,x4⟩
   |outgrown=>exact⟨ρ',x1,x2,x3,x4⟩
  ·exact wp_exit ⟨ρ,hf,Ext.refl _ _,aL.refl _,h⟩
  ·exact wp_goto ⟨ρ,hf,Ext.refl _ _,aL.refl _,h⟩
  ·exact wp_ret ⟨ρ,hf,Ext.refl _ _,aL.refl _,h⟩
  ·rename_i x
   split at h
   ·rename_i σ κ y _
    split at h
    ·rename_i s0 hs0
     obtain⟨τ,V,I,μ,t0,e0,hI,hround⟩:=h
     subst e0
     have hhead:=pL (κ:=κ) hf hs0
     refine uT (σ:=τ) (fun t a1 w1=>Fits n a1 (σ.bl (V t) (κ.over ρ))∧Ext ρ (σ.bl (V t) (κ.over ρ)) a a1∧aL w w1∧I t w1.heap) (fun t _=>μ t) t0 ⟨hhead.1,hhead.2,aL.refl _,hI⟩ ?_
     rintro t a1 w1 ⟨z1,z2,z3,z4⟩
     refine wp_mono (hr x y _ _ a1 w1 z1 (hround t _ z4)) fun e a2 w2 ho=>?_
     obtain⟨ρ',x1,x2,x3,x4⟩:=ho
     cases e with
     |normal=>
      simp only[ol]at x4
      cases hw:within σ κ ρ' (ρ'.length-(σ.bl (V t) (κ.over ρ)).length)with
      |false=>rw[hw]at x4;exact x4.elim
      |true=>
       rw[hw]at x4
       simp only[cond_true]at x4
       split at x4
       ·rename_i s' hs'
        have hsame:∀t,σ.has t=false→(κ.over []).bi t=false→a2.tmps[t]?=a.tmps[t]?:=fun t q1 q2=>by
         rw[x2.within hw t q1 q2,z2.gk t q1 q2]
        obtain⟨u1,u2⟩:=hf.gk (κ:=κ) x1 hsame hs'
        obtain⟨t',e1,i1,i2⟩:=x4
        subst e1
        exact⟨t',⟨u1,u2,z3.trans x3,i1⟩,i2⟩
       ·exact x4.elim
     |exit id=>exact⟨ρ',x1,z2.trans x2,z3.trans x3,x4⟩
     |goto l=>exact⟨ρ',x1,z2.trans x2,z3.trans x3,x4⟩
     |ret=>exact⟨ρ',x1,z2.trans x2,z3.trans x3,x4⟩
     |panic ch=>exact⟨ρ',x1,z2.trans x2,z3.trans x3,x4⟩
     |outgrown=>exact⟨ρ',x1,z2.trans x2,z3.trans x3,x4⟩
    ·exact h.elim
   ·exact h.elim
  ·rename_i x
   split at h
   ·split at h
    ·rename_i p r hc
     exact sx hr hc hf h
    ·exact h.elim
   ·refine lq fun b k cs=>wp_mono (hr x _ _ ρ a w hf h) fun e a' w' ho=>?_
    obtain⟨ρ',x1,x2,x3,x4⟩:=ho
    exact kL hr (ρ:=ρ) (a0:=a) (w0:=w) (fun e ρ3 a3 w3 z1 z2 z3 z4=>fv z1 z2 z3 z4) 4 e ρ' a' w' x1 x2 x3 x4
   ·exact h.elim
  ·exact h.elim
theorem qX (hC:C.Ok):∀f,mN C n (vc C n f)
 |0=>fun _ _ _ _ _ _ _ h=>h.elim
 |f+1=>xw hC (qX hC f)
end
end Go.Vc
namespace Go.Vc
open Go
def lU (C:Ctx) (ρ:Env):List ResultVar→(List Value→Prop)→Heap→Prop
 |[],K,_=>K []
 | .tmp t::r,K,h=>match ρ.get t with
  |some v=>lU C ρ r (fun vs=>K (v::vs)) h
  |none=>False
 | .cell a t::r,K,h=>match iI C.T (.load t (.tmp a)) ρ.eval with
  |some q=>∃y:q.ty.den,q.holds h y∧lU C ρ r (fun vs=>K (q.ty.enc y::vs)) h
  |none=>False
def lV:List Value→Value
 |[v]=>v
 |vs=>.tuple vs.toArray
def zE (C:Ctx) (rs:List ResultVar) (R:Value→Heap→Prop):QT
 | .normal,ρ,h=>lU C ρ rs (fun vs=>R (lV vs) h) h
 | .ret,ρ,h=>lU C ρ rs (fun vs=>R (lV vs) h) h
 |_,_,_=>False
def kj:Nat→List Value→Env
 |_,[]=>[]
 |n,v::r=>.val n v::kj (n+1) r
def yg (C:Ctx) (fn:Func) (fuel:Nat) (ann:cK) (args:List Value) (R:Value→Heap→Prop) (h:Heap):Prop:=
 match fn.body with
 |some c=>vc C fn.ntmps fuel c ann (zE C fn.results.toList R) (kj 0 args) h
 |none=>False
theorem kM:∀{args:List Value} {n t:Nat} {v:Value},(kj n args).get t=some v→n≤t∧args[t-n]?=some v
 |[],_,_,_,h=>by cases h
 |u::r,n,t,v,h=>by
  simp only[kj,Env.get]at h
  cases hb:Nat.beq n t with
  |true=>
   rw[hb]at h
   have:=Nat.eq_of_beq_eq_true hb
   subst this
   simpa using h
  |false=>
   rw[hb]at h
   obtain⟨h1,h2⟩:=kM (args:=r) h
   refine⟨by omega,?_⟩
   obtain⟨k,hk⟩:∃k,t-n=k+1:=⟨t-(n+1),by omega⟩
   rw[hk,List.getElem?_cons_succ]
   have:t-(n+1)=k:=by omega
   rw[←this];exact h2
theorem wn {C:kh} (hC:C.Ok) {ev:Operand→Option Value} {e:Operand→Value} (he:∀x v,ev x=some v→e x=v) {t:TypeId} {x:Operand} {q:jv}
  (hq:iI C.T (.load t x) ev=some q) {y:q.ty.den} {w:World} (hy:q.holds w.heap y):(Instr.loadAt t (e x)).run C.P w=.ok (q.ty.enc y) w:=by
 have h1:(do pure (Next.value (←Instr.loadAt t (e x))):Sem Next).run C.P w=.ok (.value (q.ty.enc y)) w:=kH hC he (o:=⟨none,.load t x,0, "",#[],none⟩) hq hy
 rw[Sem.run_bind]at h1
 cases hr:(Instr.loadAt t (e x)).run C.P w with
 |halt a b=>rw[hr]at h1;cases h1
 |ok v w'=>
  rw[hr]at h1
  simp only[Result.andThen_ok]at h1
  cases h1
  rfl
theorem lW {C:Ctx} (hC:C.Ok) {n:Nat} {a:Act} {ρ:Env} (hf:Fits n a ρ):∀{rs:List ResultVar} {K:List Value→Prop} {w:World},lU C ρ rs K w.heap→
  ∃vs,(rs.mapM (fun| .tmp t=>pure (a.tmps.getD t undef)| .cell x t=>(do loadVar t (←asAddr (a.tmps.getD x undef)):Sem Value)):Sem (List Value)).run C.P w=.ok vs w∧K vs
 |[],K,w,h=>⟨[],rfl,h⟩
 | .tmp t::r,K,w,h=>by
  simp only[lU]at h
  split at h
  ·rename_i v hv
   obtain⟨vs,h1,h2⟩:=lW hC hf h
   refine⟨v::vs,?_,h2⟩
   have hg:a.tmps.getD t undef=v:=by simp[Array.getD_eq_getD_getElem?,hf.get t v hv]
   rw[List.mapM_cons,Sem.run_bind,Sem.run_pure,Result.andThen_ok,Sem.run_bind,h1,hg]
   rfl
  ·exact h.elim
 | .cell x t::r,K,w,h=>by
  simp only[lU]at h
  split at h
  ·rename_i q hq
   obtain⟨y,hy,h⟩:=h
   obtain⟨vs,h1,h2⟩:=lW hC hf h
   refine⟨q.ty.enc y::vs,?_,h2⟩
   have hl:=wn hC.toOk (e:=a.eval) (fun x v h=>hf.eval h) hq hy
   have hx:∃ad,a.eval (.tmp x)=.pointer (some ad):=by
    unfold iI at hq
    simp only at hq
    split at hq
    ·rename_i ad had;exact⟨ad,hf.eval had⟩
    ·cases hq
   obtain⟨ad,had⟩:=hx
   have hg:a.tmps.getD x undef=.pointer (some ad):=had
   rw[had]at hl
   rw[List.mapM_cons,Sem.run_bind]
   simp only[hg]
   have hl':(do loadVar t (←asAddr (.pointer (some ad))):Sem Value).run C.P w=.ok (q.ty.enc y) w:=hl
   rw[hl',Result.andThen_ok,Sem.run_bind,h1]
   rfl
  ·exact h.elim
theorem xx {C:Ctx} (hC:C.Ok) {f:FuncId} {fn:Func} (hf:C.P.funcs[f]?=some fn) {fuel:Nat} {ann:cK} {args:List Value} (hn:args.length≤fn.ntmps) {R:Value→Heap→Prop} {h:Heap}
  (hv:yg C fn fuel ann args R h):ae C.P f args.toArray h R:=by
 rintro w rfl
 unfold yg at hv
 split at hv
 ·rename_i c hc
  refine calls_of_wp hf hc ?_
  have hfits:Fits fn.ntmps {tmps:=args.toArray++Array.replicate (fn.ntmps-args.toArray.size) undef,defers:=[]} (kj 0 args):=by
   refine⟨by simp;omega,rfl,fun t v ht=>?_⟩
   obtain⟨_,h2⟩:=kM ht
   rw[Nat.sub_zero]at h2
   have hlt:t<args.length:=(List.getElem?_eq_some_iff.1 h2).1
   simp only[Array.getElem?_append,List.size_toArray,hlt,if_true,List.getElem?_toArray]
   exact h2
  refine wp_mono (qX hC fuel c ann _ _ _ w hfits hv) fun e a' w' ho=>?_
  obtain⟨ρ',x1,x2,x3,x4⟩:=ho
  have fin:lU C ρ' fn.results.toList (fun vs=>R (lV vs) w'.heap) w'.heap→a'.defers=[]∧∃v,(results fn a'.tmps).run C.P w'=.ok v w'∧(∃v',Ending.returned v=.returned v'∧aL w w'∧R v' w'.heap):=fun hr=>by
   obtain⟨vs,h1,h2⟩:=lW hC x1 hr
   refine⟨x1.defers,lV vs,?_,lV vs,rfl,x3,h2⟩
   unfold results
   rw[Array.mapM_eq_mapM_toList,map_eq_pure_bind,bind_assoc,Sem.run_bind]
   refine(congrArg (fun r=>Result.andThen r _) h1).trans ?_
   simp only[Result.andThen_ok,pure_bind,Sem.run_pure]
   cases vs with
   |nil=>rfl
   |cons v r=>cases r<;>rfl
  cases e<;>first|exact fin x4|exact x4.elim
 ·exact hv.elim
theorem az {C:Ctx} (hC:C.Ok) {f:FuncId} {fn:Func} (hf:C.P.funcs[f]?=some fn) (ann:cK) {args:List Value} {R:Value→Heap→Prop} {h:Heap} {Q:Prop} (hm:Q)
  (hn:Nat.ble args.length fn.ntmps=true:=by kernel_rfl) (e:yg C fn 300 ann args R h=Q:=by kernel_rfl):ae C.P f args.toArray h R:=xx hC hf (Nat.le_of_ble_eq_true hn) (cast e.symm hm)
end Go.Vc
namespace Go.Vc
open Go
def au (P:Program) (s:Sem Value) (r:Rt) (h:Heap) (K:r.den→Heap→Prop):Prop:=aa P s h fun v h'=>∃x:r.den,v=r.enc x∧K x h'
def aI (P:Program) (s:Sem Value) (h:Heap) (K:Addr→Heap→Prop):Prop:=aa P s h fun v h'=>∃a:Addr,v=.pointer (some a)∧K a h'
def ah (P:Program) (f:FuncId) (args:Array Value) (r:Rt) (h:Heap) (K:r.den→Heap→Prop):Prop:=ae P f args h fun v h'=>∃x:r.den,v=r.enc x∧K x h'
def pd (C:Ctx) (g:FuncId) (args:List Value) (r:Rt) (h:Heap) (K:r.den→Heap→Prop):Prop:=
 match C.fns[g]? with
 |some true=>ah C.P g args.toArray r h K
 |_=>False
theorem om {C:Ctx} {g:FuncId} {args:List Value} {r:Rt} {h:Heap} {K:r.den→Heap→Prop} (hg:C.fns[g]?=some true) (hk:ah C.P g args.toArray r h K):pd C g args r h K:=by
 unfold pd;rw[hg];exact hk
end Go.Vc
