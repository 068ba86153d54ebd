/- Part of the proofs that the laws of this seat answer true whatever the input reads, and leave it as it was; no condition. -/
import Derived.Test.YteieadfggboeeaaGreatDoorVcA
import Derived.RangeFuncCalls
import Derived.RangeFuncLeaves
import Derived.RangeFuncRecord
import Derived.OrdersIn
import Derived.TacticsIn
set_option linter.unusedVariables false
set_option linter.unusedSimpArgs false
namespace Go.Vc
open Go
abbrev Fr (ro:Option Nat):Fence:={fn:=fun _=>True,depth:=none,alive:=false,round:=ro}
section
variable {ro:Option Nat} {n:Nat} {P:Program} {ops:Array Oper} {Q:Exit→Act→World→Prop}
theorem xE {o:Oper} {a:Act} {K:Act→World→Prop} {r:Result Next} (h:o.upon P a K Q r):o.uponIn (Fr ro) n P a K Q r:=by
 cases r with
 |ok x w'=>
  cases x with
  |value v=>exact h
  |skip=>exact h
  |defer d=>exact h
  |enter f args=>exact⟨fun h=>(by cases h),callsIn_wide (n:=n-1).2 h⟩
  |row row args=>exact⟨fun h=>(by cases h),fun c cs _=>let⟨v,w',r,s⟩:=h c cs;⟨v,w',r,stepsIn_wide.2 s⟩⟩
  |_=>exact h.elim
 |halt s w'=>cases s<;>first|exact h|exact h.elim
def kU (ops:Array Oper):Bool:=ops.toList.all fun o=>match o.op with
 | .defer _=>false
 |_=>true
theorem uk (h:kU ops=true) {i:Nat} {o:Oper} (ho:ops[i]?=some o):∀c,o.op≠.defer c:=fun c e=>by
 have:=List.all_eq_true.1 h o (Array.mem_toList_iff.2 (Array.mem_of_getElem? ho))
 rw[e]at this;cases this
theorem xd (hd:kU ops=true) (hQ:¬LetsOut Q) {i:Nat} {K K':Act→World→Prop} (hk:∀a w,K a w→K' a w) {a:Act} {w:World} (h:wpOp P ops Q i K a w):wpOpIn (Fr ro) n P ops Q i K' a w:=by
 unfold wpOp at h
 unfold wpOpIn
 cases ho:ops[i]? with
 |none=>rw[ho]at h;exact hk _ _ h
 |some o=>
  rw[ho]at h
  dsimp only at h⊢
  split
  ·rename_i hw
   rw[if_pos hw]at h
   rcases h with h|h
   ·refine⟨fun _ _=>trivial,?_⟩
    rw[Oper.semAt_eq _ _ _ (uk hd ho)]
    exact xE (Oper.wp_mono hk h)
   ·exact absurd h.2 hQ
  ·rename_i hw
   rw[if_neg hw]at h
   exact⟨fun _ _=>trivial,hk _ _ h⟩
theorem vl (hd:kU ops=true) (hQ:¬LetsOut Q):∀(l:List Nat) (a:Act) (w:World),wpOps P ops Q l a w→wpOpsIn (Fr ro) n P ops Q l a w
 |[],_,_,h=>h
 |i::r,a,w,h=>by
  rw[wpOpsIn_cons]
  rw[wpOps_cons]at h
  exact xd hd hQ (vl hd hQ r) h
theorem vm (hd:kU ops=true) (hQ:¬LetsOut Q) {md:Region.Mode}:∀(k:Nat) (l:Array Bool) (a:Act) (w:World),wpAny P md ops Q k l a w→wpAnyIn (Fr ro) n P md ops Q k l a w
 |0,_,_,_,h=>h
 |k+1,_,_,_,h=>⟨h.1,fun i hi=>xd hd hQ (vm hd hQ k _) (h.2 i hi)⟩
end
abbrev Calm (Q:QT):Prop:=∀ρ h,¬Q .outgrown ρ h
section
variable {C:Ctx} {n:Nat} {ro:Option Nat} {m:Nat}
theorem wv {Q:QT} (hq:Calm Q) {ρ:Env} {a:Act} {w:World}:¬LetsOut (Out n Q ρ a w):=by
 rintro⟨a',w',ρ',_,_,_,h⟩
 exact hq _ _ h
theorem vn (hC:C.Ok) {id:Nat} {ops:Array Oper} {draw:Bool} {Q:QT} {ρ:Env} {a:Act} {w:World} (hf:Fits n a ρ) (hd:kU ops=true) (hq:Calm Q)
  (h:iD C n ops draw (Q .normal) ρ w.heap):(Code.region id ops draw).wpIn (Fr ro) m C.P (Out n Q ρ a w) a w:=by
 have hl:¬LetsOut (fun e a' w'=>(∀c,e≠.panic c)∧Out n Q ρ a w e a' w'):=fun⟨a',w',x⟩=>wv hq ⟨a',w',x.2⟩
 refine wpIn_mono (Q:=fun e a' w'=>(∀c,e≠.panic c)∧Out n Q ρ a w e a' w') ?_ fun _ _ _ x=>x.2
 cases draw with
 |false=>
  refine wpIn_region (vl hd hl _ _ _ ?_)
  have:=lQ hC (Q:=fun e a' w'=>(∀c,e≠.panic c)∧Out n Q ρ a w e a' w') (K:=Q .normal) (ρ0:=ρ) (a0:=a) (w0:=w) (fun a' w' ρ' x1 x2 x3 x4=>⟨fun c e=>(by cases e),ρ',x1,x2,x3,x4⟩)
   ops.toList 0 (fun j=>by simp) ρ a w hf (Ext.refl _ _) (aL.refl _) h
  rw[List.range_eq_range']
  simpa using this
 |true=>
  simp only[iD]at h
  cases hb:Region.noSelect ops with
  |false=>rw[hb]at h;exact h.elim
  |true=>
   rw[hb]at h
   have h:gY C n ops (Q .normal) ops.size (Array.replicate ops.size false) [] ρ w.heap:=by
    simp only[cond_true]at h
    split at h
    ·rename_i l hl;rw[lT _ _ _ hl];exact h
    ·exact h
   refine wpIn_region_any hC.mixed (vm hd hl _ _ _ _ (kJ _ [] _ _ _ ?_))
   exact lS hC hb (Q:=fun e a' w'=>(∀c,e≠.panic c)∧Out n Q ρ a w e a' w') (ρ0:=ρ) (a0:=a) (w0:=w) (fun a' w' ρ' x1 x2 x3 x4=>⟨fun c e=>(by cases e),ρ',x1,x2,x3,x4⟩)
    (fun c a w hq=>hq.1 c rfl) _ _ [] ρ a {w with drawn:=w.drawn+1} hf (Ext.refl _ _) ⟨rfl,rfl,rfl,Nat.le_succ _⟩ (fun p hp=>by cases hp) h
def du:List Nat→Env→(List Value→Prop)→Prop
 |[],_,K=>K []
 |t::r,ρ,K=>match ρ.get t with
  |some v=>du r ρ fun vs=>K (v::vs)
  |none=>False
def cx:List Nat→List Value→Env
 |t::r,v::vs=>.val t v::cx r vs
 |_,_=>[]
theorem gP {a:Act} {ρ:Env} (hf:Fits n a ρ):∀{ts:List Nat} {K:List Value→Prop},du ts ρ K→∃vs,K vs∧Fits n a (cx ts vs)
 |[],K,h=>⟨[],h,hf.size,hf.defers,fun t x e=>by cases e⟩
 |t::r,K,h=>by
  unfold du at h
  split at h
  ·rename_i v hv
   obtain⟨vs,h1,h2⟩:=gP hf h
   refine⟨v::vs,h1,h2.size,h2.defers,fun t' x e=>?_⟩
   simp only[cx,Env.get]at e
   cases hb:Nat.beq t t' with
   |true=>
    rw[hb]at e
    cases e
    rw[←Nat.eq_of_beq_eq_true hb]
    exact hf.get t v hv
   |false=>rw[hb]at e;exact h2.get t' x e
  ·exact h.elim
def ip (i:Nat):Code→Option Code
 | .region j ops d=>bif Nat.beq i j then some (.region j ops d)else none
 | .seq a b=>match ip i a with
  |some c=>some c
  |none=>ip i b
 | .cond _ a b=>match ip i a with
  |some c=>some c
  |none=>ip i b
 | .block _ c=>ip i c
 | .loop c=>ip i c
 | .rangeFunc _ _ a b=>match ip i a with
  |some c=>some c
  |none=>ip i b
 |_=>none
def xe (f:Func) (i:Nat):Code:=match f.body with
 |some c=>(ip i c).getD .skip
 |none=>.skip
def eo (C:Ctx) (n:Nat) (c:Code) (K:Env→Heap→Prop) (ρ:Env) (h:Heap):Prop:=match c with
 | .region _ ops draw=>bif kU ops then iD C n ops draw K ρ h else False
 |_=>False
def yW (K:Env→Heap→Prop):QT
 | .normal,ρ,h=>K ρ h
 |_,_,_=>False
theorem bU (hC:C.Ok) {c:Code} {ts:List Nat} {K:List Value→Heap→Prop} {ρ:Env} {a:Act} {w:World} (hf:Fits n a ρ)
  (h:eo C n c (fun ρ' h'=>du ts ρ' fun vs=>K vs h') ρ w.heap):c.wpIn (Fr ro) m C.P (fun e a' w'=>e=.normal∧aL w w'∧∃vs,Fits n a' (cx ts vs)∧K vs w'.heap) a w:=by
 unfold eo at h
 split at h
 ·rename_i id ops draw
  cases hd:kU ops with
  |false=>rw[hd]at h;exact h.elim
  |true=>
   rw[hd]at h
   refine wpIn_mono (vn hC (Q:=yW fun ρ' h'=>du ts ρ' fun vs=>K vs h') hf hd (fun ρ h x=>x) h) ?_
   rintro e a' w' ⟨ρ',x1,_,x3,x4⟩
   cases e<;>first|exact x4.elim|skip
   obtain⟨vs,h1,h2⟩:=gP x1 x4
   exact⟨rfl,x3,vs,h2,h1⟩
 ·exact h.elim
end
end Go.Vc
