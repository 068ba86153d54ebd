/- Part of the proofs that the laws of this seat answer true whatever the input reads, and leave it as it was; no condition. -/
import Derived.Test.YtkciobclldnoiaaGreatPlG
import Derived.Test.YtkciobclldnoiaaGreatPlA
set_option linter.unusedVariables false
set_option linter.unusedSimpArgs false
namespace Wl
open Go Go.Vc
def ca (n:Int):Nat:=
 if n=0 then 0 else
  let m:=n.natAbs
  let e:=m.log2
  (if n<0 then 2^63 else 0)+(1023+e)*2^52+(m-2^e)*2^(52-e)
structure ui where
 ax:Nat
 ay:Nat
 sx:Nat
 sy:Nat
 left:Int
 leg:Int
 second:Bool
def lF:Nat:=4607182418800017408
def PN:ui:=⟨0,0,lF,0,1,1,false⟩
def kQ (a b:Nat):Nat:=(fb.add a b).getD 0
def PU (a b:Nat):Nat:=(fb.sub a b).getD 0
def nY (a b:Nat):Nat:=(fb.mul a b).getD 0
def tx (a b:Nat):Nat:=PU (nY a 0) (nY b lF)
def ty (a b:Nat):Nat:=kQ (nY a lF) (nY b 0)
def ui.on (s:ui):ui:=
 if s.left-1>0 then{s with ax:=kQ s.ax s.sx,ay:=kQ s.ay s.sy,left:=s.left-1}
 else{ax:=kQ s.ax s.sx,ay:=kQ s.ay s.sy,sx:=tx s.sx s.sy,sy:=ty s.sx s.sy,leg:=if s.second then s.leg+1 else s.leg,left:=if s.second then s.leg+1 else s.leg,second:=!s.second}
def im:Nat→ui
 |0=>PN
 |n+1=>(im n).on
def ui.ok (s:ui):Bool:=
 (fb.add s.ax s.sx).isSome&&(fb.add s.ay s.sy).isSome&&(fb.mul s.sx 0).isSome&&(fb.mul s.sy lF).isSome&&(fb.sub (nY s.sx 0) (nY s.sy lF)).isSome&&(fb.mul s.sx lF).isSome&&(fb.mul s.sy 0).isSome&&(fb.add (nY s.sx lF) (nY s.sy 0)).isSome&&decide (1≤s.left)&&decide (s.left≤100)&&decide (1≤s.leg)&&decide (s.leg≤100)
structure Fc where
 x:Int
 y:Int
 dx:Int
 dy:Int
 left:Int
 leg:Int
 turns:Int
def PW:Fc:=⟨0,0,1,0,1,1,0⟩
def Fc.on (s:Fc):Fc:=
 if s.left-1=0 then
  {x:=s.x+s.dx,y:=s.y+s.dy,dx:=-s.dy,dy:=s.dx,leg:=if(s.turns+1)%2=0 then s.leg+1 else s.leg,left:=if(s.turns+1)%2=0 then s.leg+1 else s.leg,turns:=s.turns+1}
 else{s with x:=s.x+s.dx,y:=s.y+s.dy,left:=s.left-1}
def dW:Nat→Fc
 |0=>PW
 |n+1=>(dW n).on
def Fc.ok (s:Fc):Bool:=decide (-10≤s.x)&&decide (s.x≤10)&&decide (-10≤s.y)&&decide (s.y≤10)&&decide (-1≤s.dx)&&decide (s.dx≤1)&&decide (-1≤s.dy)&&decide (s.dy≤1)&&decide (1≤s.left)&&decide (s.left≤100)&&decide (1≤s.leg)&&decide (s.leg≤100)&&decide (0≤s.turns)&&decide (s.turns≤100)
theorem PF:∀n,n<64→(im n).ok=true:=by decide+kernel
theorem OW:∀n,n<64→((im n).ax==ca (dW n).x&&(im n).ay==ca (dW n).y&&decide (-4≤(dW n).x)&&decide ((dW n).x≤4)&&decide (-4≤(dW n).y)&&decide ((dW n).y≤4))=true:=by decide+kernel
theorem OX:∀i,i<9→∀j,j<9→fb.sub (ca ((i:Nat)-4:Int)) (ca ((j:Nat)-4:Int))=some (ca ((i:Int)-(j:Int))):=by decide+kernel
theorem OY:∀i,i<17→fb.mul (ca ((i:Nat)-8:Int)) (ca ((i:Nat)-8:Int))=some (ca (((i:Nat)-8:Int)*((i:Nat)-8:Int))):=by decide+kernel
theorem OZ:∀i,i<9→∀j,j<9→fb.add (ca (((i:Nat):Int)*(i:Nat))) (ca (((j:Nat):Int)*(j:Nat)))=some (ca (((i:Nat):Int)*(i:Nat)+((j:Nat):Int)*(j:Nat))):=by decide+kernel
theorem KP:∀m,m<129→∀n,n<129→fb.order (ca (m:Nat)) (ca (n:Nat))=some (compare m n):=by decide+kernel
end Wl
namespace Wl
open Go
theorem Jr {seq number many:Int} {b:List UInt8} (hb:b.length≤48):ft (mF seq number many b)=none:=by
 unfold ft mF
 rw[KA (by decide) (by decide) (by simp[bT];omega)]
 dsimp only
 rw[if_neg (by rintro⟨h,_⟩;exact absurd h (by decide))]
theorem G1 {m:aF} {c:List UInt8} (h:c∈bh m):ft c=none:=by
 unfold bh at h
 obtain⟨i,_,rfl⟩:=List.mem_map.1 h
 exact Jr (by simp;omega)
theorem Js (m n:aF):(bh n).filterMap (gD m)=[]:=by
 rw[List.filterMap_eq_nil_iff]
 intro c hc
 unfold gD
 rw[G1 hc]
end Wl
namespace Wl
open Go
end Wl
namespace Wl
open Go
theorem C6 {α:Type} {R:α→α→Prop} (tr:∀a b c,R a b→R b c→R a c) {l:List α} (h:∀i (hi:i+1<l.length),R (l[i]'(by omega)) l[i+1]):l.Pairwise R:=by
 have key:∀d i (hj:i+(d+1)<l.length),R (l[i]'(by omega)) l[i+(d+1)]:=by
  intro d
  induction d with
  |zero=>exact fun i hj=>h i hj
  |succ d ih=>exact fun i hj=>tr _ _ _ (ih i (by omega)) (h (i+(d+1)) (by omega))
 refine List.pairwise_iff_getElem.2 fun i j hi hj hij=>?_
 have:=key (j-i-1) i (by omega)
 have e:i+(j-i-1+1)=j:=by omega
 simp only[e]at this
 exact this
theorem C7 {α:Type} {R:α→α→Prop} {l:List α} (h:l.Pairwise R) (i:Nat) (hi:i+1<l.length):R (l[i]'(by omega)) l[i+1]:=List.pairwise_iff_getElem.1 h i (i+1) (by omega) hi (by omega)
theorem iE {α:Type} {l:List α} {i:Nat} (d:α) (h:i<l.length):l.getD i d=l[i]:=by rw[List.getD_eq_getElem?_getD,List.getElem?_eq_getElem h];rfl
theorem ju (n a b:Int):dG n a b=true↔a≤n∧n≤b:=by unfold dG;rw[Bool.and_eq_true,decide_eq_true_eq,decide_eq_true_eq]
theorem KQ (l:List Int) (most:Int):lB l most=true↔l.Pairwise (·<·)∧∀x∈l,0≤x∧x≤most:=by
 unfold lB
 rw[List.all_eq_true]
 constructor
 ·intro h
  have hr:∀i (hi:i<l.length),(0≤l[i]∧l[i]≤most)∧(i=0∨l.getD (i-1) 0<l[i]):=fun i hi=>by
   have:=h i (List.mem_range.2 hi)
   unfold gA at this
   rw[iE 0 hi,Bool.and_eq_true,ju,Bool.or_eq_true,decide_eq_true_eq,decide_eq_true_eq]at this
   exact this
  refine⟨C6 (R:=fun a b:Int=>a<b) (fun a b c h1 h2=>Int.lt_trans h1 h2) fun i hi=>?_,fun x hx=>?_⟩
  ·rcases(hr (i+1) hi).2 with h0|h0
   ·omega
   ·rw[Nat.add_sub_cancel,iE 0 (by omega)]at h0;exact h0
  ·obtain⟨i,hi,rfl⟩:=List.getElem_of_mem hx
   exact(hr i hi).1
 ·rintro⟨h1,h2⟩ i hi
  have hi:=List.mem_range.1 hi
  unfold gA
  rw[iE 0 hi,Bool.and_eq_true,ju,Bool.or_eq_true,decide_eq_true_eq,decide_eq_true_eq]
  refine⟨h2 _ (List.getElem_mem hi),?_⟩
  cases i with
  |zero=>exact .inl rfl
  |succ i=>exact .inr (by rw[Nat.add_sub_cancel,iE 0 (by omega)];exact C7 h1 i hi)
theorem Fe (a b c:ByteArray) (h1:dB a b=true) (h2:dB b c=true):dB a c=true:=xu _ _ _ h1 h2
theorem eK (m:aF):bO m=true↔iw m=true∧m.drives.Pairwise (·<·)∧(∀k∈m.drives,0≤k∧k≤63)∧m.aJ.length≤12∧(∀e∈m.aJ,fw m e=true)∧m.aJ.Pairwise (fun a b=>dB a.name b.name=true)∧m.aJ.Pairwise (fun a b=>a.object≠b.object):=by
 unfold bO
 rw[Bool.and_eq_true,Bool.and_eq_true,Bool.and_eq_true,KQ,decide_eq_true_eq,List.all_eq_true]
 have key:(∀i∈List.range m.aJ.length,lC m i=true)↔(∀e∈m.aJ,fw m e=true)∧m.aJ.Pairwise (fun a b=>dB a.name b.name=true)∧m.aJ.Pairwise (fun a b=>a.object≠b.object):=by
  constructor
  ·intro h
   have hr:∀i (hi:i<m.aJ.length),fw m m.aJ[i]=true∧(i=0∨dB (lA m.aJ (i-1)).name m.aJ[i].name=true)∧∀y∈m.aJ.take i,y.object≠m.aJ[i].object:=fun i hi=>by
    have:=h i (List.mem_range.2 hi)
    unfold lC at this
    rw[kP hi,Bool.and_eq_true,Bool.and_eq_true,Bool.or_eq_true,decide_eq_true_eq,Bool.not_eq_true',List.any_eq_false]at this
    exact⟨this.1,this.2.1,fun y hy=>by have:=this.2.2 y hy;simpa using this⟩
   refine⟨fun e he=>?_,C6 (R:=fun a b:cK=>dB a.name b.name=true) (fun a b c h1 h2=>Fe _ _ _ h1 h2) fun i hi=>?_,List.pairwise_iff_getElem.2 fun i j hi hj hij=>?_⟩
   ·obtain⟨i,hi,rfl⟩:=List.getElem_of_mem he;exact(hr i hi).1
   ·rcases(hr (i+1) hi).2.1 with h0|h0
    ·omega
    ·rw[Nat.add_sub_cancel,kP (by omega)]at h0;exact h0
   ·refine(hr j hj).2.2 m.aJ[i] ?_
    exact List.mem_take_iff_getElem.2 ⟨i,by omega,rfl⟩
  ·rintro⟨h1,h2,h3⟩ i hi
   have hi:=List.mem_range.1 hi
   unfold lC
   rw[kP hi,Bool.and_eq_true,Bool.and_eq_true,Bool.or_eq_true,decide_eq_true_eq,Bool.not_eq_true',List.any_eq_false]
   refine⟨h1 _ (List.getElem_mem hi),?_,fun y hy=>?_⟩
   ·cases i with
    |zero=>exact .inl rfl
    |succ i=>exact .inr (by rw[Nat.add_sub_cancel,kP (by omega)];exact C7 h2 i hi)
   ·obtain⟨j,hj,rfl⟩:=List.mem_take_iff_getElem.1 hy
    have:=List.pairwise_iff_getElem.1 h3 j i (by omega) hi (by omega)
    simpa using this
 rw[key]
 constructor
 ·rintro⟨a,⟨b,c⟩,d,e,f,g⟩;exact⟨a,b,c,d,e,f,g⟩
 ·rintro⟨a,b,c,d,e,f,g⟩;exact⟨a,⟨b,c⟩,d,e,f,g⟩
theorem gV (m:aF):iw m=true↔(1≤m.seq∧m.seq≤2147483647)∧(0≤m.next∧m.next≤16777216)∧bU m.p=true∧0≤m.extra∧m.extra≤16:=by
 unfold iw
 rw[Bool.and_eq_true,Bool.and_eq_true,Bool.and_eq_true,ju,ju,ju]
theorem mH (m:aF) (x:cK):fw m x=true↔gS x.name=true∧(0≤x.object∧x.object<m.next)∧(0≤x.length∧x.length≤m.p.1*m.p.2.2*8)∧(∀t∈x.tries,0≤t∧t≤15)∧(x.tries.length:Int)=countP m.p x.length:=by
 unfold fw
 rw[Bool.and_eq_true,Bool.and_eq_true,Bool.and_eq_true,Bool.and_eq_true,ju,ju,List.all_eq_true,decide_eq_true_eq]
 simp only[ju]
 constructor
 ·rintro⟨a,b,c,d,e⟩;exact⟨a,⟨b.1,by omega⟩,c,d,e⟩
 ·rintro⟨a,b,c,d,e⟩;exact⟨a,⟨b.1,by omega⟩,c,d,e⟩
theorem Ac {m:aF} (h:bO m=true):m.drives.Nodup:=((eK m).1 h).2.1.imp fun h e=>by omega
theorem kB {m:aF} (h:bO m=true):∀k∈m.drives,0≤k∧k<64:=fun k hk=>by have:=((eK m).1 h).2.2.1 k hk;omega
theorem yZ:∀{l:List Int} {a b:Int},l.Pairwise (·<·)→(∀k∈l,a≤k∧k<b)→a≤b→(l.length:Int)≤b-a
 |[],a,b,_,_,h=>by simp;omega
 |x::l,a,b,hp,hl,h=>by
  obtain⟨h1,h2⟩:=List.pairwise_cons.1 hp
  have hx:=hl x List.mem_cons_self
  have:=yZ (a:=x+1) (b:=b) h2 (fun k hk=>⟨by have:=h1 k hk;omega,(hl k (List.mem_cons_of_mem _ hk)).2⟩) (by omega)
  rw[List.length_cons];omega
theorem kU {m:aF} (h:bO m=true):m.drives.length≤64:=by
 have:=yZ ((eK m).1 h).2.1 (kB h) (by decide);omega
end Wl
namespace Go.Vc
open Go
section
variable {P:Program}
theorem eq_int {t:TypeId} {k:IntKind} (hu:P.underlying t=some (.int k)) (d:Nat) (a b:Int):ar P (Op.equalIn (d+1) t (.int .i64 a) (.int .i64 b)) (a==b):=fun w=>by
 simp[Op.equalIn,underlying,hu]
theorem oT {t:TypeId} (hA:ar P (isAgg t) false) {cs:Array Value} {off:Nat} {v:Value} (hv:cs[off]?=some v):ar P (part t cs off) v:=by
 unfold part
 refine hA.bind ?_
 simp only[Bool.false_eq_true,if_false,hv]
 exact .pure
structure nZ (P:Program) (t it:TypeId):Prop where
 u:∃f0 f1 f2:Field,P.underlying t=some (.struct #[f0,f1,f2])∧f0.name≠ "_" ∧f1.name≠ "_" ∧f2.name≠ "_" ∧f0.type=it∧f1.type=it∧f2.type=it∧f0.offset=0∧f1.offset=1∧f2.offset=2
 st:P.stoodInHeld t=false
 i:P.underlying it=some (.int .i64)
 a:ar P (isAgg it) false
abbrev kf (x:Int×Int×Int):Value:=.agg #[.int .i64 x.1,.int .i64 x.2.1,.int .i64 x.2.2]
theorem nZ.eq {t it:TypeId} (K:nZ P t it) (d:Nat) (x y:Int×Int×Int):ar P (Op.equalIn (d+2) t (kf x) (kf y)) (decide (x=y)):=by
 obtain⟨f0,f1,f2,hu,n0,n1,n2,t0,t1,t2,o0,o1,o2⟩:=K.u
 have p0:∀z:Int×Int×Int,ar P (part it #[.int .i64 z.1,.int .i64 z.2.1,.int .i64 z.2.2] 0) (.int .i64 z.1):=fun z=>oT K.a rfl
 have p1:∀z:Int×Int×Int,ar P (part it #[.int .i64 z.1,.int .i64 z.2.1,.int .i64 z.2.2] 1) (.int .i64 z.2.1):=fun z=>oT K.a rfl
 have p2:∀z:Int×Int×Int,ar P (part it #[.int .i64 z.1,.int .i64 z.2.1,.int .i64 z.2.2] 2) (.int .i64 z.2.2):=fun z=>oT K.a rfl
 unfold Op.equalIn
 refine(aw hu).bind ?_
 dsimp only
 refine ar.bind (v:=P) (fun w=>by rfl) ?_
 rw[if_neg (by rw[K.st];decide)]
 simp only[List.forIn_toArray,List.forIn_cons,List.forIn_nil]
 have B:∀(f:Field) (off:Nat) (a b:Int),f.name≠ "_" →f.type=it→f.offset=off→ar P (part it #[Value.int .i64 x.1,.int .i64 x.2.1,.int .i64 x.2.2] off) (.int .i64 a)→ar P (part it #[Value.int .i64 y.1,.int .i64 y.2.1,.int .i64 y.2.2] off) (.int .i64 b)→
   ar P (do
    if f.name≠ "_" then
     let u←part f.type #[Value.int .i64 x.1,.int .i64 x.2.1,.int .i64 x.2.2] f.offset
     let v←part f.type #[Value.int .i64 y.1,.int .i64 y.2.1,.int .i64 y.2.2] f.offset
     let r←Op.equalIn (d+1) f.type u v
     if(!r)=true then pure (ForInStep.done (some false,()))else pure (ForInStep.yield ((none:Option Bool),()))
    else pure (ForInStep.yield (none,()))) (if a=b then ForInStep.yield (none,())else ForInStep.done (some false,())):=fun f off a b hn ht ho ha hb=>by
  rw[if_pos hn,ht,ho]
  refine ha.bind (hb.bind ((eq_int K.i d a b).bind ?_))
  by_cases hab:a=b
  ·subst hab;simp only[beq_self_eq_true,if_true];exact .pure
  ·have:(a==b)=false:=by simpa using hab
   rw[this,if_neg hab];exact .pure
 have b0:=B f0 0 _ _ n0 t0 o0 (p0 x) (p0 y)
 have b1:=B f1 1 _ _ n1 t1 o1 (p1 x) (p1 y)
 have b2:=B f2 2 _ _ n2 t2 o2 (p2 x) (p2 y)
 obtain⟨x0,x1,x2⟩:=x
 obtain⟨y0,y1,y2⟩:=y
 dsimp only at b0 b1 b2⊢
 by_cases h0:x0=y0
 ·rw[if_pos h0]at b0
  by_cases h1:x1=y1
  ·rw[if_pos h1]at b1
   by_cases h2:x2=y2
   ·rw[if_pos h2]at b2
    rw[decide_eq_true (by rw[h0,h1,h2])]
    exact ar.bind (b0.bind (b1.bind (b2.bind .pure))) .pure
   ·rw[if_neg h2]at b2
    rw[decide_eq_false (by simp[h2])]
    exact ar.bind (b0.bind (b1.bind (b2.bind .pure))) .pure
  ·rw[if_neg h1]at b1
   rw[decide_eq_false (by simp[h1])]
   exact ar.bind (b0.bind (b1.bind .pure)) .pure
 ·rw[if_neg h0]at b0
  rw[decide_eq_false (by simp[h0])]
  exact ar.bind (b0.bind .pure) .pure
theorem nZ.check {t it:TypeId} (K:nZ P t it) (b:Bool) (n:Nat) (x:Int×Int×Int):ar P (Instr.checkKey b (n+2) t (kf x)) ():=by
 obtain⟨f0,f1,f2,hu,n0,n1,n2,t0,t1,t2,o0,o1,o2⟩:=K.u
 unfold Instr.checkKey
 refine(aw hu).bind ?_
 dsimp only
 simp only[List.forIn_toArray,List.forIn_cons,List.forIn_nil]
 have B:∀(f:Field) (off:Nat) (a:Int),f.name≠ "_" →f.type=it→f.offset=off→ar P (part it #[Value.int .i64 x.1,.int .i64 x.2.1,.int .i64 x.2.2] off) (.int .i64 a)→
   ar P (do
    if f.name≠ "_" then
     let u←part f.type #[Value.int .i64 x.1,.int .i64 x.2.1,.int .i64 x.2.2] f.offset
     Instr.checkKey b (n+1) f.type u
     pure (ForInStep.yield PUnit.unit)
    else pure (ForInStep.yield PUnit.unit)) (ForInStep.yield PUnit.unit):=fun f off a hn ht ho ha=>by
  rw[if_pos hn,ht,ho]
  exact ha.bind ((o9 K.i n).bind .pure)
 have b0:=B f0 0 _ n0 t0 o0 (oT K.a rfl)
 have b1:=B f1 1 _ n1 t1 o1 (oT K.a rfl)
 have b2:=B f2 2 _ n2 t2 o2 (oT K.a rfl)
 exact ar.bind (b0.bind (b1.bind (b2.bind .pure))) .pure
theorem nZ.ask {t it:TypeId} (K:nZ P t it) (x:Int×Int×Int):∀(L:List MapEntry) (ks:List (Int×Int×Int)) (i:Nat),L.map (fun e=>(e.key,e.val))=ks.map (fun k=>(kf k,Value.bool true))→
  (x∉ks→ar P (Instr.findAsking t (kf x) L i) none)∧(x∈ks→∃j,ks[j]?=some x∧ar P (Instr.findAsking t (kf x) L i) (some (i+j,.bool true)))
 |[],[],i,_=>⟨fun _=>.pure,fun h=>by cases h⟩
 |[],_::_,_,h=>by simp at h
 |_::_,[],_,h=>by simp at h
 |e::L,k::ks,i,h=>by
  simp only[List.map_cons,List.cons.injEq,Prod.mk.injEq]at h
  obtain⟨⟨h1,h2⟩,h3⟩:=h
  obtain⟨i1,i2⟩:=nZ.ask K x L ks (i+1) h3
  have he:ar P (Op.equal t (kf x) e.key) (decide (x=k)):=by rw[h1];exact K.eq 9998 x k
  by_cases hk:x=k
  ·rw[decide_eq_true hk]at he
   refine⟨fun hn=>absurd (by rw[hk];exact List.mem_cons_self) hn,fun _=>⟨0,by rw[hk];rfl,?_⟩⟩
   unfold Instr.findAsking
   refine he.bind ?_
   rw[if_pos rfl,h2];exact .pure
  ·rw[decide_eq_false hk]at he
   refine⟨fun hn=>?_,fun hm=>?_⟩
   ·unfold Instr.findAsking
    refine he.bind ?_
    rw[if_neg (by decide)]
    exact i1 fun hh=>hn (List.mem_cons_of_mem _ hh)
   ·obtain⟨j,j1,j2⟩:=i2 (by rcases List.mem_cons.1 hm with h|h;exact absurd h hk;exact h)
    refine⟨j+1,by rw[List.getElem?_cons_succ];exact j1,?_⟩
    unfold Instr.findAsking
    refine he.bind ?_
    rw[if_neg (by decide),show i+(j+1)=i+1+j by omega]
    exact j2
theorem nZ.find {t it:TypeId} (K:nZ P t it) (x:Int×Int×Int) (L:List MapEntry) (ks:List (Int×Int×Int)) (h:L.map (fun e=>(e.key,e.val))=ks.map (fun k=>(kf k,Value.bool true))):
  (x∉ks→ar P (Instr.findKey t (kf x) L) none)∧(x∈ks→∃j,ks[j]?=some x∧ar P (Instr.findKey t (kf x) L) (some (j,.bool true))):=by
 obtain⟨f0,f1,f2,hu,_⟩:=K.u
 obtain⟨a1,a2⟩:=K.ask x L ks 0 h
 have key:∀v,ar P (Instr.findAsking t (kf x) L 0) v→ar P (Instr.findKey t (kf x) L) v:=fun v hv=>by
  unfold Instr.findKey
  refine(aw hu).bind ?_
  cases L with
  |nil=>
   have:v=none:=by
    have h1:=hv (default:World)
    unfold Instr.findAsking at h1
    have h2:(pure none:Sem (Option (Nat×Value))).run P (default:World)=.ok none default:=rfl
    rw[h2]at h1
    injection h1 with h1
    exact h1.symm
   rw[this];exact .pure
  |cons e L=>exact hv
 refine⟨fun hn=>key _ (a1 hn),fun hm=>?_⟩
 obtain⟨j,j1,j2⟩:=a2 hm
 rw[Nat.zero_add]at j2
 exact⟨j,j1,key _ j2⟩
structure lG (h:Heap) (r:Nat) (ks:List (Int×Int×Int)):Prop where
 ex:∃es clock,h[r]?=some (.map es clock)∧es.toList.map (fun e=>(e.key,e.val))=ks.map (fun k=>(kf k,Value.bool true))
theorem lG.ah {h h':Heap} {r:Nat} {ks:List (Int×Int×Int)} {p:au} (hm:lG h r ks) (hp:aH p h h') (hr:p r):lG h' r ks:=by
 obtain⟨es,clock,h1,h2⟩:=hm.ex
 exact⟨es,clock,hp.block hr h1,h2⟩
theorem lG.lt {h:Heap} {r:Nat} {ks:List (Int×Int×Int)} (hm:lG h r ks):r<h.size:=by
 obtain⟨es,clock,h1,h2⟩:=hm.ex
 exact lt_of_block h1
theorem Ff {t:Nat} {h:Heap} {K:Option Nat→Heap→Prop} (hk:∀r h',r=h.size→lG h' r []→aH (fun _=>True) h h'→K (some r) h'):
  az P (Instr.makeMap t none) (.one (.sc .mp)) h K:=by
 unfold az Instr.makeMap
 refine ae.bind (ae.kS (ae.pure' ⟨some h.size,rfl,hk _ _ rfl ⟨#[],0,by simp,rfl⟩ (aH.push _ _ _)⟩))
theorem lG.lookup {h:Heap} {r:Nat} {ks:List (Int×Int×Int)} {t kt et it:Nat} {x:Int×Int×Int} (hm:lG h r ks) (ht:P.underlying t=some (.map kt et)) (K:nZ P kt it) (hz:ar P (zeroValue et) (.bool false))
  {C:Bool→Heap→Prop} (hk:C (decide (x∈ks)) h):az P (Instr.lookup t (.map (some r)) (kf x) false) (.one (.sc .bool)) h C:=by
 obtain⟨es,clock,h1,h2⟩:=hm.ex
 unfold az Instr.lookup
 refine ae.bind (ae.always (aw ht) ?_)
 refine ae.bind (ae.xd h1 (fun _ _ _ h=>by cases h) ?_)
 refine ae.bind (ae.pure' ?_)
 refine ae.bind (ae.always (K.check _ 9998 x) ?_)
 obtain⟨f1,f2⟩:=K.find x es.toList ks h2
 by_cases hx:x∈ks
 ·obtain⟨j,j1,j2⟩:=f2 hx
  refine ae.bind (ae.always j2 ?_)
  refine ae.bind (ae.pure' (ae.pure' ?_))
  rw[decide_eq_true hx]at hk
  exact⟨true,rfl,hk⟩
 ·refine ae.bind (ae.always (f1 hx) ?_)
  refine ae.bind (ae.always hz ?_)
  refine ae.bind (ae.pure' (ae.pure' ?_))
  rw[decide_eq_false hx]at hk
  exact⟨false,rfl,hk⟩
theorem lG.update {h:Heap} {r:Nat} {ks:List (Int×Int×Int)} {t kt et it:Nat} {x:Int×Int×Int} (hm:lG h r ks) (ht:P.underlying t=some (.map kt et)) (K:nZ P kt it)
  {C:Unit→Heap→Prop} (hk:∀h',lG h' r (if x∈ks then ks else ks++[x])→aH (·≠r) h h'→h'.size=h.size→C () h'):
  ae P (Instr.mapUpdate t (.map (some r)) (kf x) (.bool true)) h C:=by
 obtain⟨es,clock,h1,h2⟩:=hm.ex
 have hr:=lt_of_block h1
 unfold Instr.mapUpdate
 refine ae.bind (ae.always (aw ht) ?_)
 refine ae.bind (ae.xd h1 (fun _ _ _ h=>by cases h) ?_)
 refine ae.bind (ae.always (K.check _ 9998 x) ?_)
 have ah:∀o,aH (·≠r) h (h.setIfInBounds r o):=fun o=>aH.eX h1 (fun hh=>hh rfl)
 obtain⟨f1,f2⟩:=K.find x es.toList ks h2
 by_cases hx:x∈ks
 ·obtain⟨j,j1,j2⟩:=f2 hx
  refine ae.bind (ae.always j2 ?_)
  have hl:es.toList.length=ks.length:=by have:=congrArg List.length h2;simpa using this
  have hj:j<es.toList.length:=by rw[hl];exact(List.getElem?_eq_some_iff.1 j1).1
  have hke:(es.toList[j]).key=kf x∧(es.toList[j]).val=.bool true:=by
   have h3:=congrArg (fun l=>l[j]?) h2
   simp only[List.getElem?_map,j1,List.getElem?_eq_getElem hj,Option.map_some]at h3
   injection h3 with h3
   injection h3 with h4 h5
   exact⟨h4,h5⟩
  have he:es[j]?=some es.toList[j]:=by rw[←Array.getElem?_toList,List.getElem?_eq_getElem hj]
  dsimp only
  rw[he]
  simp only[Option.map_some,Option.getD_some,hke.1]
  refine ae.bind ?_
  unfold Instr.keyThatStays
  have hs:Instr.sameBits 10000 (kf x) (kf x)=true:=by simp[Instr.sameBits]
  rw[hs,if_pos rfl]
  refine ae.pure' ?_
  refine ae.xf h1 (fun _ _ _ h=>by cases h) ?_
  refine hk _ ⟨_,_,by rw[Array.getElem?_setIfInBounds,if_pos rfl,if_pos hr],?_⟩ (ah _) (by simp)
  rw[if_pos hx,←h2,Array.toList_modify]
  apply List.ext_getElem?
  intro i
  rw[List.getElem?_map,List.getElem?_map]
  by_cases hij:j=i
  ·subst hij
   have hm2:(es.toList.modify j fun e=>⟨kf x,.bool true,e.born⟩)[j]?=some ⟨kf x,.bool true,es.toList[j].born⟩:=by
    rw[List.getElem?_modify,List.getElem?_eq_getElem hj];simp
   show Option.map _ (List.modify es.toList j fun e=>⟨kf x,.bool true,e.born⟩)[j]?=_
   rw[hm2,List.getElem?_eq_getElem hj]
   simp only[Option.map_some,hke.1,hke.2]
  ·rw[List.getElem?_modify];simp[hij]
 ·refine ae.bind (ae.always (f1 hx) ?_)
  refine ae.xf h1 (fun _ _ _ h=>by cases h) ?_
  refine hk _ ⟨_,_,by rw[Array.getElem?_setIfInBounds,if_pos rfl,if_pos hr],?_⟩ (ah _) (by simp)
  rw[if_neg hx]
  simp[h2]
end
def n5 (r:Nat) (ks:List (Int×Int×Int)):HP:=⟨fun h q=>lG h r ks∧q r,fun x hp=>⟨x.1.ah hp x.2,x.2⟩,fun x hq=>⟨x.1,hq _ x.2⟩⟩
end Go.Vc
namespace Wl
end Wl
