/- Part of the proofs that the laws of this seat answer true whatever the input reads, and leave it as it was; no condition. -/
import Derived.Test.YtkciobclldnoiaaGreatPlG
set_option linter.unusedVariables false
set_option linter.unusedSimpArgs false
namespace Wl
open Go Go.Vc
def bT (n:Int):Nat:=
 if n=0 then 0 else
  let m:=n.natAbs
  let e:=m.log2
  (if n<0 then 2^63 else 0)+(1023+e)*2^52+(m-2^e)*2^(52-e)
structure rX where
 ax:Nat
 ay:Nat
 sx:Nat
 sy:Nat
 left:Int
 leg:Int
 second:Bool
def kF:Nat:=4607182418800017408
def NJ:rX:=⟨0,0,kF,0,1,1,false⟩
def kc (a b:Nat):Nat:=(dZ.add a b).getD 0
def NS (a b:Nat):Nat:=(dZ.sub a b).getD 0
def mJ (a b:Nat):Nat:=(dZ.mul a b).getD 0
def tx (a b:Nat):Nat:=NS (mJ a 0) (mJ b kF)
def ty (a b:Nat):Nat:=kc (mJ a kF) (mJ b 0)
def rX.on (s:rX):rX:=
 if s.left-1>0 then{s with ax:=kc s.ax s.sx,ay:=kc s.ay s.sy,left:=s.left-1}
 else{ax:=kc s.ax s.sx,ay:=kc s.ay s.sy,sx:=tx s.sx s.sy,sy:=ty s.sx s.sy,leg:=if s.second then s.leg+1 else s.leg,left:=if s.second then s.leg+1 else s.leg,second:=!s.second}
def gM:Nat→rX
 |0=>NJ
 |n+1=>(gM n).on
def rX.ok (s:rX):Bool:=
 (dZ.add s.ax s.sx).isSome&&(dZ.add s.ay s.sy).isSome&&(dZ.mul s.sx 0).isSome&&(dZ.mul s.sy kF).isSome&&(dZ.sub (mJ s.sx 0) (mJ s.sy kF)).isSome&&(dZ.mul s.sx kF).isSome&&(dZ.mul s.sy 0).isSome&&(dZ.add (mJ s.sx kF) (mJ s.sy 0)).isSome&&decide (1≤s.left)&&decide (s.left≤100)&&decide (1≤s.leg)&&decide (s.leg≤100)
structure Dq where
 x:Int
 y:Int
 dx:Int
 dy:Int
 left:Int
 leg:Int
 turns:Int
def NT:Dq:=⟨0,0,1,0,1,1,0⟩
def Dq.on (s:Dq):Dq:=
 if s.left-1=0 then
  {x:=s.x+s.dx,y:=s.y+s.dy,dx:=-s.dy,dy:=s.dx,leg:=if(s.turns+1)%2=0 then s.leg+1 else s.leg,left:=if(s.turns+1)%2=0 then s.leg+1 else s.leg,turns:=s.turns+1}
 else{s with x:=s.x+s.dx,y:=s.y+s.dy,left:=s.left-1}
def dE:Nat→Dq
 |0=>NT
 |n+1=>(dE n).on
def Dq.ok (s:Dq):Bool:=decide (-10≤s.x)&&decide (s.x≤10)&&decide (-10≤s.y)&&decide (s.y≤10)&&decide (-1≤s.dx)&&decide (s.dx≤1)&&decide (-1≤s.dy)&&decide (s.dy≤1)&&decide (1≤s.left)&&decide (s.left≤100)&&decide (1≤s.leg)&&decide (s.leg≤100)&&decide (0≤s.turns)&&decide (s.turns≤100)
theorem NB:∀n,n<64→(gM n).ok=true:=by decide+kernel
theorem MV:∀n,n<64→((gM n).ax==bT (dE n).x&&(gM n).ay==bT (dE n).y&&decide (-4≤(dE n).x)&&decide ((dE n).x≤4)&&decide (-4≤(dE n).y)&&decide ((dE n).y≤4))=true:=by decide+kernel
theorem MW:∀i,i<9→∀j,j<9→dZ.sub (bT ((i:Nat)-4:Int)) (bT ((j:Nat)-4:Int))=some (bT ((i:Int)-(j:Int))):=by decide+kernel
theorem MX:∀i,i<17→dZ.mul (bT ((i:Nat)-8:Int)) (bT ((i:Nat)-8:Int))=some (bT (((i:Nat)-8:Int)*((i:Nat)-8:Int))):=by decide+kernel
theorem MY:∀i,i<9→∀j,j<9→dZ.add (bT (((i:Nat):Int)*(i:Nat))) (bT (((j:Nat):Int)*(j:Nat)))=some (bT (((i:Nat):Int)*(i:Nat)+((j:Nat):Int)*(j:Nat))):=by decide+kernel
theorem I7:∀m,m<129→∀n,n<129→dZ.order (bT (m:Nat)) (bT (n:Nat))=some (compare m n):=by decide+kernel
end Wl
namespace Wl
open Go
theorem Hs {seq number many:Int} {b:List UInt8} (hb:b.length≤48):dW (lF seq number many b)=none:=by
 unfold dW lF
 rw[Bb (by decide) (by decide) (by simp[bE];omega)]
 dsimp only
 rw[if_neg (by rintro⟨h,_⟩;exact absurd h (by decide))]
theorem E7 {m:aC} {c:List UInt8} (h:c∈aZ m):dW c=none:=by
 unfold aZ at h
 obtain⟨i,_,rfl⟩:=List.mem_map.1 h
 exact Hs (by simp;omega)
theorem yh (m n:aC):(aZ n).filterMap (eN m)=[]:=by
 rw[List.filterMap_eq_nil_iff]
 intro c hc
 unfold eN
 rw[E7 hc]
theorem BS (m n1 n2:aC) (l:List (List UInt8)):gv m (aZ n1++l++aZ n2)=gv m l:=by
 unfold gv
 rw[List.filterMap_append,List.filterMap_append,yh,yh,List.nil_append,List.append_nil]
def Dr (a b:di):Prop:=rU a b=true∧ri a b=false
theorem E8 {l:List di} (h:l.Pairwise Dr):rk (l.mergeSort rU)=l:=by
 have hs:l.mergeSort rU=l:=(Hi NR (h.imp fun h=>h.1) (bC.refl _)).symm
 rw[hs]
 unfold rk
 have hk:(List.range l.length).filter (rj l)=List.range l.length:=by
  refine List.filter_eq_self.2 fun k hk=>?_
  have hk:=List.mem_range.1 hk
  unfold rj
  by_cases h0:k=0
  ·rw[decide_eq_true h0];rfl
  ·have:=(List.pairwise_iff_getElem.1 h (k-1) k (by omega) hk (by omega)).2
   have e1:l.getD k oQ=l[k]:=by rw[List.getD_eq_getElem?_getD,List.getElem?_eq_getElem hk];rfl
   have e2:l.getD (k-1) oQ=l[k-1]'(by omega):=by rw[List.getD_eq_getElem?_getD,List.getElem?_eq_getElem (by omega)];rfl
   rw[e1,e2]
   have hsym:ri l[k] (l[k-1]'(by omega))=false:=by
    unfold ri at this⊢
    rw[decide_eq_false_iff_not]at this⊢
    rintro⟨a,b,c⟩
    exact this ⟨a.symm,b.symm,c.symm⟩
   rw[hsym,Bool.not_false,Bool.or_true]
 rw[hk]
 apply List.ext_getElem?
 intro i
 rw[List.getElem?_map]
 by_cases hi:i<l.length
 ·rw[List.getElem?_range hi,List.getElem?_eq_getElem hi]
  show some (l.getD i oQ)=_
  rw[List.getD_eq_getElem?_getD,List.getElem?_eq_getElem hi];rfl
 ·rw[List.getElem?_eq_none (by simp;omega),List.getElem?_eq_none (by omega)];rfl
theorem I8 {m:aC} {l:List di} (h:l.Pairwise Dr) (hc:∀r∈l,fb m r=true∧0≤r.seed∧r.seed<4294967296):gv m (l.map dz)=l:=by
 unfold gv
 have:(l.map dz).filterMap (eN m)=l:=by
  rw[List.filterMap_map]
  have e:∀r∈l,(eN m∘dz) r=some r:=fun r hr=>by
   obtain⟨h1,h2,h3⟩:=hc r hr
   have hm:gY r=true:=by unfold fb at h1;simp only[Bool.and_eq_true]at h1;exact h1.1
   show eN m (dz r)=some r
   unfold eN
   rw[IS hm ⟨h2,h3⟩]
   dsimp only
   rw[if_pos h1]
  induction l with
  |nil=>rfl
  |cons r l ih=>
   rw[List.filterMap_cons,e r List.mem_cons_self]
   dsimp only
   rw[ih (List.Pairwise.of_cons h) (fun r hr=>hc r (List.mem_cons_of_mem _ hr)) fun r hr=>e r (List.mem_cons_of_mem _ hr)]
 rw[this]
 exact E8 h
end Wl
namespace Wl
open Go
def ni (n T j:Nat):Nat:=((List.range T).filter fun i=>decide (i%n=j)).length
theorem Ht (n T j:Nat):ni n (T+1) j=ni n T j+(if T%n=j then 1 else 0):=by
 unfold ni
 rw[List.range_succ,List.filter_append,List.length_append,List.filter_cons,List.filter_nil]
 by_cases h:T%n=j
 ·rw[if_pos h,decide_eq_true h];rfl
 ·rw[if_neg h,decide_eq_false h];rfl
theorem KC {n:Nat} (hn:0<n) (T:Nat):(T%n+1<n∧(T+1)/n=T/n∧(T+1)%n=T%n+1)∨(T%n+1=n∧(T+1)/n=T/n+1∧(T+1)%n=0):=by
 have hm:=Nat.mod_lt T hn
 have hd:=Nat.div_add_mod T n
 by_cases h:T%n+1<n
 ·refine .inl ⟨h,?_,?_⟩
  ·have e:T+1=n*(T/n)+(T%n+1):=by omega
   rw[e,Nat.mul_add_div hn,Nat.div_eq_of_lt h,Nat.add_zero]
  ·have e:T+1=n*(T/n)+(T%n+1):=by omega
   rw[e,Nat.mul_add_mod,Nat.mod_eq_of_lt h]
 ·have h':T%n+1=n:=by omega
  have e:T+1=n*(T/n+1):=by rw[Nat.mul_add,Nat.mul_one];omega
  refine .inr ⟨h',?_,?_⟩
  ·rw[e,Nat.mul_div_cancel_left _ hn]
  ·rw[e,Nat.mul_mod_right]
theorem Ds {n:Nat} (hn:0<n) (j:Nat) (hj:j<n):∀T,ni n T j=T/n+(if j<T%n then 1 else 0)
 |0=>by simp[ni]
 |T+1=>by
  rw[Ht,Ds hn j hj T]
  rcases KC hn T with⟨h1,h2,h3⟩|⟨h1,h2,h3⟩
  ·rw[h2,h3]
   split<;>split<;>split<;>omega
  ·rw[h2,h3]
   split<;>split<;>split<;>omega
end Wl
namespace Wl
open Go
theorem Bg {α:Type} {R:α→α→Prop} (tr:∀a b c,R a b→R b c→R a c) {l:List α} (h:∀i (hi:i+1<l.length),R (l[i]'(by omega)) l[i+1]):l.Pairwise R:=by
 have key:∀d i (hj:i+(d+1)<l.length),R (l[i]'(by omega)) l[i+(d+1)]:=by
  intro d
  induction d with
  |zero=>exact fun i hj=>h i hj
  |succ d ih=>exact fun i hj=>tr _ _ _ (ih i (by omega)) (h (i+(d+1)) (by omega))
 refine List.pairwise_iff_getElem.2 fun i j hi hj hij=>?_
 have:=key (j-i-1) i (by omega)
 have e:i+(j-i-1+1)=j:=by omega
 simp only[e]at this
 exact this
theorem Bh {α:Type} {R:α→α→Prop} {l:List α} (h:l.Pairwise R) (i:Nat) (hi:i+1<l.length):R (l[i]'(by omega)) l[i+1]:=List.pairwise_iff_getElem.1 h i (i+1) (by omega) hi (by omega)
theorem nS {α:Type} {l:List α} {i:Nat} (d:α) (h:i<l.length):l.getD i d=l[i]:=by rw[List.getD_eq_getElem?_getD,List.getElem?_eq_getElem h];rfl
theorem iL (n a b:Int):de n a b=true↔a≤n∧n≤b:=by unfold de;rw[Bool.and_eq_true,decide_eq_true_eq,decide_eq_true_eq]
theorem I9 (l:List Int) (most:Int):kB l most=true↔l.Pairwise (·<·)∧∀x∈l,0≤x∧x≤most:=by
 unfold kB
 rw[List.all_eq_true]
 constructor
 ·intro h
  have hr:∀i (hi:i<l.length),(0≤l[i]∧l[i]≤most)∧(i=0∨l.getD (i-1) 0<l[i]):=fun i hi=>by
   have:=h i (List.mem_range.2 hi)
   unfold fX at this
   rw[nS 0 hi,Bool.and_eq_true,iL,Bool.or_eq_true,decide_eq_true_eq,decide_eq_true_eq]at this
   exact this
  refine⟨Bg (R:=fun a b:Int=>a<b) (fun a b c h1 h2=>Int.lt_trans h1 h2) fun i hi=>?_,fun x hx=>?_⟩
  ·rcases(hr (i+1) hi).2 with h0|h0
   ·omega
   ·rw[Nat.add_sub_cancel,nS 0 (by omega)]at h0;exact h0
  ·obtain⟨i,hi,rfl⟩:=List.getElem_of_mem hx
   exact(hr i hi).1
 ·rintro⟨h1,h2⟩ i hi
  have hi:=List.mem_range.1 hi
  unfold fX
  rw[nS 0 hi,Bool.and_eq_true,iL,Bool.or_eq_true,decide_eq_true_eq,decide_eq_true_eq]
  refine⟨h2 _ (List.getElem_mem hi),?_⟩
  cases i with
  |zero=>exact .inl rfl
  |succ i=>exact .inr (by rw[Nat.add_sub_cancel,nS 0 (by omega)];exact Bh h1 i hi)
theorem Dt (a b c:ByteArray) (h1:db a b=true) (h2:db b c=true):db a c=true:=vx _ _ _ h1 h2
theorem dO (m:aC):bG m=true↔gQ m=true∧m.drives.Pairwise (·<·)∧(∀k∈m.drives,0≤k∧k≤63)∧m.aG.length≤12∧(∀e∈m.aG,eW m e=true)∧m.aG.Pairwise (fun a b=>db a.name b.name=true)∧m.aG.Pairwise (fun a b=>a.object≠b.object):=by
 unfold bG
 rw[Bool.and_eq_true,Bool.and_eq_true,Bool.and_eq_true,I9,decide_eq_true_eq,List.all_eq_true]
 have key:(∀i∈List.range m.aG.length,kC m i=true)↔(∀e∈m.aG,eW m e=true)∧m.aG.Pairwise (fun a b=>db a.name b.name=true)∧m.aG.Pairwise (fun a b=>a.object≠b.object):=by
  constructor
  ·intro h
   have hr:∀i (hi:i<m.aG.length),eW m m.aG[i]=true∧(i=0∨db (kA m.aG (i-1)).name m.aG[i].name=true)∧∀y∈m.aG.take i,y.object≠m.aG[i].object:=fun i hi=>by
    have:=h i (List.mem_range.2 hi)
    unfold kC at this
    rw[kb hi,Bool.and_eq_true,Bool.and_eq_true,Bool.or_eq_true,decide_eq_true_eq,Bool.not_eq_true',List.any_eq_false]at this
    exact⟨this.1,this.2.1,fun y hy=>by have:=this.2.2 y hy;simpa using this⟩
   refine⟨fun e he=>?_,Bg (R:=fun a b:cu=>db a.name b.name=true) (fun a b c h1 h2=>Dt _ _ _ h1 h2) fun i hi=>?_,List.pairwise_iff_getElem.2 fun i j hi hj hij=>?_⟩
   ·obtain⟨i,hi,rfl⟩:=List.getElem_of_mem he;exact(hr i hi).1
   ·rcases(hr (i+1) hi).2.1 with h0|h0
    ·omega
    ·rw[Nat.add_sub_cancel,kb (by omega)]at h0;exact h0
   ·refine(hr j hj).2.2 m.aG[i] ?_
    exact List.mem_take_iff_getElem.2 ⟨i,by omega,rfl⟩
  ·rintro⟨h1,h2,h3⟩ i hi
   have hi:=List.mem_range.1 hi
   unfold kC
   rw[kb hi,Bool.and_eq_true,Bool.and_eq_true,Bool.or_eq_true,decide_eq_true_eq,Bool.not_eq_true',List.any_eq_false]
   refine⟨h1 _ (List.getElem_mem hi),?_,fun y hy=>?_⟩
   ·cases i with
    |zero=>exact .inl rfl
    |succ i=>exact .inr (by rw[Nat.add_sub_cancel,kb (by omega)];exact Bh h2 i hi)
   ·obtain⟨j,hj,rfl⟩:=List.mem_take_iff_getElem.1 hy
    have:=List.pairwise_iff_getElem.1 h3 j i (by omega) hi (by omega)
    simpa using this
 rw[key]
 constructor
 ·rintro⟨a,⟨b,c⟩,d,e,f,g⟩;exact⟨a,b,c,d,e,f,g⟩
 ·rintro⟨a,b,c,d,e,f,g⟩;exact⟨a,⟨b,c⟩,d,e,f,g⟩
theorem gw (m:aC):gQ m=true↔(1≤m.seq∧m.seq≤2147483647)∧(0≤m.next∧m.next≤16777216)∧bO m.p=true∧0≤m.extra∧m.extra≤16:=by
 unfold gQ
 rw[Bool.and_eq_true,Bool.and_eq_true,Bool.and_eq_true,iL,iL,iL]
theorem lH (m:aC) (x:cu):eW m x=true↔gq x.name=true∧(0≤x.object∧x.object<m.next)∧(0≤x.length∧x.length≤m.p.1*m.p.2.2*8)∧(∀t∈x.tries,0≤t∧t≤15)∧(x.tries.length:Int)=countP m.p x.length:=by
 unfold eW
 rw[Bool.and_eq_true,Bool.and_eq_true,Bool.and_eq_true,Bool.and_eq_true,iL,iL,List.all_eq_true,decide_eq_true_eq]
 simp only[iL]
 constructor
 ·rintro⟨a,b,c,d,e⟩;exact⟨a,⟨b.1,by omega⟩,c,d,e⟩
 ·rintro⟨a,b,c,d,e⟩;exact⟨a,⟨b.1,by omega⟩,c,d,e⟩
theorem yi {m:aC} (h:bG m=true):m.drives.Nodup:=((dO m).1 h).2.1.imp fun h e=>by omega
theorem lZ {m:aC} (h:bG m=true):∀k∈m.drives,0≤k∧k<64:=fun k hk=>by have:=((dO m).1 h).2.2.1 k hk;omega
theorem Du:∀{l:List Int} {a b:Int},l.Pairwise (·<·)→(∀k∈l,a≤k∧k<b)→a≤b→(l.length:Int)≤b-a
 |[],a,b,_,_,h=>by simp;omega
 |x::l,a,b,hp,hl,h=>by
  obtain⟨h1,h2⟩:=List.pairwise_cons.1 hp
  have hx:=hl x List.mem_cons_self
  have:=Du (a:=x+1) (b:=b) h2 (fun k hk=>⟨by have:=h1 k hk;omega,(hl k (List.mem_cons_of_mem _ hk)).2⟩) (by omega)
  rw[List.length_cons];omega
theorem mg {m:aC} (h:bG m=true):m.drives.length≤64:=by
 have:=Du ((dO m).1 h).2.1 (lZ h) (by decide);omega
end Wl
namespace Wl
theorem Dv {n:Nat} (hn:0<n) (T j:Nat) (hj:j<n):T/n≤ni n T j∧ni n T j≤T/n+1:=by
 rw[Ds hn j hj];split<;>omega
end Wl
