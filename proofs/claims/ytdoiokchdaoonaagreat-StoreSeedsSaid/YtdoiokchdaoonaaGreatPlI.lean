/- Part of the proofs that the laws of this seat answer true whatever the input reads, and leave it as it was; no condition. -/
import Derived.Test.YtdoiokchdaoonaaGreatPlG
set_option linter.unusedVariables false
set_option linter.unusedSimpArgs false
namespace Wl
open Go Go.Vc
def bO (n:Int):Nat:=
 if n=0 then 0 else
  let m:=n.natAbs
  let e:=m.log2
  (if n<0 then 2^63 else 0)+(1023+e)*2^52+(m-2^e)*2^(52-e)
structure rG where
 ax:Nat
 ay:Nat
 sx:Nat
 sy:Nat
 left:Int
 leg:Int
 second:Bool
def kv:Nat:=4607182418800017408
def Nb:rG:=⟨0,0,kv,0,1,1,false⟩
def j6 (a b:Nat):Nat:=(dT.add a b).getD 0
def Nl (a b:Nat):Nat:=(dT.sub a b).getD 0
def mr (a b:Nat):Nat:=(dT.mul a b).getD 0
def tx (a b:Nat):Nat:=Nl (mr a 0) (mr b kv)
def ty (a b:Nat):Nat:=j6 (mr a kv) (mr b 0)
def rG.on (s:rG):rG:=
 if s.left-1>0 then{s with ax:=j6 s.ax s.sx,ay:=j6 s.ay s.sy,left:=s.left-1}
 else{ax:=j6 s.ax s.sx,ay:=j6 s.ay s.sy,sx:=tx s.sx s.sy,sy:=ty s.sx s.sy,leg:=if s.second then s.leg+1 else s.leg,left:=if s.second then s.leg+1 else s.leg,second:=!s.second}
def gE:Nat→rG
 |0=>Nb
 |n+1=>(gE n).on
def rG.ok (s:rG):Bool:=
 (dT.add s.ax s.sx).isSome&&(dT.add s.ay s.sy).isSome&&(dT.mul s.sx 0).isSome&&(dT.mul s.sy kv).isSome&&(dT.sub (mr s.sx 0) (mr s.sy kv)).isSome&&(dT.mul s.sx kv).isSome&&(dT.mul s.sy 0).isSome&&(dT.add (mr s.sx kv) (mr s.sy 0)).isSome&&decide (1≤s.left)&&decide (s.left≤100)&&decide (1≤s.leg)&&decide (s.leg≤100)
structure CL where
 x:Int
 y:Int
 dx:Int
 dy:Int
 left:Int
 leg:Int
 turns:Int
def Nn:CL:=⟨0,0,1,0,1,1,0⟩
def CL.on (s:CL):CL:=
 if s.left-1=0 then
  {x:=s.x+s.dx,y:=s.y+s.dy,dx:=-s.dy,dy:=s.dx,leg:=if(s.turns+1)%2=0 then s.leg+1 else s.leg,left:=if(s.turns+1)%2=0 then s.leg+1 else s.leg,turns:=s.turns+1}
 else{s with x:=s.x+s.dx,y:=s.y+s.dy,left:=s.left-1}
def dz:Nat→CL
 |0=>Nn
 |n+1=>(dz n).on
def CL.ok (s:CL):Bool:=decide (-10≤s.x)&&decide (s.x≤10)&&decide (-10≤s.y)&&decide (s.y≤10)&&decide (-1≤s.dx)&&decide (s.dx≤1)&&decide (-1≤s.dy)&&decide (s.dy≤1)&&decide (1≤s.left)&&decide (s.left≤100)&&decide (1≤s.leg)&&decide (s.leg≤100)&&decide (0≤s.turns)&&decide (s.turns≤100)
theorem M4:∀n,n<64→(gE n).ok=true:=by decide+kernel
theorem Ml:∀n,n<64→((gE n).ax==bO (dz n).x&&(gE n).ay==bO (dz n).y&&decide (-4≤(dz n).x)&&decide ((dz n).x≤4)&&decide (-4≤(dz n).y)&&decide ((dz n).y≤4))=true:=by decide+kernel
theorem Mm:∀i,i<9→∀j,j<9→dT.sub (bO ((i:Nat)-4:Int)) (bO ((j:Nat)-4:Int))=some (bO ((i:Int)-(j:Int))):=by decide+kernel
theorem Mn:∀i,i<17→dT.mul (bO ((i:Nat)-8:Int)) (bO ((i:Nat)-8:Int))=some (bO (((i:Nat)-8:Int)*((i:Nat)-8:Int))):=by decide+kernel
theorem Mo:∀i,i<9→∀j,j<9→dT.add (bO (((i:Nat):Int)*(i:Nat))) (bO (((j:Nat):Int)*(j:Nat)))=some (bO (((i:Nat):Int)*(i:Nat)+((j:Nat):Int)*(j:Nat))):=by decide+kernel
theorem Ir:∀m,m<129→∀n,n<129→dT.order (bO (m:Nat)) (bO (n:Nat))=some (compare m n):=by decide+kernel
end Wl
namespace Wl
open Go
theorem GA {seq number many:Int} {b:List UInt8} (hb:b.length≤48):dQ (lr seq number many b)=none:=by
 unfold dQ lr
 rw[Ax (by decide) (by decide) (by simp[bA];omega)]
 dsimp only
 rw[if_neg (by rintro⟨h,_⟩;exact absurd h (by decide))]
theorem Eg {m:aE} {c:List UInt8} (h:c∈aV m):dQ c=none:=by
 unfold aV at h
 obtain⟨i,_,rfl⟩:=List.mem_map.1 h
 exact GA (by simp;omega)
theorem qX (m n:aE):(aV n).filterMap (eF m)=[]:=by
 rw[List.filterMap_eq_nil_iff]
 intro c hc
 unfold eF
 rw[Eg hc]
theorem Bd (m n1 n2:aE) (l:List (List UInt8)):fE m (aV n1++l++aV n2)=fE m l:=by
 unfold fE
 rw[List.filterMap_append,List.filterMap_append,qX,qX,List.nil_append,List.append_nil]
def CM (a b:dc):Prop:=rD a b=true∧qS a b=false
theorem Eh {l:List dc} (h:l.Pairwise CM):o0 (l.mergeSort rD)=l:=by
 have hs:l.mergeSort rD=l:=(Gq Nk (h.imp fun h=>h.1) (bz.refl _)).symm
 rw[hs]
 unfold o0
 have hk:(List.range l.length).filter (qT l)=List.range l.length:=by
  refine List.filter_eq_self.2 fun k hk=>?_
  have hk:=List.mem_range.1 hk
  unfold qT
  by_cases h0:k=0
  ·rw[decide_eq_true h0];rfl
  ·have:=(List.pairwise_iff_getElem.1 h (k-1) k (by omega) hk (by omega)).2
   have e1:l.getD k oA=l[k]:=by rw[List.getD_eq_getElem?_getD,List.getElem?_eq_getElem hk];rfl
   have e2:l.getD (k-1) oA=l[k-1]'(by omega):=by rw[List.getD_eq_getElem?_getD,List.getElem?_eq_getElem (by omega)];rfl
   rw[e1,e2]
   have hsym:qS l[k] (l[k-1]'(by omega))=false:=by
    unfold qS at this⊢
    rw[decide_eq_false_iff_not]at this⊢
    rintro⟨a,b,c⟩
    exact this ⟨a.symm,b.symm,c.symm⟩
   rw[hsym,Bool.not_false,Bool.or_true]
 rw[hk]
 apply List.ext_getElem?
 intro i
 rw[List.getElem?_map]
 by_cases hi:i<l.length
 ·rw[List.getElem?_range hi,List.getElem?_eq_getElem hi]
  show some (l.getD i oA)=_
  rw[List.getD_eq_getElem?_getD,List.getElem?_eq_getElem hi];rfl
 ·rw[List.getElem?_eq_none (by simp;omega),List.getElem?_eq_none (by omega)];rfl
theorem Is {m:aE} {l:List dc} (h:l.Pairwise CM) (hc:∀r∈l,dE m r=true∧0≤r.seed∧r.seed<4294967296):fE m (l.map dm)=l:=by
 unfold fE
 have:(l.map dm).filterMap (eF m)=l:=by
  rw[List.filterMap_map]
  have e:∀r∈l,(eF m∘dm) r=some r:=fun r hr=>by
   obtain⟨h1,h2,h3⟩:=hc r hr
   have hm:gS r=true:=by unfold dE at h1;simp only[Bool.and_eq_true]at h1;exact h1.1
   show eF m (dm r)=some r
   unfold eF
   rw[HZ hm ⟨h2,h3⟩]
   dsimp only
   rw[if_pos h1]
  induction l with
  |nil=>rfl
  |cons r l ih=>
   rw[List.filterMap_cons,e r List.mem_cons_self]
   dsimp only
   rw[ih (List.Pairwise.of_cons h) (fun r hr=>hc r (List.mem_cons_of_mem _ hr)) fun r hr=>e r (List.mem_cons_of_mem _ hr)]
 rw[this]
 exact Eh h
end Wl
namespace Wl
open Go
def ig (n T j:Nat):Nat:=((List.range T).filter fun i=>decide (i%n=j)).length
theorem GB (n T j:Nat):ig n (T+1) j=ig n T j+(if T%n=j then 1 else 0):=by
 unfold ig
 rw[List.range_succ,List.filter_append,List.length_append,List.filter_cons,List.filter_nil]
 by_cases h:T%n=j
 ·rw[if_pos h,decide_eq_true h];rfl
 ·rw[if_neg h,decide_eq_false h];rfl
theorem J4 {n:Nat} (hn:0<n) (T:Nat):(T%n+1<n∧(T+1)/n=T/n∧(T+1)%n=T%n+1)∨(T%n+1=n∧(T+1)/n=T/n+1∧(T+1)%n=0):=by
 have hm:=Nat.mod_lt T hn
 have hd:=Nat.div_add_mod T n
 by_cases h:T%n+1<n
 ·refine .inl ⟨h,?_,?_⟩
  ·have e:T+1=n*(T/n)+(T%n+1):=by omega
   rw[e,Nat.mul_add_div hn,Nat.div_eq_of_lt h,Nat.add_zero]
  ·have e:T+1=n*(T/n)+(T%n+1):=by omega
   rw[e,Nat.mul_add_mod,Nat.mod_eq_of_lt h]
 ·have h':T%n+1=n:=by omega
  have e:T+1=n*(T/n+1):=by rw[Nat.mul_add,Nat.mul_one];omega
  refine .inr ⟨h',?_,?_⟩
  ·rw[e,Nat.mul_div_cancel_left _ hn]
  ·rw[e,Nat.mul_mod_right]
theorem wH {n:Nat} (hn:0<n) (j:Nat) (hj:j<n):∀T,ig n T j=T/n+(if j<T%n then 1 else 0)
 |0=>by simp[ig]
 |T+1=>by
  rw[GB,wH hn j hj T]
  rcases J4 hn T with⟨h1,h2,h3⟩|⟨h1,h2,h3⟩
  ·rw[h2,h3]
   split<;>split<;>split<;>omega
  ·rw[h2,h3]
   split<;>split<;>split<;>omega
end Wl
namespace Wl
open Go
theorem AD {α:Type} {R:α→α→Prop} (tr:∀a b c,R a b→R b c→R a c) {l:List α} (h:∀i (hi:i+1<l.length),R (l[i]'(by omega)) l[i+1]):l.Pairwise R:=by
 have key:∀d i (hj:i+(d+1)<l.length),R (l[i]'(by omega)) l[i+(d+1)]:=by
  intro d
  induction d with
  |zero=>exact fun i hj=>h i hj
  |succ d ih=>exact fun i hj=>tr _ _ _ (ih i (by omega)) (h (i+(d+1)) (by omega))
 refine List.pairwise_iff_getElem.2 fun i j hi hj hij=>?_
 have:=key (j-i-1) i (by omega)
 have e:i+(j-i-1+1)=j:=by omega
 simp only[e]at this
 exact this
theorem AE {α:Type} {R:α→α→Prop} {l:List α} (h:l.Pairwise R) (i:Nat) (hi:i+1<l.length):R (l[i]'(by omega)) l[i+1]:=List.pairwise_iff_getElem.1 h i (i+1) (by omega) hi (by omega)
theorem nw {α:Type} {l:List α} {i:Nat} (d:α) (h:i<l.length):l.getD i d=l[i]:=by rw[List.getD_eq_getElem?_getD,List.getElem?_eq_getElem h];rfl
theorem kb (n a b:Int):cZ n a b=true↔a≤n∧n≤b:=by unfold cZ;rw[Bool.and_eq_true,decide_eq_true_eq,decide_eq_true_eq]
theorem It (l:List Int) (most:Int):kq l most=true↔l.Pairwise (·<·)∧∀x∈l,0≤x∧x≤most:=by
 unfold kq
 rw[List.all_eq_true]
 constructor
 ·intro h
  have hr:∀i (hi:i<l.length),(0≤l[i]∧l[i]≤most)∧(i=0∨l.getD (i-1) 0<l[i]):=fun i hi=>by
   have:=h i (List.mem_range.2 hi)
   unfold fU at this
   rw[nw 0 hi,Bool.and_eq_true,kb,Bool.or_eq_true,decide_eq_true_eq,decide_eq_true_eq]at this
   exact this
  refine⟨AD (R:=fun a b:Int=>a<b) (fun a b c h1 h2=>Int.lt_trans h1 h2) fun i hi=>?_,fun x hx=>?_⟩
  ·rcases(hr (i+1) hi).2 with h0|h0
   ·omega
   ·rw[Nat.add_sub_cancel,nw 0 (by omega)]at h0;exact h0
  ·obtain⟨i,hi,rfl⟩:=List.getElem_of_mem hx
   exact(hr i hi).1
 ·rintro⟨h1,h2⟩ i hi
  have hi:=List.mem_range.1 hi
  unfold fU
  rw[nw 0 hi,Bool.and_eq_true,kb,Bool.or_eq_true,decide_eq_true_eq,decide_eq_true_eq]
  refine⟨h2 _ (List.getElem_mem hi),?_⟩
  cases i with
  |zero=>exact .inl rfl
  |succ i=>exact .inr (by rw[Nat.add_sub_cancel,nw 0 (by omega)];exact AE h1 i hi)
theorem CN (a b c:ByteArray) (h1:db a b=true) (h2:db b c=true):db a c=true:=vb _ _ _ h1 h2
theorem gC (m:aE):cn m=true↔gM m=true∧m.drives.Pairwise (·<·)∧(∀k∈m.drives,0≤k∧k≤63)∧m.objs.length≤12∧(∀e∈m.objs,eK m e=true)∧m.objs.Pairwise (fun a b=>db a.name b.name=true)∧m.objs.Pairwise (fun a b=>a.object≠b.object):=by
 unfold cn
 rw[Bool.and_eq_true,Bool.and_eq_true,Bool.and_eq_true,It,decide_eq_true_eq,List.all_eq_true]
 have key:(∀i∈List.range m.objs.length,kr m i=true)↔(∀e∈m.objs,eK m e=true)∧m.objs.Pairwise (fun a b=>db a.name b.name=true)∧m.objs.Pairwise (fun a b=>a.object≠b.object):=by
  constructor
  ·intro h
   have hr:∀i (hi:i<m.objs.length),eK m m.objs[i]=true∧(i=0∨db (kp m.objs (i-1)).name m.objs[i].name=true)∧∀y∈m.objs.take i,y.object≠m.objs[i].object:=fun i hi=>by
    have:=h i (List.mem_range.2 hi)
    unfold kr at this
    rw[j5 hi,Bool.and_eq_true,Bool.and_eq_true,Bool.or_eq_true,decide_eq_true_eq,Bool.not_eq_true',List.any_eq_false]at this
    exact⟨this.1,this.2.1,fun y hy=>by have:=this.2.2 y hy;simpa using this⟩
   refine⟨fun e he=>?_,AD (R:=fun a b:ck=>db a.name b.name=true) (fun a b c h1 h2=>CN _ _ _ h1 h2) fun i hi=>?_,List.pairwise_iff_getElem.2 fun i j hi hj hij=>?_⟩
   ·obtain⟨i,hi,rfl⟩:=List.getElem_of_mem he;exact(hr i hi).1
   ·rcases(hr (i+1) hi).2.1 with h0|h0
    ·omega
    ·rw[Nat.add_sub_cancel,j5 (by omega)]at h0;exact h0
   ·refine(hr j hj).2.2 m.objs[i] ?_
    exact List.mem_take_iff_getElem.2 ⟨i,by omega,rfl⟩
  ·rintro⟨h1,h2,h3⟩ i hi
   have hi:=List.mem_range.1 hi
   unfold kr
   rw[j5 hi,Bool.and_eq_true,Bool.and_eq_true,Bool.or_eq_true,decide_eq_true_eq,Bool.not_eq_true',List.any_eq_false]
   refine⟨h1 _ (List.getElem_mem hi),?_,fun y hy=>?_⟩
   ·cases i with
    |zero=>exact .inl rfl
    |succ i=>exact .inr (by rw[Nat.add_sub_cancel,j5 (by omega)];exact AE h2 i hi)
   ·obtain⟨j,hj,rfl⟩:=List.mem_take_iff_getElem.1 hy
    have:=List.pairwise_iff_getElem.1 h3 j i (by omega) hi (by omega)
    simpa using this
 rw[key]
 constructor
 ·rintro⟨a,⟨b,c⟩,d,e,f,g⟩;exact⟨a,b,c,d,e,f,g⟩
 ·rintro⟨a,b,c,d,e,f,g⟩;exact⟨a,⟨b,c⟩,d,e,f,g⟩
theorem lU (m:aE):gM m=true↔(1≤m.seq∧m.seq≤2147483647)∧(0≤m.next∧m.next≤16777216)∧bF m.p=true∧0≤m.extra∧m.extra≤16:=by
 unfold gM
 rw[Bool.and_eq_true,Bool.and_eq_true,Bool.and_eq_true,kb,kb,kb]
theorem ny (m:aE) (x:ck):eK m x=true↔gK x.name=true∧(0≤x.object∧x.object<m.next)∧(0≤x.length∧x.length≤m.p.1*m.p.2.2*8)∧(∀t∈x.tries,0≤t∧t≤15)∧(x.tries.length:Int)=countP m.p x.length:=by
 unfold eK
 rw[Bool.and_eq_true,Bool.and_eq_true,Bool.and_eq_true,Bool.and_eq_true,kb,kb,List.all_eq_true,decide_eq_true_eq]
 simp only[kb]
 constructor
 ·rintro⟨a,b,c,d,e⟩;exact⟨a,⟨b.1,by omega⟩,c,d,e⟩
 ·rintro⟨a,b,c,d,e⟩;exact⟨a,⟨b.1,by omega⟩,c,d,e⟩
theorem xJ {m:aE} (h:cn m=true):m.drives.Nodup:=((gC m).1 h).2.1.imp fun h e=>by omega
theorem lK {m:aE} (h:cn m=true):∀k∈m.drives,0≤k∧k<64:=fun k hk=>by have:=((gC m).1 h).2.2.1 k hk;omega
theorem CO:∀{l:List Int} {a b:Int},l.Pairwise (·<·)→(∀k∈l,a≤k∧k<b)→a≤b→(l.length:Int)≤b-a
 |[],a,b,_,_,h=>by simp;omega
 |x::l,a,b,hp,hl,h=>by
  obtain⟨h1,h2⟩:=List.pairwise_cons.1 hp
  have hx:=hl x List.mem_cons_self
  have:=CO (a:=x+1) (b:=b) h2 (fun k hk=>⟨by have:=h1 k hk;omega,(hl k (List.mem_cons_of_mem _ hk)).2⟩) (by omega)
  rw[List.length_cons];omega
theorem oD {m:aE} (h:cn m=true):m.drives.length≤64:=by
 have:=CO ((gC m).1 h).2.1 (lK h) (by decide);omega
end Wl
namespace Wl
theorem AF (q r:Nat):∀n,((List.range n).map fun j=>q+(if j<r then 1 else 0)).sum=n*q+min r n
 |0=>by simp
 |n+1=>by
  rw[List.range_succ,List.map_append,List.sum_append,AF q r n,List.map_cons,List.map_nil,List.sum_cons,List.sum_nil,Nat.succ_mul]
  split<;>omega
theorem Iu {n:Nat} (hn:0<n) (T:Nat):((List.range n).map (ig n T)).sum=T:=by
 have e:(List.range n).map (ig n T)=(List.range n).map fun j=>T/n+(if j<T%n then 1 else 0):=List.map_congr_left fun j hj=>wH hn j (List.mem_range.1 hj) T
 rw[e,AF,Nat.min_eq_left (Nat.le_of_lt (Nat.mod_lt T hn))]
 exact Nat.div_add_mod T n
theorem CP {n:Nat} (hn:0<n) (T j:Nat) (hj:j<n):T/n≤ig n T j∧ig n T j≤T/n+1:=by
 rw[wH hn j hj];split<;>omega
end Wl
